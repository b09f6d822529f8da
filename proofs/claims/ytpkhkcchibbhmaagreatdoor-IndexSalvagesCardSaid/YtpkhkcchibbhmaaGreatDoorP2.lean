/- Contracts of the program's functions, proved by walking them with the rules of the Gx texts; without conditions beyond those that each contract names. -/
import Derived.WalkKit
import Derived.Deep.Draws
import Derived.TacticsIn
import Derived.OrdersIn
import Derived.RangeFuncLeaves
import Derived.Lib.Strings
import Derived.Laws.BytesArg
import Derived.Laws.IdiomStrings
import Derived.Deep.Quiet
import Derived.ProofKit
import Derived.OpenShut
import Derived.Laws.StructEq
import Derived.ChangeKeysEq
import Derived.Laws.Externs
import Derived.Lib.Overlaps
import Derived.Carry
import Derived.Laws.Small
import Derived.Lib.Bytealg
import Derived.Lib.Builder
import Derived.Laws.Pointers
import Derived.RangeFuncRecord
import Derived.Test.YtpkhkcchibbhmaaGreatDoorProg
import Derived.KernelRfl
import Derived.SizedLaws
import Derived.ChangeSame
import Derived.Handed
import Derived.Test.YtpkhkcchibbhmaaGreatDoorTie
import Derived.Test.YtpkhkcchibbhmaaGreatDoorCards
import Derived.SevenTiedAt
import Derived.LaidMore
import Derived.Lay
import Derived.Stop.Joined
import Derived.Test.YtpkhkcchibbhmaaGreatDoorP1
set_option linter.unusedSimpArgs false
set_option maxHeartbeats 1000000
set_option linter.unusedVariables false
set_option linter.unusedSectionVars false
set_option linter.unnecessarySimpa false
namespace Go.Proofs
open Go Go.RowKit Gx
attribute [local irreducible] Go.Calls Gx.S Gx.O Gx.D Gx.OpP Gx.OpQ Gx.OpH
set_option maxRecDepth 20000
instance : TFn Tryz.prog 178:=⟨by kernel_rfl⟩
theorem Qpa : QM Tryz.prog 121 = true:=by kernel_rfl
instance : TFn Tryz.prog 121:=⟨Qpa⟩
theorem QsM : QM Tryz.prog 95 = true:=by kernel_rfl
instance : TFn Tryz.prog 95:=⟨QsM⟩
instance : TFn Tryz.prog 94:=⟨by kernel_rfl⟩
instance : TFn Tryz.prog 86:=⟨by kernel_rfl⟩
theorem c94 (w : World) (n : Int) (c : Nat) (hn : 0 ≤ n ∧ n ≤ 9223372036854775807) (hc : c ≤ 1000) : Calls Tryz.prog 94 #[.int .i64 n,.int .i64 (c : Int)] w fun en w'=>en = .returned (.string (bs (Qjy c n))) ∧ Below w.heap.size w w':=by
 refine eN2 Tryz.func94 Tryz.ntmps94 ?_
 refine QgI ?_
 refine Qo (α:=Nat × Int × List UInt8 × Option Addr × Nat) [0,5,6,7,8,9,10,11,12,13,14,15,16,17,18,19] (fun x=>[(6,.int .i64 (x.1 : Int)),(0,.int .i64 x.2.1),(5,.slice x.2.2.2.1 x.2.2.1.length x.2.2.2.2)]) (fun x=>HS w [] [.own (.slice x.2.2.2.1 x.2.2.1.length x.2.2.2.2) 5 1 (x.2.2.1.length) ((x.2.2.1).map bv)]) (fun x=>x.1 ≤ c ∧ x.2.2.1.length = x.1 ∧ (0 ≤ x.2.1 ∧ x.2.1 ≤ 9223372036854775807) ∧ Qjy c n = x.2.2.1 ++ Qjy (c - x.1) x.2.1) (fun x=>c - x.1) (0,n,[],none,0) ⟨Nat.zero_le _,rfl,hn,rfl⟩ aSx (fun w h=>(h.own_nil 5 1).ent aEt) (fun ⟨k,m,p,ga,gc⟩ hx=>?_)
 dsimp only
 obtain ⟨hk1,hpl,hm,hst⟩:=hx
 simp only [] at hk1 hpl hm hst
 refine aU7 ?_
 refine sCd rfl (fun h1=>?_) fun h1=>?_
 ·have hk : k < c:=by omega
  refine aU7 ?_
  refine o_p (Zc rfl rfl rfl (by omega) (by omega)) rfl ?_
  refine o_p (Qg rfl rfl Yf Zm) rfl ?_
  refine Qf (show _ = bv (by8 m) from (YO _).trans (by rw [Qco (show m % 256 % 256 = m % 256 by omega)])) ?_
  refine o_h (Qm (cs:=[_]) rfl rfl Qy Qa9 rfl rfl rfl) rfl (fun b2 _=>?_)
  refine o_h (QK _ rfl rfl rfl Qy Tryz.underlying139 Qa9 rfl aPk (Xa aPk) rfl (by intro u hu;simp only [List.mem_cons,List.mem_nil_iff,or_false] at hu;subst hu;rfl) (by omega) (by simp only [maxLen];omega)) rfl (fun b3 _=>?_)
  refine aU4 ?_
  refine o_p (XL rfl rfl rfl (by omega) (by omega) (by omega)) rfl ?_
  refine aT6 ?_
  refine aU2 ?_
  exact Qu (k + 1,m / 256,p ++ [by8 m],b3.1,b3.2) (by (try simp only []);omega) ⟨by (try simp only []);omega,by simp [hpl],by (try simp only []);omega,by simp only [];rw [hst,show c - k = (c - (k + 1)) + 1 by omega,Qjy,List.append_assoc];rfl⟩ (by dsimp only;rw [List.length_append];exact aSx) (fun w h=>by dsimp only;rw [List.length_append,List.map_append];exact h.ent aEt)
 obtain rfl : k = c:=by omega
 rw [Nat.sub_self,Qjy,List.append_nil] at hst
 refine Qh rfl ?_
 refine aU3 ?_
 refine o_q (QhE rfl rfl Tryz.underlying139 Tryz.underlying9 Tryz.underlying5 aPk (QaU _)) rfl ?_
 refine aU2 ?_
 exact rT rfl rfl (fun w' h'=>⟨by rw [ZK,hst];rfl,h'.below⟩)
theorem Qle (c : Nat) : Xv [.int .u8 0] (c * 1) = (List.replicate c (0 : UInt8)).map bv:=by
  rw [Nat.mul_one,List.map_replicate];exact Qe8 _ _
theorem QoV {m : Int} (h : 0 ≤ m ∧ m ≤ 1000000000000) : Value.int .i64 (IntKind.i64.wrap ((-m).tdiv 8)) = Value.int .i64 (-(m / 8)):=by
  rw [Int.neg_tdiv,Int.tdiv_eq_ediv_of_nonneg h.1];exact Qd6 (by omega) (by omega)
theorem QpL {m : Int} (h : 0 ≤ m) : (-m).tmod 8 = -(m % 8):=by rw [Int.neg_tmod,Int.tmod_eq_emod_of_nonneg h]
theorem c86 (w : World) (c : Nat) (hc : c ≤ 100000) : Calls Tryz.prog 86 #[.int .i64 (c : Int)] w fun en w'=>en = .returned (.string (bs (List.replicate c 0))) ∧ Below w.heap.size w w':=by
 refine eN1 Tryz.func86 Tryz.ntmps86 ?_
 refine aU7 ?_
 refine o_p (QnU rfl rfl rfl ) rfl ?_
 refine o_p (QjS rfl rfl rfl ) rfl ?_
 refine Qf (show _ = Value.int .i64 (c : Int) from congrArg (Value.int .i64) (by split <;> split <;> omega)) ?_
 refine o_h (Quk (n:=c) rfl rfl rfl Qy Qa9 (by omega) (by omega)) rfl (fun b1 _=>?_)
 refine o_q (Yr rfl rfl Tryz.underlying139 Tryz.underlying9 Tryz.underlying5 aPk (by simp [Qv]) (by intro v hv;rw [Qle] at hv;exact QaU _ v hv)) rfl ?_
 refine aU2 ?_
 exact rT rfl rfl (fun w' h'=>⟨by rw [Qle,ZK];rfl,h'.below⟩)
theorem c53 (w : World) (s : List UInt8) (hm : s.length ≤ 1000000000) : Calls Tryz.prog 53 #[.string (bs s)] w fun en w'=>en = .returned (.bool (zer s)) ∧ Below w.heap.size w w':=by
 refine eN1 Tryz.func53 Tryz.ntmps53 ?_
 refine QaP ?_
 refine Qo (α:=Nat) [2,3,4,5,6,7,8,9,10,11,12,13] (fun k=>[(3,.int .i64 (k : Int))]) (fun _=>_) (fun k=>k ≤ s.length ∧ zer (s.take k) = true) (fun k=>s.length - k) 0 ⟨Nat.zero_le _,rfl⟩ aSx (fun w h=>h) (fun k hkk=>?_)
 obtain ⟨hk1,hk2⟩:=hkk
 refine aU5 ?_
 refine o_p (Qj rfl rfl Tryz.underlying9) rfl ?_
 refine aU2 ?_
 refine sCd rfl (fun h1=>?_) fun h1=>?_
 ·have hk : k < s.length:=by omega
  have hst:=QnO hk
  refine aU7 ?_
  refine o_p (Q0 rfl rfl rfl Tryz.underlying9 (k) (by omega) (by omega)) rfl ?_
  refine aU2 ?_
  refine sCd rfl (fun h2=>?_) fun h2=>?_
  ·have hz : ¬ s.getD k 0 = 0:=by have hq:=h2;intro h9;exact hq (QhT.2 h9)
   have hf:=Qtv hk hz
   refine aU4 ?_
   exact rT rfl rfl (fun w' h'=>⟨by rw [hf];rfl,h'.below⟩)
  have hz : s.getD k 0 = 0:=QhT.1 (by have hq:=h2;simpa using hq)
  refine aT5 ?_
  refine aU2 ?_
  exact Qu (k + 1) (by omega) ⟨by omega,by rw [hst,hk2,hz];rfl⟩ aSx (fun w h=>h)
 obtain rfl : k = s.length:=by omega
 rw [List.take_length] at hk2
 refine Qh rfl ?_
 refine aU4 ?_
 exact rT rfl rfl (fun w' h'=>⟨by rw [hk2];rfl,h'.below⟩)
theorem c54 (w : World) (l : List UInt8) (p : Nat) (d : List UInt8) (hp : p + d.length ≤ l.length) (hl : l.length ≤ 1000000000) : Calls Tryz.prog 54 #[.string (bs l),.int .i64 (p : Int),.string (bs d)] w fun en w'=>en = .returned (.string (bs (QC l p d))) ∧ Below w.heap.size w w':=by
 refine eN3 Tryz.func54 Tryz.ntmps54 ?_
 refine aU5 ?_
 refine QF [] QV ?_
 refine dP 0 ?_
 refine dP 1 ?_
 refine dV 2 rfl (YQ p rfl rfl rfl Tryz.underlying9 rfl (by omega)) ?_
 refine dP 3 ?_
 refine dV 4 rfl (QbS rfl rfl rfl (by (try simp only [List.length_append,List.length_cons,List.length_nil,List.length_replicate,List.length_take,List.length_drop]);omega)) ?_
 refine dP 5 ?_
 refine dP 6 ?_
 refine dP 7 ?_
 refine dV 8 rfl (Qj rfl rfl Tryz.underlying9) ?_
 refine dP 9 ?_
 try refine dWr ?_
 refine dV 10 rfl (Yo (p + d.length) rfl rfl rfl Tryz.underlying9 (by omega) (by omega)) ?_
 refine dV 11 rfl (QbS rfl rfl rfl (by (try simp only [List.length_append,List.length_cons,List.length_nil,List.length_replicate,List.length_take,List.length_drop]);omega)) ?_
 refine dP 12 ?_
 refine dNi ?_
 exact rT rfl rfl (fun w' h'=>⟨by rfl,h'.below⟩)
theorem c178 (w : World) (m : Int) (hm : 0 ≤ m ∧ m ≤ 1000000000000) : Calls Tryz.prog 178 #[.int .i64 (-m),.int .i64 8] w fun en w'=>en = .returned (.int .i64 (-((m + 7) / 8))) ∧ Below w.heap.size w w':=by
 refine eN2 Tryz.func178 Tryz.ntmps178 ?_
 refine aU8 ?_
 refine o_p (Qo3 rfl rfl rfl (by decide)) rfl ?_
 refine Qf (QoV hm) ?_
 refine aU7 ?_
 refine o_p (Ql2 rfl rfl rfl (by decide)) rfl ?_
 refine Qf (show _ = Value.int .i64 (-(m % 8)) from by rw [QpL hm.1]) ?_
 refine aU2 ?_
 refine sCd rfl (fun h1=>?_) fun h1=>?_
 ·refine aT3 ?_
  refine aU7 ?_
  exact rT rfl rfl (fun w' h'=>⟨by simp only [Xd];congr 2;omega,h'.below⟩)
 refine aU6 ?_
 exact rT rfl rfl (fun w' h'=>⟨by simp only [Xd];congr 2;omega,h'.below⟩)
theorem c121 (w : World) (m : Int) (hm : 0 ≤ m ∧ m ≤ 1000000000000) : Calls Tryz.prog 121 #[.int .i64 m,.int .i64 8] w fun en w'=>en = .returned (.int .i64 ((m + 7) / 8)) ∧ Below w.heap.size w w':=by
 refine eN2 Tryz.func121 Tryz.ntmps121 ?_
 refine aT8 ?_
 refine Qf (show _ = Value.int .i64 (-m) from by rw [Int.zero_sub]) ?_
 refine aU ?_
 refine oCq rfl (fun w1 h1=>c178 w1 m hm) ?_
 refine aT ?_
 refine Qf (show _ = Value.int .i64 ((m + 7) / 8) from by congr 1;omega) ?_
 refine aU2 ?_
 exact rT rfl rfl (fun w' h'=>⟨by rfl,h'.below⟩)
theorem c95 (w : World) (m : Nat) (hm : m ≤ 1000000000) : Calls Tryz.prog 95 #[.int .i64 (m : Int)] w fun en w'=>en = .returned (.int .i64 ((QT m : Nat) : Int)) ∧ Below w.heap.size w w':=by
 refine eN1 Tryz.func95 Tryz.ntmps95 ?_
 refine aU7 ?_
 refine oCq rfl (fun w1 h1=>c121 w1 (m : Int) (by omega)) ?_
 refine aT ?_
 refine aU2 ?_
 exact rT rfl rfl (fun w' h'=>⟨by simp only [Xd,QT];congr 2,h'.below⟩)
theorem c29 (w : World) (x : TEnt) (c : Int) (hk : x.key.length ≤ 1000000) (hv : x.val.length ≤ 1000000) : Calls Tryz.prog 29 #[.agg #[.string (bs x.key),.string (bs x.val)],.int .i64 c] w fun en w'=>en = .returned (.int .i64 (ZM x c)) ∧ Below w.heap.size w w':=by
 refine eN2 Tryz.func29 Tryz.ntmps29 ?_
 refine aU2 ?_
 refine oBx fun b1 _=>?_
 refine aU7 ?_
 refine o_p (Qj rfl rfl Tryz.underlying9) rfl ?_
 refine oCq rfl (fun w1 h1=>c40 w1 _ _ _) ?_
 refine aU2 ?_
 refine sCd rfl (fun h2=>?_) fun h2=>?_
 ·have hz : ZM x c = 3:=by have hq:=h2;unfold ZM;rw [if_neg (by first | omega | (simp at hq;omega))]
  refine aU4 ?_
  exact rT rfl rfl (fun w' h'=>⟨by rw [hz];rfl,h'.below⟩)
 have hk1 : 1 ≤ x.key.length ∧ x.key.length ≤ 40:=by have hq:=h2;first | omega | (simp at hq;omega)
 refine aU6 ?_
 refine o_p (Qj rfl rfl Tryz.underlying9) rfl ?_
 refine aU2 ?_
 refine o_p (Qj rfl rfl Tryz.underlying9) rfl ?_
 refine aT ?_
 refine aU2 ?_
 refine sCd rfl (fun h3=>?_) fun h3=>?_
 ·have hz : ZM x c = 8:=by have hq:=h3;unfold ZM;rw [if_pos hk1,if_neg (by omega)]
  refine aU4 ?_
  exact rT rfl rfl (fun w' h'=>⟨by rw [hz];rfl,h'.below⟩)
 have hk2 : x.key.length + x.val.length ≤ 88:=by have hq:=h3;omega
 refine aU5 ?_
 refine oCq rfl (fun w1 h1=>c40 w1 _ _ _) ?_
 refine aU2 ?_
 refine sCd rfl (fun h4=>?_) fun h4=>?_
 ·have hz : ZM x c = 2:=by have hq:=h4;unfold ZM;rw [if_pos hk1,if_pos hk2,if_neg (by first | omega | (simp at hq;omega))]
  refine aU4 ?_
  exact rT rfl rfl (fun w' h'=>⟨by rw [hz];rfl,h'.below⟩)
 have hz : ZM x c = 0:=by have hq:=h4;unfold ZM;rw [if_pos hk1,if_pos hk2,if_pos (by first | omega | (simp at hq;omega))]
 refine aU5 ?_
 exact rT rfl rfl (fun w' h'=>⟨by rw [hz];rfl,h'.below⟩)
theorem Qui : QM Tryz.prog 154 = true:=by kernel_rfl
instance : TFn Tryz.prog 88:=⟨by kernel_rfl⟩
theorem Qjd : QM Tryz.prog 59 = true:=by kernel_rfl
instance : TFn Tryz.prog 59:=⟨Qjd⟩
theorem Qsv : QM Tryz.prog 89 = true:=by kernel_rfl
theorem c89 (w : World) (a : Option Addr) (cap : Nat) (l : List UInt8) (x : TEnt) (c : Int) (hw : HS w (fps [.byz a cap (l)]) [.byz a cap (l)] w) (hl : l.length ≤ 900000) (hl8 : l.length % 8 = 0) (hk : x.key.length ≤ 300) (hv : x.val.length ≤ 300) (hc : 0 ≤ c ∧ c < 4294967296) : Calls Tryz.prog 89 #[.slice a l.length cap,.agg #[.string (bs x.key),.string (bs x.val)],.int .i64 c] w fun en w'=>∃ g : Option Addr × Nat,en = .returned (.slice g.1 (l ++ Qcr x c).length g.2) ∧ Qbo a cap g (l ++ Qcr x c).length ∧ HS w (fps [.byz a cap (l)]) [.byz g.1 g.2 (l ++ Qcr x c)] w':=by
 have hsz : x.sz = 8 + x.key.length + x.val.length:=rfl
 have hp8:=Y1 x.sz
 have l1 : (l ++ le2 ((QT x.sz : Nat) : Int)).length = l.length + 2:=by rw [List.length_append];rfl
 have l2 : ((l ++ le2 ((QT x.sz : Nat) : Int)) ++ [by8 x.key.length,by8 x.val.length]).length = l.length + 4:=by rw [List.length_append,l1];rfl
 have l3 : (((l ++ le2 ((QT x.sz : Nat) : Int)) ++ [by8 x.key.length,by8 x.val.length]) ++ le4 c).length = l.length + 8:=by rw [List.length_append,l2];rfl
 have l4 : ((((l ++ le2 ((QT x.sz : Nat) : Int)) ++ [by8 x.key.length,by8 x.val.length]) ++ le4 c) ++ x.key).length = l.length + 8 + x.key.length:=by rw [List.length_append,l3]
 have l5 : (((((l ++ le2 ((QT x.sz : Nat) : Int)) ++ [by8 x.key.length,by8 x.val.length]) ++ le4 c) ++ x.key) ++ x.val).length = l.length + x.sz:=by rw [List.length_append,l4];omega
 have hpd : QT (((((l ++ le2 ((QT x.sz : Nat) : Int)) ++ [by8 x.key.length,by8 x.val.length]) ++ le4 c) ++ x.key) ++ x.val).length - (((((l ++ le2 ((QT x.sz : Nat) : Int)) ++ [by8 x.key.length,by8 x.val.length]) ++ le4 c) ++ x.key) ++ x.val).length = QT x.sz - x.sz:=by rw [l5,Qou hl8];omega
 have he9 : l ++ Qcr x c = (((((l ++ le2 ((QT x.sz : Nat) : Int)) ++ [by8 x.key.length,by8 x.val.length]) ++ le4 c) ++ x.key) ++ x.val) ++ List.replicate (QT (((((l ++ le2 ((QT x.sz : Nat) : Int)) ++ [by8 x.key.length,by8 x.val.length]) ++ le4 c) ++ x.key) ++ x.val).length - (((((l ++ le2 ((QT x.sz : Nat) : Int)) ++ [by8 x.key.length,by8 x.val.length]) ++ le4 c) ++ x.key) ++ x.val).length) 0:=by rw [hpd];simp only [Qcr,List.append_assoc]
 refine eW3 Tryz.func89 Tryz.ntmps89 hw ?_
 refine aU2 ?_
 refine oBx fun b1 _=>?_
 refine aU6 ?_
 refine o_p (Qj rfl rfl Tryz.underlying9) rfl ?_
 refine aT ?_
 refine aU2 ?_
 refine o_p (Qj rfl rfl Tryz.underlying9) rfl ?_
 refine aT ?_
 refine aT ?_
 refine aT ?_
 refine o_p (XL rfl rfl rfl (by omega) (by omega) (by omega)) rfl ?_
 refine aT ?_
 refine Qf (show _ = Value.int .i64 ((QT x.sz : Nat) : Int) from by congr 1;unfold QT;omega) ?_
 refine aU6 ?_
 refine o_p (Qg rfl rfl Yf XW) rfl ?_
 refine Qf (show _ = Value.int .u16 ((QT x.sz : Nat) : Int) from by first | rfl | (rw [Qh5];congr 1;omega)) ?_
 refine o_h (QH (Cs:=[.byz a cap (l)]) rfl QjH rfl aPs (fun w1 h1 hf=>QtZ w1 a cap l ((QT x.sz : Nat) : Int) hf (by omega) (by omega))) rfl (fun ⟨b2,c3⟩ hz4=>?_)
 refine aU7 ?_
 refine o_p (Qj rfl rfl Tryz.underlying9) rfl ?_
 refine o_p (Qg rfl rfl Yf Zm) rfl ?_
 refine Qf (YO _) ?_
 refine aU2 ?_
 refine o_p (Qj rfl rfl Tryz.underlying9) rfl ?_
 refine o_p (Qg rfl rfl Yf Zm) rfl ?_
 refine Qf (YO _) ?_
 refine o_h (Qm (cs:=[_,_]) rfl rfl Qy Qa9 rfl rfl rfl) rfl (fun b5 _=>?_)
 refine o_h (Qau (l:=(l ++ le2 ((QT x.sz : Nat) : Int))) [by8 x.key.length,by8 x.val.length] rfl rfl rfl Qy Tryz.underlying139 Qa9 aPk (Xa aPk) (by simp only [List.length_append,List.length_cons,List.length_nil,le2,le4] <;> omega) (by simp only [maxLen,List.length_append,List.length_cons,List.length_nil,le2,le4] <;> omega)) rfl (fun ⟨b6,c7⟩ h8=>?_)
 refine aU3 ?_
 refine Qk (L':=[(0,_),(2,_),(4,_),(6,_)]) aSx (fun _ h=>h) ?_
 refine aU3 ?_
 refine o_p (Qg rfl rfl Yf YA) rfl ?_
 refine Qf (show _ = Value.int .u32 c from by first | rfl | (rw [QdW];congr 1;omega)) ?_
 refine o_h (QH (Cs:=[.byz b6 c7 (((l ++ le2 ((QT x.sz : Nat) : Int)) ++ [by8 x.key.length,by8 x.val.length]))]) rfl Qqd rfl aPs (fun w1 h1 hf=>c153 w1 b6 c7 ((l ++ le2 ((QT x.sz : Nat) : Int)) ++ [by8 x.key.length,by8 x.val.length]) c hf hc (by omega))) rfl (fun ⟨b9,c10⟩ hz11=>?_)
 refine aU3 ?_
 refine QlW [.blk b1 27 2 [.string (bs x.key),.string (bs x.val)]] [] QV ?_
 refine dP 0 ?_
 refine dFa 1 ?_
 refine dLd 2 [] ?_
 refine dFa 4 ?_
 refine dLd 5 [] ?_
 refine dH 3 rfl (Qb8 (l:=(((l ++ le2 ((QT x.sz : Nat) : Int)) ++ [by8 x.key.length,by8 x.val.length]) ++ le4 c)) rfl rfl rfl Qy Tryz.underlying9 Qa9 aPk (by simp only [List.length_append,List.length_cons,List.length_nil,le2,le4] <;> omega) (by simp only [maxLen,List.length_append,List.length_cons,List.length_nil,le2,le4] <;> omega)) (fun ⟨b12,c13⟩ h14=>?_)
 refine dH 6 rfl (Qb8 (l:=((((l ++ le2 ((QT x.sz : Nat) : Int)) ++ [by8 x.key.length,by8 x.val.length]) ++ le4 c) ++ x.key)) rfl rfl rfl Qy Tryz.underlying9 Qa9 aPk (by simp only [List.length_append,List.length_cons,List.length_nil,le2,le4] <;> omega) (by simp only [maxLen,List.length_append,List.length_cons,List.length_nil,le2,le4] <;> omega)) (fun ⟨b15,c16⟩ h17=>?_)
 refine dH 7 rfl (QH (Cs:=[.byz b15 c16 ((((((l ++ le2 ((QT x.sz : Nat) : Int)) ++ [by8 x.key.length,by8 x.val.length]) ++ le4 c) ++ x.key) ++ x.val))]) rfl Qui rfl aPs (fun w1 h1 hf=>c154 w1 b15 c16 (((((l ++ le2 ((QT x.sz : Nat) : Int)) ++ [by8 x.key.length,by8 x.val.length]) ++ le4 c) ++ x.key) ++ x.val) hf (by omega))) (fun ⟨b18,c19⟩ hz20=>?_)
 refine dP 8 ?_
 refine dNi ?_
 exact rT rfl rfl (fun w' h'=>⟨(b18,c19),by rw [he9];rfl,by rw [he9];exact (((((hz4).trans h8 (by simp only [List.length_append];omega)).trans hz11 (by simp only [List.length_append];omega)).trans h14 (by simp only [List.length_append];omega)).trans h17 (by simp only [List.length_append];omega)).trans hz20 (by simp only [List.length_append];omega),by rw [he9];exact h'.ent aEt⟩)
theorem Qoe : QM Tryz.prog 202 = true:=by kernel_rfl
theorem Qpx : QM Tryz.prog 156 = true:=by kernel_rfl
theorem c202 (w : World) (b : Nat) (n : LNd) (i : Nat) (hb : Rd w [] b 2 (.slice n.ca n.cs.length n.cc)) (hcs : Rw inV 1 w [] n.ca n.cs) (hl : n.cs.length ≤ 1000000) (hi : n.cs.length = 0 ∨ i < n.cs.length) : Calls Tryz.prog 202 #[.int .i64 (i : Int),.pointer (some ⟨b,0,none⟩)] w fun en w'=>en = .returned (.int .i64 (YS n.cs i)) ∧ Below w.heap.size w w':=by
 refine eN2 Tryz.func202 Tryz.ntmps202 ?_
 refine aU8 ?_
 refine o_q (QG rfl rfl QoL (hb)) rfl ?_
 refine aU3 ?_
 refine sCd rfl (fun h1=>?_) fun h1=>?_
 ·have hz : YS n.cs i = 0:=if_pos (by have hq:=h1;omega)
  refine aU4 ?_
  exact rT rfl rfl (fun w' h'=>⟨by rw [hz];rfl,h'.below⟩)
 have hc0 : ¬ n.cs.length = 0:=by have hq:=h1;omega
 have hz : YS n.cs i = nth n.cs i:=if_neg hc0
 refine aU4 ?_
 refine o_q (QG rfl rfl QoL (hb)) rfl ?_
 refine aU ?_
 refine o_p (Qc rfl rfl rfl Xp (i) (by omega) (by omega) (Rw.some hcs (by omega))) rfl ?_
 refine o_q (QG rfl rfl Qhh ((hcs.rdj (i:=i) 0 (by omega) rfl))) rfl ?_
 refine aU2 ?_
 exact rT rfl rfl (fun w' h'=>⟨by rw [hz];rfl,h'.below⟩)
theorem c148 (w : World) (a : Option Addr) (cap : Nat) (l : List UInt8) (n : LNd) (hw : HS w (fps [.byz a cap (l)]) [.byz a cap (l)] w) (hl : l.length ≤ 100000) (hl8 : l.length % 8 = 0) (hes : Rw TEnt.vals 2 w (fps [.byz a cap (l)]) n.ea n.es) (hcs : Rw inV 1 w (fps [.byz a cap (l)]) n.ca n.cs) (hp : NdP n.pl) : Calls Tryz.prog 148 #[.slice a l.length cap,.agg #[.bool n.us,.slice n.ea n.es.length n.ec,.slice n.ca n.cs.length n.cc]] w fun en w'=>∃ g : Option Addr × Nat,en = .returned (.slice g.1 (l ++ YG n.pl).length g.2) ∧ Qbo a cap g (l ++ YG n.pl).length ∧ HS w (fps [.byz a cap (l)]) [.byz g.1 g.2 (l ++ YG n.pl)] w':=by
 have hcl : n.cs.length = 0 ∨ n.cs.length = n.es.length + 1:=hp.cl
 have hel : n.es.length ≤ 1000:=hp.el
 have he9 : l ++ YG n.pl = (l ++ XU n.pl n.es.length) ++ Qd5 (YS n.cs n.es.length):=by rw [List.append_assoc];rfl
 have hee:=hp.ents n.es.length (Nat.le_refl _)
 have hle : (l ++ XU n.pl n.es.length).length = l.length + (XU n.pl n.es.length).length:=List.length_append
 have hke : 0 ≤ YS n.cs n.es.length ∧ YS n.cs n.es.length < 4294967296:=hp.kid (i:=n.es.length) (Nat.le_refl _)
 refine eW2 Tryz.func148 Tryz.ntmps148 hw ?_
 refine aU2 ?_
 refine oBx fun b1 _=>?_
 refine aU16 ?_
 refine Qo (α:=Nat × Option Addr × Nat) [0,6,7,12,13,14,15,16,17,18,19,20,21,22,23] (fun x=>[(12,.int .i64 (x.1 : Int)),(0,.slice x.2.1 (l ++ XU n.pl x.1).length x.2.2)]) (fun x=>HS w (fps [.byz a cap (l)]) [.byz x.2.1 x.2.2 (l ++ XU n.pl x.1),.blk b1 69 3 (LNd.vals n)]) (fun x=>x.1 ≤ n.es.length ∧ Qbo a cap (x.2.1,x.2.2) (l ++ XU n.pl x.1).length) (fun x=>n.es.length - x.1) (0,a,cap) ⟨Nat.zero_le _,fun _=>⟨rfl,rfl⟩⟩ (by simp only [XU,List.append_nil];exact aSx) (fun w h=>(by simp only [XU,List.append_nil];exact h.ent aEt)) (fun ⟨k,a2,c2⟩ hk1=>?_)
 dsimp only
 simp only [] at hk1
 obtain ⟨hk2,hk3⟩:=hk1
 have hek:=hp.ents k hk2
 have hlk : (l ++ XU n.pl k).length = l.length + (XU n.pl k).length:=List.length_append
 refine aU5 ?_
 refine sCd rfl (fun h2=>?_) fun h2=>?_
 ·have hk : k < n.es.length:=by omega
  have hst : l ++ XU n.pl (k + 1) = (l ++ XU n.pl k) ++ Qcr (nth n.es k) (YS n.cs k):=by rw [List.append_assoc];rfl
  have hkk : 0 ≤ YS n.cs k ∧ YS n.cs k < 4294967296:=hp.kid (i:=k) (Nat.le_of_lt hk)
  have hx9 : (nth n.es k).key.length ≤ 300 ∧ (nth n.es k).val.length ≤ 300:=hp.es _ (Xg hk)
  refine aU6 ?_
  refine o_p (Qc rfl rfl rfl Qn (k) (by omega) (by omega) (Rw.some hes (by omega))) rfl ?_
  refine o_q (Zb _ rfl rfl Xc rfl (Rw.rd hes (by omega))) rfl ?_
  refine oAl (fun b3 _=>?_) Xz
  refine aU3 ?_
  refine QF [5] QV ?_
  refine dP 0 ?_
  refine dLn 1 [[]] ?_
  refine dP 2 ?_
  refine dP 3 ?_
  refine dQ 4 [[]] rfl (Yb rfl rfl Qoe rfl (fun w1 h1=>c202 w1 b1 n k (h1.rd_blk (Mc:=[]) aPk rfl (by simp)) (hcs.later h1) (by omega) (by omega))) ?_
  refine dH 5 rfl (QH (Cs:=[.byz a2 c2 (l ++ XU n.pl k)]) rfl Qsv rfl aPs (fun w1 h1 hf=>c89 w1 a2 c2 (l ++ XU n.pl k) (nth n.es k) (YS n.cs k) hf (by omega) (by omega) hx9.1 hx9.2 hkk)) (fun ⟨b4,c5⟩ hz6=>?_)
  refine dTu [] ?_
  refine dP 6 ?_
  refine dNi ?_
  refine aT3 ?_
  refine aU2 ?_
  exact Qu (k + 1,b4,c5) (by (try simp only []);omega) (by simp only [];rw [hst];exact ⟨by omega,hk3.trans hz6 (by simp only [List.length_append];omega)⟩) (by dsimp only;rw [hst];exact aSx) (fun w h=>by dsimp only;rw [hst];exact h.ent aEt)
 obtain rfl : k = n.es.length:=by omega
 refine Qh rfl ?_
 refine aU7 ?_
 refine o_q (Yb rfl rfl Qoe rfl (fun w1 h1=>c202 w1 b1 n n.es.length (h1.rd_blk (Mc:=[]) aPk rfl (by simp)) (hcs.later h1) (by omega) (by omega))) rfl ?_
 refine o_h (QH (Cs:=[.byz a2 c2 (l ++ XU n.pl n.es.length)]) rfl Qpx rfl aPs (fun w1 h1 hf=>c156 w1 a2 c2 (l ++ XU n.pl n.es.length) (YS n.cs n.es.length) hf hke (by omega))) rfl (fun ⟨b7,c8⟩ hz9=>?_)
 refine aU2 ?_
 exact rT rfl rfl (fun w' h'=>⟨(b7,c8),by rw [he9];rfl,by rw [he9];exact hk3.trans hz9 (by simp only [List.length_append];omega),by rw [he9];exact h'.ent aEt⟩)
end Go.Proofs
namespace Gx
open Go Go.RowKit
def bigsN (L : List LNd) : List Bool:=L.map fun n=>!Qpi n.pl
def bigsE (es : List TEnt) : List Bool:=es.map fun x=>!QdE x
end Gx
namespace Go.Proofs
open Go Go.RowKit Gx
attribute [local irreducible] Go.Calls Gx.S Gx.O Gx.D Gx.OpP Gx.OpQ Gx.OpH
set_option maxRecDepth 20000
instance : TFn Tryz.prog 176:=⟨by kernel_rfl⟩
theorem c176 (w : World) (a : Option Addr) (cap : Nat) (l : List TEnt) (q : Nat) (cv : Array Value) (bt : List Bool) (hs : Rw TEnt.vals 2 w [] a l) (hm : l.length ≤ 1000000) (hq : QM Tryz.prog q = true) (hb : bt.length = l.length) (hc : ∀ k w1,k < l.length → HS w [] [] w1 → Calls Tryz.prog q (#[] ++ [.agg (TEnt.vals (nth l k)).toArray].toArray ++ cv) w1 fun en w2=>en = .returned (.bool (bt.getD k false)) ∧ Below w1.heap.size w1 w2) : Calls Tryz.prog 176 #[.slice a l.length cap,.func (.func q) #[] cv] w fun en w'=>en = .returned (.int .i64 (ixI bt)) ∧ Below w.heap.size w w':=by
 refine eN2 Tryz.func176 Tryz.ntmps176 ?_
 refine QaE ?_
 refine Qo (α:=Nat) [4,5,8,9,10,11,12,13,14,15,16,17,18] (fun k=>[(8,.int .i64 (k : Int))]) (fun _=>_) (fun k=>k ≤ l.length ∧ ∀ i,i < k → bt.getD i false = false) (fun k=>l.length - k) 0 ⟨by omega,fun i h=>absurd h (Nat.not_lt_zero i)⟩ aSx (fun w h=>h) (fun k hk=>?_)
 obtain ⟨hk1,hk2⟩:=hk
 refine aU5 ?_
 refine sCd rfl (fun h1=>?_) fun h1=>?_
 ·refine Qfq ?_
  refine o_p (Qc rfl rfl rfl Qn (k) (by omega) (by omega) (Rw.some hs (by omega))) rfl ?_
  refine o_q (Zb _ rfl rfl Xc rfl (Rw.rd hs (by omega))) rfl ?_
  refine o_q (Yb rfl rfl hq rfl (fun w1 h1=>hc k w1 (by omega) (h1.ent aEt))) rfl ?_
  refine aU ?_
  refine sCd rfl (fun h2=>?_) fun h2=>?_
  ·refine aU5 ?_
   exact rT rfl rfl (fun w' h'=>⟨by have e:=Qcn (l:=bt) (k:=k) (by omega) hk2 (fun _=>by assumption);simp only [Xd,ixI,e];rw [if_pos (by omega)],h'.below⟩)
  refine aT4 ?_
  refine aU2 ?_
  exact Qu (k+1) (by omega) ⟨by omega,fun i hi=>(Nat.lt_or_ge i k).elim (hk2 i) (fun h=>by obtain rfl : i = k:=(by omega);assumption)⟩ aSx (fun w h=>h)
 refine Qh rfl ?_
 refine aU4 ?_
 exact rT rfl rfl (fun w' h'=>⟨by have e:=Qcn (l:=bt) (k:=k) (by omega) hk2 (fun h=>by omega);simp only [Xd,ixI,e];rw [if_neg (by omega)],h'.below⟩)
theorem QtL : QM Tryz.prog 148 = true:=by kernel_rfl
end Go.Proofs
namespace Gx
open Go Go.RowKit
section
variable {w : World} {a : Option Addr} {vs : List Value}
theorem Vl.nilA : Vl w a []:=⟨fun hn=>absurd hn (Nat.lt_irrefl 0)⟩
theorem Vl.dropA {cap k : Nat} (h : Vl w a vs) (hk : k ≤ vs.length) (hc : vs.length ≤ cap) : Vl w (Xy a cap k 1) (vs.drop k):=by
 rcases Nat.eq_or_lt_of_le hk with e | e
 ·grind [Vl.nilA]
 ·exact h.drop e (by omega)
theorem Vl.takeA {n : Nat} (h : Vl w a vs) : Vl w a (vs.take n):=by
 refine ⟨fun hn=>?_⟩;rw [List.length_take] at hn;obtain ⟨b,o,rfl,h2⟩:=h.at_ (by omega)
 grind
theorem Vl.sub {cap lo n : Nat} {x : List UInt8} (h : Vl w a (x.map bv)) (hlo : lo + n ≤ x.length) (hc : x.length ≤ cap) : Vl w (Xy a cap lo 1) ((Ql x lo n).map bv):=by
 unfold Ql;rw [List.map_take,List.map_drop];exact (h.dropA (by rw [List.length_map];omega) (by rw [List.length_map];omega)).takeA
end
section
variable {P : Program} {o : Oper} {L : Qb} {w0 : World} {As : List HA}
theorem Ze {src dst e n cap : Nat} {x : Operand} {a : Option Addr} (l : List UInt8) (ho : o.op = .convert src dst x) (hx : ev L x = some (.slice a n cap)) (hs : P.underlying src = some (.slice e)) (hd : P.underlying dst = some .string) (he : P.underlying e = some (.int .u8)) (hl : l.length = n) (hv : Vl w0 a (l.map bv)) : OpQ P o L (HS w0 [] As) (.string (bs l)):=by
 refine Qe3 l ho hx hs hd he hl fun w hw hn=>?_;have h1:=hv.later hw;have h2:=h1.some (by rw [List.length_map];omega);refine ⟨ab a,ao a,h2,fun j hj=>?_⟩;have h3:=h1.rd (i:=j) (v:=.int .u8 (l[j].toNat : Int)) (by rw [List.getElem?_map,List.getElem?_eq_getElem hj];rfl);have h4:=h3.2.2
 rwa [Nat.mul_one] at h4
end
theorem Qef {s : List UInt8} {p0 k count : Nat} {r : RdS} (h : rdE s p0 k = some r) (hk : k < count) (hs : YT s r.p = false) : rdN s p0 count = none:=by
 unfold rdN;rw [QuS h hs hk]
theorem QlP {s : List UInt8} {p0 count : Nat} {r : RdS} (h : rdE s p0 count = some r) (hs : YR s r.p = false) : rdN s p0 count = none:=by grind [rdN]
theorem Qlc {s : List UInt8} {p0 count : Nat} {r : RdS} (h : rdE s p0 count = some r) (hs : YR s r.p = true) : rdN s p0 count = if noz (r.cs ++ [(ub4 s (r.p + 4) : Int)]) then some (⟨true,r.es,r.cs ++ [(ub4 s (r.p + 4) : Int)]⟩,r.p + 8) else if Qdm (r.cs ++ [(ub4 s (r.p + 4) : Int)]) then some (⟨true,r.es,[]⟩,r.p + 8) else none:=by grind [rdN]
def stR (s : List UInt8) (p0 count k : Nat) : Option RdS:=if k ≤ count then rdE s p0 k else match rdE s p0 count with
 | none=>none
 | some r=>if YR s r.p then some ⟨r.es,r.cs ++ [(ub4 s (r.p + 4) : Int)],r.p + 8⟩ else none
theorem Qdt {s : List UInt8} {p0 count k : Nat} (h : k ≤ count) : stR s p0 count k = rdE s p0 k:=if_pos h
theorem QoN {s : List UInt8} {p0 count k : Nat} {r : RdS} (h : stR s p0 count k = some r) (hk : k < count) (hs : YT s r.p = true) : stR s p0 count (k + 1) = some ⟨r.es ++ [Q3 s r.p],r.cs ++ [(ub4 s (r.p + 4) : Int)],r.p + ub2 s r.p⟩:=by grind [Qdt,Qc1]
theorem QpA {s : List UInt8} {p0 count : Nat} {r : RdS} (h : stR s p0 count count = some r) (hs : YR s r.p = true) : stR s p0 count (count + 1) = some ⟨r.es,r.cs ++ [(ub4 s (r.p + 4) : Int)],r.p + 8⟩:=by grind [Qdt,stR]
theorem Qg3 {s : List UInt8} {p0 count k : Nat} {r : RdS} (h : stR s p0 count k = some r) (hk : k < count) (hs : YT s r.p = false) : rdN s p0 count = none:=by grind [Qdt,Qef]
theorem QlL {s : List UInt8} {p0 count : Nat} {r : RdS} (h : stR s p0 count count = some r) (hs : YR s r.p = false) : rdN s p0 count = none:=by grind [Qdt,QlP]
theorem Qro {s : List UInt8} {p0 count : Nat} {r : RdS} (h : stR s p0 count (count + 1) = some r) : rdN s p0 count = if noz r.cs then some (⟨true,r.es,r.cs⟩,r.p) else if Qdm r.cs then some (⟨true,r.es,[]⟩,r.p) else none:=by grind [stR,rdE,Qlc]
theorem QsT {s : List UInt8} {p0 count k : Nat} (h0 : p0 ≤ s.length) {r : RdS} (h : stR s p0 count k = some r) (hk : k ≤ count + 1) : p0 ≤ r.p ∧ r.p ≤ s.length ∧ r.es.length ≤ k ∧ r.cs.length ≤ k:=by
 unfold stR at h;split at h
 ·obtain ⟨h1,h2,h3,h4,_⟩:=QaW h0 h;omega
 ·cases hq : rdE s p0 count with
  | none=>rw [hq] at h;cases h
  | some q=>
   rw [hq] at h;simp only [] at h;obtain ⟨h1,h2,h3,h4,_⟩:=QaW h0 hq
   grind [YR]
theorem QjV {s : List UInt8} {p : Nat} (h : ¬ (p + 8 ≤ s.length ∧ ub4 s (p + 4) ≤ 120 ∧ p + ub2 s p ≤ s.length ∧ Q9 s p ≤ ub2 s p)) : YT s p = false ∧ YR s p = false:=by
 have hp:=Y1 (Q9 s p);have hb : ub2 s (p + 2) = ub1 s (p + 2) + ub1 s (p + 3) * 256:=rfl
 grind [Q9,ub1,YT,YV,Yt,YR]
theorem QlJ {s : List UInt8} {p : Nat} (h : Yt (Q3 s p) (ub4 s (p + 4)) = false) : YT s p = false:=by grind [YT,YV]
theorem QlC {s : List UInt8} {p : Nat} (h : p + 8 ≤ s.length ∧ ub4 s (p + 4) ≤ 120 ∧ p + ub2 s p ≤ s.length ∧ Q9 s p ≤ ub2 s p) (hK : Yt (Q3 s p) (ub4 s (p + 4)) = true) : decide (Qcr (Q3 s p) (ub4 s (p + 4) : Int) = Ql s p (ub2 s p)) = YT s p:=by grind [Qlv,YV]
theorem QiX {s : List UInt8} {p : Nat} (h : p + 8 ≤ s.length ∧ ub4 s (p + 4) ≤ 120 ∧ p + ub2 s p ≤ s.length ∧ Q9 s p ≤ ub2 s p) : decide (Qd5 (ub4 s (p + 4) : Int) = Ql s p (ub2 s p)) = YR s p:=by grind [Qkv,YR]
def nzB (l : List Int) : List Bool:=l.map fun c=>decide (c ≠ 0)
theorem Qqy {l : List Int} {k : Nat} (h : k < l.length) : (nzB l).getD k false = decide (nth l k ≠ 0):=by
 unfold nzB;rw [QeE (d:=default) h];rfl
theorem QkT (l : List Int) : (nzB l).any id = !(Qdm l):=by simp [List.any_map,List.all_eq_not_any_not,Bool.not_not,nzB,Qdm]
theorem Ql3 (l : List Int) : noz l = !(decide ((0 : Int) ∈ l)):=by grind [noz]
def Qru (s : List UInt8) (p : Nat) : Prop:=p + 8 ≤ s.length ∧ ub4 s (p + 4) ≤ 120 ∧ p + ub2 s p ≤ s.length ∧ Q9 s p ≤ ub2 s p
theorem Qlj {s : List UInt8} {p0 count k : Nat} {r : RdS} (h : stR s p0 count k = some r) (hk : k < count + 1) (hs : ¬ Qru s r.p) : rdN s p0 count = none:=by
 rcases Nat.lt_or_ge k count with h9 | h9
 ·exact Qg3 h h9 (QjV hs).1
 ·obtain rfl : k = count:=by omega
  exact QlL h (QjV hs).2
def Qir (s : List UInt8) (p k count : Nat) : List UInt8:=if k < count then Qcr (Q3 s p) (ub4 s (p + 4) : Int) else Qd5 (ub4 s (p + 4) : Int)
def esR (s : List UInt8) (r : RdS) (k count : Nat) : List TEnt:=if k < count then r.es ++ [Q3 s r.p] else r.es
theorem QgG {s : List UInt8} {p k count : Nat} (h : k < count) : Qir s p k count = Qcr (Q3 s p) (ub4 s (p + 4) : Int):=if_pos h
theorem QgW {s : List UInt8} {p k count : Nat} (h : ¬ k < count) : Qir s p k count = Qd5 (ub4 s (p + 4) : Int):=if_neg h
theorem Qqw {s : List UInt8} {r : RdS} {k count : Nat} (h : k < count) : esR s r k count = r.es ++ [Q3 s r.p]:=if_pos h
theorem Qo0 {s : List UInt8} {r : RdS} {k count : Nat} (h : ¬ k < count) : esR s r k count = r.es:=if_neg h
theorem Qtg {s : List UInt8} {p0 count k : Nat} {r : RdS} (hst : stR s p0 count k = some r) (hk : k < count + 1) (h4 : Qru s r.p) (hK : k < count → Yt (Q3 s r.p) (ub4 s (r.p + 4)) = true) (h : ¬ Qir s r.p k count = Ql s r.p (ub2 s r.p)) : rdN s p0 count = none:=by
 rcases Nat.lt_or_ge k count with h9 | h9
 ·rw [QgG h9] at h;refine Qg3 hst h9 ?_;rw [← QlC h4 (hK h9)]
  grind
 ·obtain rfl : k = count:=by omega
  rw [QgW (Nat.lt_irrefl _)] at h;refine QlL hst ?_;rw [← QiX h4]
  grind
theorem QuQ {s : List UInt8} {p0 count k : Nat} {r : RdS} (hst : stR s p0 count k = some r) (hk : k < count + 1) (h4 : Qru s r.p) (hK : k < count → Yt (Q3 s r.p) (ub4 s (r.p + 4)) = true) (h : Qir s r.p k count = Ql s r.p (ub2 s r.p)) : stR s p0 count (k + 1) = some ⟨esR s r k count,r.cs ++ [(ub4 s (r.p + 4) : Int)],r.p + ub2 s r.p⟩:=by
 rcases Nat.lt_or_ge k count with h9 | h9
 ·rw [QgG h9] at h;rw [Qqw h9];refine QoN hst h9 ?_;rw [← QlC h4 (hK h9)]
  grind
 ·obtain rfl : k = count:=by omega
  rw [QgW (Nat.lt_irrefl _)] at h;rw [Qo0 (Nat.lt_irrefl _)];have he : YR s r.p = true:=by rw [← QiX h4];exact decide_eq_true h
  grind [ub2,YR,QpA]
theorem Qcg {α β : Type} {f : α → List β} (l : List α) (x : α) : (l ++ [x]).flatMap f = l.flatMap f ++ f x:=by simp
theorem QeL {x : TEnt} {c : Nat} (hc : c ≤ 120) : Yt x c = ((decide (1 ≤ (x.key.length : Int)) && decide ((x.key.length : Int) ≤ 40)) && (decide ((x.val.length : Int) ≤ 64) && QdE x)):=by grind [Yt,QdE]
end Gx
namespace Go.Proofs
open Go Go.RowKit Gx
attribute [local irreducible] Go.Calls Gx.S Gx.O Gx.D Gx.OpP Gx.OpQ Gx.OpH
set_option maxRecDepth 20000
instance : TFn Tryz.prog 207:=⟨by kernel_rfl⟩
theorem c157 (w : World) (a b : Option Addr) (c d : Nat) (x y : List UInt8) (hx : Vl w a (x.map bv)) (hy : Vl w b (y.map bv)) : Calls Tryz.prog 157 #[.slice a x.length c,.slice b y.length d] w fun en w'=>en = .returned (.bool (decide (x = y))) ∧ Below w.heap.size w w':=by
 refine eN2 Tryz.func157 Tryz.ntmps157 ?_
 refine aU7 ?_
 refine o_q (Ze x rfl rfl Tryz.underlying139 Tryz.underlying9 Tryz.underlying5 rfl hx) rfl ?_
 refine aU ?_
 refine o_q (Ze y rfl rfl Tryz.underlying139 Tryz.underlying9 Tryz.underlying5 rfl hy) rfl ?_
 refine aU3 ?_
 exact rT rfl rfl (fun w' h'=>⟨by rfl,h'.below⟩)
theorem c159 (w : World) (c : Int) : Calls Tryz.prog 159 #[.int .i64 c] w fun en w'=>en = .returned (.bool (decide (c ≠ 0))) ∧ Below w.heap.size w w':=by
 refine eN1 Tryz.func159 Tryz.ntmps159 ?_
 refine QaP ?_
 exact rT rfl rfl (fun w' h'=>⟨by simp only [Xd];congr 2;simp,h'.below⟩)
theorem c207 (w : World) (a : Option Addr) (cap : Nat) (l : List Int) (q : Nat) (cv : Array Value) (bt : List Bool) (hs : Rw inV 1 w [] a l) (hm : l.length ≤ 1000000) (hq : QM Tryz.prog q = true) (hb : bt.length = l.length) (hc : ∀ k w1,k < l.length → HS w [] [] w1 → Calls Tryz.prog q (#[] ++ [.int .i64 (nth l k)].toArray ++ cv) w1 fun en w2=>en = .returned (.bool (bt.getD k false)) ∧ Below w1.heap.size w1 w2) : Calls Tryz.prog 207 #[.slice a l.length cap,.func (.func q) #[] cv] w fun en w'=>en = .returned (.int .i64 (ixI bt)) ∧ Below w.heap.size w w':=by
 refine eN2 Tryz.func207 Tryz.ntmps207 ?_
 refine QaE ?_
 refine Qo (α:=Nat) [4,5,8,9,10,11,12,13,14,15,16,17,18] (fun k=>[(8,.int .i64 (k : Int))]) (fun _=>_) (fun k=>k ≤ l.length ∧ ∀ i,i < k → bt.getD i false = false) (fun k=>l.length - k) 0 ⟨by omega,fun i h=>absurd h (Nat.not_lt_zero i)⟩ aSx (fun w h=>h) (fun k hk=>?_)
 obtain ⟨hk1,hk2⟩:=hk
 refine aU5 ?_
 refine sCd rfl (fun h1=>?_) fun h1=>?_
 ·refine Qfq ?_
  refine o_p (Qc rfl rfl rfl Xp (k) (by omega) (by omega) (Rw.some hs (by omega))) rfl ?_
  refine o_q (QG rfl rfl Qhh ((hs.rdj (i:=k) 0 (by omega) rfl))) rfl ?_
  refine o_q (Yb rfl rfl hq rfl (fun w1 h1=>hc k w1 (by omega) (h1.ent aEt))) rfl ?_
  refine aU ?_
  refine sCd rfl (fun h2=>?_) fun h2=>?_
  ·refine aU5 ?_
   exact rT rfl rfl (fun w' h'=>⟨by have e:=Qcn (l:=bt) (k:=k) (by omega) hk2 (fun _=>by assumption);simp only [Xd,ixI,e];rw [if_pos (by omega)],h'.below⟩)
  refine aT4 ?_
  refine aU2 ?_
  exact Qu (k+1) (by omega) ⟨by omega,fun i hi=>(Nat.lt_or_ge i k).elim (hk2 i) (fun h=>by obtain rfl : i = k:=(by omega);assumption)⟩ aSx (fun w h=>h)
 refine Qh rfl ?_
 refine aU4 ?_
 exact rT rfl rfl (fun w' h'=>⟨by have e:=Qcn (l:=bt) (k:=k) (by omega) hk2 (fun h=>by omega);simp only [Xd,ixI,e];rw [if_neg (by omega)],h'.below⟩)
theorem c158 (w : World) (a : Option Addr) (cap : Nat) (l : List Int) (q : Nat) (cv : Array Value) (bt : List Bool) (hs : Rw inV 1 w [] a l) (hm : l.length ≤ 1000000) (hq : QM Tryz.prog q = true) (hb : bt.length = l.length) (hc : ∀ k w1,k < l.length → HS w [] [] w1 → Calls Tryz.prog q (#[] ++ [.int .i64 (nth l k)].toArray ++ cv) w1 fun en w2=>en = .returned (.bool (bt.getD k false)) ∧ Below w1.heap.size w1 w2) : Calls Tryz.prog 158 #[.slice a l.length cap,.func (.func q) #[] cv] w fun en w'=>en = .returned (.bool (bt.any id)) ∧ Below w.heap.size w w':=by
 refine eN2 Tryz.func158 Tryz.ntmps158 ?_
 refine aU8 ?_
 refine oCq rfl (fun w1 h1=>c207 w1 a cap l q cv bt (hs.later h1) hm hq hb (fun k w2 hk h2=>hc k w2 hk (by simpa using h1.call h2))) ?_
 refine aU3 ?_
 exact rT rfl rfl (fun w' h'=>⟨by simp only [Xd];rw [← QlY],h'.below⟩)
end Go.Proofs
namespace Gx
open Go Go.RowKit
def czI (l : List Int) : Nat:=(l.filter fun c=>decide (c = 0)).length
theorem QnP (l : List Int) : czI l ≤ l.length:=List.length_filter_le _ _
theorem QoZ {l : List Int} {k : Nat} (h : k < l.length) : czI (l.take (k + 1)) = czI (l.take k) + (if nth l k = 0 then 1 else 0):=by
 unfold czI;rw [List.take_add_one,List.getElem?_eq_getElem h,List.filter_append,List.length_append]
 grind [nth,QdC]
theorem QsA {l : List Int} : czI l = 0 ↔ noz l = true:=by simp_all [czI,noz]
theorem QkN {l : List Int} : czI l = l.length ↔ Qdm l = true:=by simp_all [czI,Qdm]
theorem Qah (s : List UInt8) (a b : Nat) : (s.take b).drop a = Ql s a (b - a):=by
 unfold Ql;rw [List.drop_take]
theorem QiD {x : TEnt} {c : Nat} : Yt x c = (decide (ZM x c = 0) && decide ((x.val.length : Int) ≤ 64)):=by grind [Yt,ZM]
theorem QqV {s : List UInt8} {p : Nat} (h : ¬ (ub2 s p = QT (Q9 s p) ∧ p + ub2 s p ≤ s.length ∧ zer (Ql s (p + Q9 s p) (ub2 s p - Q9 s p)) = true)) : YT s p = false:=by grind [YT,YV]
theorem QqF {s : List UInt8} {p : Nat} (h8 : p + 8 ≤ s.length) (h : ub2 s p = QT (Q9 s p) ∧ p + ub2 s p ≤ s.length ∧ zer (Ql s (p + Q9 s p) (ub2 s p - Q9 s p)) = true) (hK : Yt (Q3 s p) (ub4 s (p + 4)) = true) : YT s p = true:=
 YV.2 ⟨⟨h8,h.1,h.2.1⟩,h.2.2,hK⟩
section
variable {w0 w : World} {M : List Nat} {As As' : List HA} {a : Option Addr} {cap et nt' : Nat} {L : List LNd}
theorem HS.nodes_of1 {n : LNd} (h : HS w0 M (.own (.slice a 1 cap) nt' 3 1 (LNd.vals n) :: .ents et n.ea n.ec n.es :: .kids n.ca n.cc n.cs :: As) w) : HS w0 M (.nodes et nt' a cap [n] :: As) w:=by
 have h1 : HS w0 M ([.ents et n.ea n.ec n.es,.kids n.ca n.cc n.cs] ++ (.own (.slice a 1 cap) nt' 3 1 (LNd.vals n) :: As)) w:=h.perm ((List.Perm.swap ..).trans (List.Perm.cons _ (List.Perm.swap ..)));have h2 : HS w0 M ([Qki et n] ++ (.own (.slice a 1 cap) nt' 3 1 (LNd.vals n) :: As)) w:=HS.star_close h1;have h3 : HS w0 M (.star ([n].map (Qki et)) :: .own (.slice a 1 cap) nt' 3 1 (LNd.vals n) :: As) w:=HS.star_close h2;exact HS.row_shut (l:=[n]) (h3.perm (List.Perm.swap ..)) rfl (by simp)
theorem HS.nodes_own (h : HS w0 M As w) (hp : QD As (.nodes et nt' a cap L) As') : HS w0 M (.own (.slice a L.length cap) nt' 3 L.length (L.flatMap LNd.vals) :: As') w:=by
 have h1:=HS.row_open (h.pick hp);exact (h1.perm ((List.Perm.swap ..))).tail
theorem HS.nodes_some (hn : 0 < L.length) (h : HS w0 M As w) (hp : QD As (.nodes et nt' a cap L) As') : ∃ g,a = some ⟨g,0,none⟩ ∧ L.length ≤ cap ∧ cap ≤ maxLen:=by
 obtain ⟨_,⟨_,h0⟩ | ⟨g,cap',e,h1,h2,_⟩⟩:=(h.nodes_own hp).head
 ·omega
 grind
theorem HS.nodes_blk {g : Nat} {x : LNd} (h : HS w0 M As w) (hp : QD As (.nodes et nt' (some ⟨g,0,none⟩) cap [x]) As') : HS w0 M (.blk g nt' (cap * 3) (LNd.vals x) :: As') w:=by
 have h1:=h.nodes_own hp;have h2:=HS.own_at h1 .here
 simpa using h2
end
theorem HS.ents_some {w0 w : World} {M : List Nat} {As As' : List HA} {et cap : Nat} {a : Option Addr} {l : List TEnt} (hn : 0 < l.length) (h : HS w0 M As w) (hp : QD As (.ents et a cap l) As') : ∃ g,a = some ⟨g,0,none⟩:=by
 obtain ⟨g,e,_⟩:=HS.own_blk hn hp h;exact ⟨g,e⟩
theorem QjL {L : List LNd} {x : Nd} (h : pln L = [x]) : ∃ y,L = [y] ∧ y.pl = x:=by simp_all
def Qa3 (co : Int) (es : List TEnt) : Bool:=es.all fun x=>Qz co x.key
theorem QpO {co : Int} {es : List TEnt} {k : Nat} (h : k < es.length) (h2 : Qz co (nth es k).key = false) : Qa3 co es = false:=by
 cases hb : Qa3 co es with
 | false=>rfl
 | true=>
  have:=List.all_eq_true.1 hb _ (Xg h)
  grind
theorem Qdz {co : Int} {es : List TEnt} (h : ∀ i,i < es.length → Qz co (nth es i).key = true) : Qa3 co es = true:=by
 refine List.all_eq_true.2 fun x hx=>?_;obtain ⟨i,hi,e⟩:=List.getElem_of_mem hx;have:=h i hi
 simp_all [QdC,hi]
theorem QeM {co : Int} {es : List TEnt} (h : Qa3 co es = true) {k : Nat} (hk : k < es.length) : Qz co (nth es k).key = true:=List.all_eq_true.1 h _ (Xg hk)
theorem Qu0 {co : Int} {k : List UInt8} : X8 co k = 0 ↔ Qz co k = true:=by grind [X8]
theorem Qjp {s : List UInt8} (h : s.length < 16) : Qa s = (noT,10):=if_pos h
section
variable {s : List UInt8} (h1 : ¬ s.length < 16)
include h1
theorem QkC (h2 : ¬ s.take 4 = Qa6) : Qa s = (noT,3):=by unfold Qa;rw [if_neg h1,if_neg h2]
variable (h2 : s.take 4 = Qa6)
include h2
theorem Qpm (h3 : ¬ Qw (at1 s 4) = 0) : Qa s = (noT,Qw (at1 s 4)):=by unfold Qa;rw [if_neg h1,if_pos h2,if_neg h3]
variable (h3 : Qw (at1 s 4) = 0)
include h3
theorem Qpz (h4 : ¬ Zr (at1 s 5) (at1 s 6) = 0) : Qa s = (noT,Zr (at1 s 5) (at1 s 6)):=by unfold Qa;rw [if_neg h1,if_pos h2,if_pos h3,if_neg h4]
variable (h4 : Zr (at1 s 5) (at1 s 6) = 0)
include h4
theorem QkW (h5 : ¬ at1 s 5 ≤ 4) : Qa s = (noT,8):=by unfold Qa;rw [if_neg h1,if_pos h2,if_pos h3,if_pos h4,if_neg h5]
variable (h5 : at1 s 5 ≤ 4)
include h5
theorem Qlr (h6 : ¬ at1 s 7 ≤ at1 s 6) : Qa s = (noT,16):=by unfold Qa;rw [if_neg h1,if_pos h2,if_pos h3,if_pos h4,if_pos h5,if_neg h6]
variable (h6 : at1 s 7 ≤ at1 s 6)
include h6
theorem QjJ (h7 : ∀ n,rdN s 8 (ub1 s 7) = some (n,s.length) → QdB (at1 s 4) n.es = false) : Qa s = (noT,3):=by grind [Qa,rdN,ub1]
theorem Qsa {n : Nd} (h7 : rdN s 8 (ub1 s 7) = some (n,s.length)) (h8 : QdB (at1 s 4) n.es = true) : Qa s = (⟨at1 s 4,at1 s 5,at1 s 6,[n]⟩,0):=by grind [Qa]
end
def rtE (s : List UInt8) : Int:=if Qw (at1 s 4) = 0 then if Zr (at1 s 5) (at1 s 6) = 0 then if at1 s 5 ≤ 4 then if at1 s 7 ≤ at1 s 6 then 0 else 16 else 8 else Zr (at1 s 5) (at1 s 6) else Qw (at1 s 4)
theorem Qvd {s : List UInt8} (h : rtE s = 0) : Qw (at1 s 4) = 0 ∧ Zr (at1 s 5) (at1 s 6) = 0 ∧ at1 s 5 ≤ 4 ∧ at1 s 7 ≤ at1 s 6:=by grind [rtE]
theorem Qus {s : List UInt8} (h1 : ¬ s.length < 16) (h2 : s.take 4 = Qa6) (h : ¬ rtE s = 0) : Qa s = (noT,rtE s):=by
 by_cases h3 : Qw (at1 s 4) = 0
 ·grind [Zr,at1,rtE,Qlr,QkW,Qpz]
 grind [Qpm,rtE]
section
variable {P : Program} {o : Oper} {L : Qb} {w0 : World} {M : List Nat} {As As' : List HA}
theorem Qg0 {src dst e n cap b bt tot : Nat} {x : Operand} (s : List UInt8) (ho : o.op = .convert src dst x) (hx : ev L x = some (.slice (some ⟨b,0,none⟩) n cap)) (hs : P.underlying src = some (.slice e)) (hd : P.underlying dst = some .string) (he : P.underlying e = some (.int .u8)) (hn : n ≤ s.length) (hp : QD As (.blk b bt tot (s.map bv)) As') : OpQ P o L (HS w0 M As) (.string (bs (s.take n))):=by
 refine Qe3 (s.take n) ho hx hs hd he (by rw [List.length_take];omega) fun w hw _=>⟨b,0,rfl,fun j hj=>?_⟩;rw [List.length_take] at hj;rw [Nat.zero_add];refine (hw.blk_get hp).cell ?_
 grind [bv]
end
theorem QaM {s : List UInt8} {p0 count k : Nat} (h0 : p0 ≤ s.length) {r : RdS} (h : stR s p0 count k = some r) (hk : k ≤ count + 1) : r.es.length ≤ count ∧ ∀ x ∈ r.es,Yt x 0 = true:=by
 unfold stR at h;split at h
 ·obtain ⟨h1,_,_,_,_,h6,_⟩:=QaW h0 h
  grind
 ·cases hq : rdE s p0 count with
  | none=>rw [hq] at h;cases h
  | some q=>
   rw [hq] at h;simp only [] at h;obtain ⟨h1,_,_,_,_,h6,_⟩:=QaW h0 hq
   grind
theorem QuW {x : TEnt} {c : Nat} (h : Yt x c = true) : Yt x 0 = true:=by grind [Yt]
theorem QuJ {s : List UInt8} {p0 count k : Nat} (h0 : p0 ≤ s.length) {r : RdS} (h : stR s p0 count k = some r) (hk : k < count + 1) (hK : k < count → Yt (Q3 s r.p) (ub4 s (r.p + 4)) = true) : (esR s r k count).length ≤ count ∧ ∀ x ∈ esR s r k count,Yt x 0 = true:=by
 obtain ⟨h1,h2⟩:=QaM h0 h (by omega);rcases Nat.lt_or_ge k count with hc | hc
 ·rw [Qqw hc];rw [Qdt (by omega)] at h;have h3:=(QaW h0 h).1
  grind [QuW]
 grind [Qo0]
end Gx
namespace Go.Proofs
open Go Go.RowKit Gx
attribute [local irreducible] Go.Calls Gx.S Gx.O Gx.D Gx.OpP Gx.OpQ Gx.OpH
set_option maxRecDepth 20000
theorem Qt9 : QM Tryz.prog 159 = true:=by kernel_rfl
theorem QoF : QM Tryz.prog 132 = true:=by kernel_rfl
theorem Qsh : Y3 Tryz.prog 27 = some [(0,1),(1,1)]:=by kernel_rfl
instance : TFn Tryz.prog 157:=⟨by kernel_rfl⟩
instance : TFn Tryz.prog 158:=⟨by kernel_rfl⟩
theorem c92 (w : World) (s : List UInt8) (p0 count : Nat) (a : Option Addr) (cap : Nat) (hs : Vl w a ((s.drop p0).map bv)) (hp0 : p0 ≤ s.length) (hsl : s.length ≤ 1000000) (hcap : s.length - p0 ≤ cap) (hc9 : cap ≤ 9223372036854775807) (hct : count ≤ 1000) : Calls Tryz.prog 92 #[.slice a (s.length - p0) cap,.int .i64 (count : Int)] w fun en w'=>∃ g : LNd × Option Addr × Nat × Nat,en = .returned (.tuple #[.agg (LNd.vals g.1).toArray,.slice g.2.1 g.2.2.1 g.2.2.2,.bool (rdN s p0 count).isSome]) ∧ ((∀ nd e,rdN s p0 count = some (nd,e) → g.1.pl = nd ∧ g.2.2.1 = s.length - e) ∧ g.1.es.length ≤ count ∧ ∀ x ∈ g.1.es,Yt x 0 = true) ∧ HS w [] [.ents 27 g.1.ea g.1.ec g.1.es,.kids g.1.ca g.1.cc g.1.cs] w':=by
 refine eN2 Tryz.func92 Tryz.ntmps92 ?_
 refine aU2 ?_
 refine oAl (fun b1 _=>?_) Y6
 refine aT17 ?_
 refine aU3 ?_
 refine Qo (α:=Nat × RdS × (Option Addr × Nat) × (Option Addr × Nat) × (Option Addr × Nat)) [0,5,6,7,8,9,10,11,12,13,14,19,20,21,22,23,24,25,26,27,28,29,30,31,32,33,34,35,36,37,38,39,40,41,42,43,44,45,46,47,48,49,50,51,52,53,54,55,56,57,58,59,60,61,62,63,64,65,66,67,68,69,70,71,72,73,74,75,76,77,78,79,80,81,82,83,84,85,86,87,88,89,90,91,92,93,94,95,96,97,98,99,100,101,102,103,104,105,106,107,108,109,110,111,112,113,114] (fun x=>[(19,.int .i64 (x.1 : Int)),(7,.slice x.2.2.2.1.1 x.2.1.cs.length x.2.2.2.1.2),(0,.slice x.2.2.2.2.1 (s.length - x.2.1.p) x.2.2.2.2.2)]) (fun x=>HS w [] [.blk b1 69 3 [.bool true,.slice x.2.2.1.1 x.2.1.es.length x.2.2.1.2,.slice none 0 0],.own (.slice x.2.2.1.1 x.2.1.es.length x.2.2.1.2) 27 2 x.2.1.es.length (x.2.1.es.flatMap TEnt.vals),.own (.slice x.2.2.2.1.1 x.2.1.cs.length x.2.2.2.1.2) 3 1 x.2.1.cs.length (x.2.1.cs.flatMap inV)]) (fun x=>x.1 ≤ count + 1 ∧ stR s p0 count x.1 = some x.2.1 ∧ Vl w x.2.2.2.2.1 ((s.drop x.2.1.p).map bv) ∧ s.length - x.2.1.p ≤ x.2.2.2.2.2 ∧ x.2.2.2.2.2 ≤ 9223372036854775807) (fun x=>count + 1 - x.1) (0,⟨[],[],p0⟩,(none,0),(none,0),(a,cap)) ⟨Nat.zero_le _,Qdt (Nat.zero_le _),hs,hcap,hc9⟩ aSx (fun w h=>((h.own_nil 27 2).own_nil 3 1).ent aEt) (fun ⟨k,r,⟨ea,ec⟩,⟨da,dc⟩,⟨ba,bc⟩⟩ hk1=>?_)
 dsimp only
 simp only [] at hk1
 obtain ⟨hk2,hst,hv,hbc,hbm⟩:=hk1
 obtain ⟨hp1,hp2,hle,hlc⟩:=QsT hp0 hst hk2
 have hdl : (s.drop r.p).length = s.length - r.p:=List.length_drop
 refine aU5 ?_
 refine sCd rfl (fun h2=>?_) fun h2=>?_
 ·have hk : k < count + 1:=by omega
  refine aU15 ?_
  refine sCd rfl (fun h3=>?_) fun h3=>?_
  ·have hN : rdN s p0 count = none:=Qlj hst hk (fun h9=>by have hq:=h3;have:=h9.1;omega)
   refine aU7 ?_
   exact Qs (rs:=[.cell 4 69,.tmp 5,.tmp 6]) rfl (.cell rfl YB aPk rfl (.tmp rfl (.tmp rfl (.nil)))) (fun w' h'=>⟨(⟨true,ea,ec,r.es,none,0,[]⟩,none,0,0),by rw [hN];rfl,⟨fun _ _ h9=>(by rw [hN] at h9;cases h9),QaM hp0 hst hk2⟩,(h'.own_nil 3 1).ent aEt⟩)
  have h8 : r.p + 8 ≤ s.length:=by have hq:=h3;omega
  have hb2:=QcW s r.p
  have hbk:=XV s (r.p + 2)
  have hbv:=XV s (r.p + 3)
  have hb4:=QlQ s (r.p + 4)
  have hsz : Q9 s r.p = 8 + ub1 s (r.p + 2) + ub1 s (r.p + 3):=rfl
  have hb12 : ((s.drop r.p).getD 2 0).toNat = ub1 s (r.p + 2):=Qlg s r.p 2
  have hb13 : ((s.drop r.p).getD 3 0).toNat = ub1 s (r.p + 3):=Qlg s r.p 3
  have ha2 : at2 (s.drop r.p) 0 = ((ub2 s r.p : Nat) : Int):=by rw [Qap,Nat.add_zero,Qb3]
  have ha4 : at4 (s.drop (r.p + 4)) 0 = ((ub4 s (r.p + 4) : Nat) : Int):=by rw [QfM,Nat.add_zero,QfA]
  refine aU2 ?_
  refine QF [] QV ?_
  refine dP 0 ?_
  refine dQ 1 [] rfl (Q1 rfl Qg6 rfl (fun w1 h1=>Qrs w1 ba (s.length - r.p) bc (s.drop r.p) (hv.later h1) hdl (by omega) hbc hbm)) ?_
  refine dV 2 rfl (Qg rfl rfl XW Yf) ?_
  try refine dWr ?_
  refine Q5 (show _ = Value.int .i64 ((ub2 s r.p : Nat) : Int) from by first | exact congrArg (Value.int .i64) ha2 | (rw [ha2];exact Qd6 (by omega) (by omega))) ?_
  refine dP 3 ?_
  refine dV 4 rfl (Qc rfl rfl rfl Qy 2 rfl (by omega) (hv.some (by rw [List.length_map,List.length_drop];omega))) ?_
  refine dQ 5 [] rfl (QG rfl rfl Qdq ((hv.rd (i:=2) (ZO (l:=(s.drop r.p)) (k:=2) (by omega))))) ?_
  refine dV 6 rfl (Qg rfl rfl Zm Yf) ?_
  try refine dWr ?_
  refine Q5 (show _ = Value.int .i64 ((ub1 s (r.p + 2) : Nat) : Int) from by first | exact congrArg (fun z : Nat=>Value.int .i64 (z : Int)) hb12 | (rw [hb12];exact Qd6 (by omega) (by omega))) ?_
  refine dP 7 ?_
  refine dV 8 rfl (Qc rfl rfl rfl Qy 3 rfl (by omega) (hv.some (by rw [List.length_map,List.length_drop];omega))) ?_
  refine dQ 9 [] rfl (QG rfl rfl Qdq ((hv.rd (i:=3) (ZO (l:=(s.drop r.p)) (k:=3) (by omega))))) ?_
  refine dV 10 rfl (Qg rfl rfl Zm Yf) ?_
  try refine dWr ?_
  refine Q5 (show _ = Value.int .i64 ((ub1 s (r.p + 3) : Nat) : Int) from by first | exact congrArg (fun z : Nat=>Value.int .i64 (z : Int)) hb13 | (rw [hb13];exact Qd6 (by omega) (by omega))) ?_
  refine dP 11 ?_
  refine dV 12 rfl (Qp _ _ 4 (s.length - r.p) rfl rfl Qy ⟨_,_,rfl,rfl⟩ rfl (by omega) (by omega)) ?_
  refine dQ 13 [] rfl (Q1 rfl QoF rfl (fun w1 h1=>c132 w1 (Xy ba bc 4 1) (s.length - r.p - 4) (bc - 4) (s.drop (r.p + 4)) (by have h9:=(hv.later h1).dropA (k:=4) (cap:=bc) (by rw [List.length_map,hdl];omega) (by rw [List.length_map,hdl];omega);rw [← List.map_drop,List.drop_drop] at h9;exact h9) (by rw [List.length_drop];omega) (by omega) (by omega) (by omega))) ?_
  refine dV 14 rfl (Qg rfl rfl YA Yf) ?_
  try refine dWr ?_
  refine Q5 (show _ = Value.int .i64 ((ub4 s (r.p + 4) : Nat) : Int) from by first | exact congrArg (Value.int .i64) ha4 | (rw [ha4];exact Qd6 (by omega) (by omega))) ?_
  refine dP 15 ?_
  refine dP 16 ?_
  refine dP 17 ?_
  refine dP 18 ?_
  refine dNi ?_
  refine aU2 ?_
  refine Qk (L':=[(0,_),(1,_),(4,_),(7,_),(8,_),(9,_),(10,_),(11,_),(12,_),(16,_),(17,_),(18,_),(19,_)]) aSx (fun _ h=>h) ?_
  refine aU4 ?_
  refine oOr 5 43 48 rfl
   (fun hg4 _=>by
    refine aU8 ?_
    exact oJf 5 48)
   (fun hg6 _=>by
    refine aU4 ?_
    exact oJt 5 48) ?_
  refine aU ?_
  refine oOr 7 49 56 rfl
   (fun hg8 _=>by
    refine aT6 ?_
    refine aT4 ?_
    refine aU2 ?_
    exact oJf 7 56)
   (fun hg10 _=>by
    refine aU6 ?_
    exact oJt 7 56) ?_
  refine aU ?_
  refine sCd rfl (fun h12=>?_) fun h12=>?_
  ·have hN : rdN s p0 count = none:=Qlj hst hk (fun h9=>by have hq:=h12;obtain ⟨q1,q2,q3,q4⟩:=h9;grind)
   refine aU7 ?_
   exact Qs (rs:=[.cell 4 69,.tmp 5,.tmp 6]) rfl (.cell rfl YB aPk rfl (.tmp rfl (.tmp rfl (.nil)))) (fun w' h'=>⟨(⟨true,ea,ec,r.es,none,0,[]⟩,none,0,0),by rw [hN];rfl,⟨fun _ _ h9=>(by rw [hN] at h9;cases h9),QaM hp0 hst hk2⟩,(h'.own_nil 3 1).ent aEt⟩)
  have h4 : Qru s r.p:=by have hq:=h12;refine ⟨h8,?_,?_,?_⟩ <;> grind
  obtain ⟨_,h41,h42,h43⟩:=id h4
  obtain ⟨hes,hkl,hvl⟩:=QcE (s:=s) (p:=r.p) (by omega)
  refine aU2 ?_
  refine QF [16] QV ?_
  refine dP 0 ?_
  refine dP 1 ?_
  refine dP 2 ?_
  try refine dWr ?_
  refine dV 3 rfl (Qp _ _ 8 (8 + ub1 s (r.p + 2)) rfl rfl Qy ⟨_,_,rfl,rfl⟩ ⟨_,_,rfl,(by omega)⟩ (by omega) (by omega)) ?_
  refine dQ 4 [[]] rfl (Ze (Q3 s r.p).key rfl rfl Tryz.underlying139 Tryz.underlying9 Tryz.underlying5 (by rw [hkl];omega) (by have h9:=hv.sub (cap:=bc) (lo:=8) (n:=ub1 s (r.p + 2)) (by rw [hdl];omega) (by rw [hdl];omega);rw [Qdl] at h9;exact h9)) ?_
  refine dP 5 ?_
  refine dP 6 ?_
  refine dP 7 ?_
  try refine dWr ?_
  refine dP 8 ?_
  refine dP 9 ?_
  try refine dWr ?_
  refine dP 10 ?_
  refine dP 11 ?_
  try refine dWr ?_
  refine dV 12 rfl (Qp _ _ (8 + ub1 s (r.p + 2)) (8 + ub1 s (r.p + 2) + ub1 s (r.p + 3)) rfl rfl Qy ⟨_,_,rfl,(by omega)⟩ ⟨_,_,rfl,(by omega)⟩ (by omega) (by omega)) ?_
  refine dQ 13 [[]] rfl (Ze (Q3 s r.p).val rfl rfl Tryz.underlying139 Tryz.underlying9 Tryz.underlying5 (by rw [hvl];omega) (by have h9:=hv.sub (cap:=bc) (lo:=8 + ub1 s (r.p + 2)) (n:=ub1 s (r.p + 3)) (by rw [hdl];omega) (by rw [hdl];omega);rw [Qdl,← Nat.add_assoc] at h9;exact h9)) ?_
  refine dV 14 rfl (Q7 (cs:=[_,_]) rfl rfl Qsh Xz rfl) ?_
  refine dH 15 rfl (QbP rfl Xz) (fun b13 _=>?_)
  refine dBa ?_
  refine dSt 16 ?_ (hl:=(by simp only [Qd,List.length_set,List.length_cons,List.length_nil,List.length_map];omega))
  refine dTu [] ?_
  refine dNi ?_
  refine aU ?_
  refine Qk (L':=[(0,_),(1,_),(4,_),(7,_),(8,_),(9,_),(10,_),(11,_),(12,_),(13,_),(16,_),(17,_),(18,_),(19,_)]) aSx (fun _ h=>h) ?_
  refine aU2 ?_
  refine YN (fun w h=>h.byz_nil) ?_
  refine o_h (QH (Cs:=[.byz none 0 []]) rfl Qpx rfl aPs (fun w1 h1 hf=>c156 w1 none 0 [] ((ub4 s (r.p + 4) : Nat) : Int) hf (by omega) (Nat.zero_le _))) rfl (fun ⟨b14,c15⟩ hz16=>?_)
  refine aU9 ?_
  refine Zq (α:=(Option Addr × Nat) × (Option Addr × Nat)) [5,6,14,78,79,80,81,82,83,84,85,86,87,88,89,90,91,92,93,94,95,96,97,98,99] (fun y=>[(14,.slice y.1.1 (Qir s r.p k count).length y.1.2)]) (fun y=>HS w [] [.blk b1 69 3 [.bool true,.slice y.2.1 (esR s r k count).length y.2.2,.slice none 0 0],.own (.slice y.2.1 (esR s r k count).length y.2.2) 27 2 (esR s r k count).length ((esR s r k count).flatMap TEnt.vals),.own (.slice da r.cs.length dc) 3 1 r.cs.length (r.cs.flatMap inV),.byz y.1.1 y.1.2 (Qir s r.p k count)]) (fun _=>k < count → Yt (Q3 s r.p) (ub4 s (r.p + 4)) = true) ?_ ?_
  ·skip
   refine sCd rfl (fun h17=>?_) fun h17=>?_
   ·have hkc : k < count:=by have hq:=h17;omega
    refine aU4 ?_
    refine oCq rfl (fun w1 h1=>c87 w1 _ _ _) ?_
    refine aU2 ?_
    refine oOr 3 81 84 rfl
     (fun hg18 _=>by
      refine aU4 ?_
      exact oJf 3 84)
     (fun hg20 _=>by
      refine aU2 ?_
      exact oJt 3 84) ?_
    refine aU ?_
    refine oOr 4 85 89 rfl
     (fun hg22 _=>by
      refine aU3 ?_
      refine oCq rfl (fun w1 h1=>c88 w1 _ (by omega) (by omega)) ?_
      refine aU2 ?_
      exact oJf 4 89)
     (fun hg24 _=>by
      refine aU3 ?_
      exact oJt 4 89) ?_
    refine aU ?_
    refine sCd rfl (fun h26=>?_) fun h26=>?_
    ·have hN : rdN s p0 count = none:=Qg3 hst hkc (QlJ (by rw [QeL h41];have hq:=h26;grind))
     refine aU7 ?_
     exact Qs (rs:=[.cell 4 69,.tmp 5,.tmp 6]) rfl (.cell rfl YB aPk rfl (.tmp rfl (.tmp rfl (.nil)))) (fun w' h'=>⟨(⟨true,ea,ec,r.es,none,0,[]⟩,none,0,0),by rw [hN];rfl,⟨fun _ _ h9=>(by rw [hN] at h9;cases h9),QaM hp0 hst hk2⟩,(h'.own_nil 3 1).ent aEt⟩)
    have hK : Yt (Q3 s r.p) (ub4 s (r.p + 4)) = true:=by rw [QeL h41];have hq:=h26;grind
    refine aU5 ?_
    refine YN (fun w h=>h.byz_nil) ?_
    refine o_h (QH (Cs:=[.byz none 0 []]) rfl Qsv rfl aPs (fun w1 h1 hf=>c89 w1 none 0 [] (Q3 s r.p) ((ub4 s (r.p + 4) : Nat) : Int) hf (Nat.zero_le _) rfl (by omega) (by omega) (by omega))) rfl (fun ⟨b27,c28⟩ hz29=>?_)
    refine aU2 ?_
    refine Qk (L':=[(0,_),(1,_),(4,_),(7,_),(8,_),(9,_),(10,_),(11,_),(12,_),(13,_),(14,_),(16,_),(17,_),(18,_),(19,_),(73,_),(74,_),(75,_),(76,_),(77,_)]) aSx (fun _ h=>h) ?_
    refine aU4 ?_
    refine o_h (Qm (cs:=[_,_]) rfl rfl Qn Xz rfl rfl rfl) rfl (fun b30 _=>?_)
    refine o_h (QK ((Q3 s r.p).vals) rfl rfl rfl Qn Tryz.underlying67 Xz rfl aPk (Xa aPk) rfl (ev1 _) (by omega) (by simp only [maxLen];omega)) rfl (fun b31 _=>?_)
    refine aU3 ?_
    exact QA ((b27,c28),(b31.1,b31.2)) (fun _=>hK) (by dsimp only;rw [QgG hkc];exact aSx) (fun w h=>by dsimp only;rw [QgG hkc,Qqw hkc,List.length_append,Qcg];exact h.ent aEt)
   have hkc : ¬ k < count:=by have hq:=h17;omega
   refine aU ?_
   exact QA ((b14,c15),(ea,ec)) (fun h9=>absurd h9 hkc) (by dsimp only;rw [QgW hkc];exact aSx) (fun w h=>by dsimp only;rw [QgW hkc,Qo0 hkc];exact h.ent aEt)
  intro ⟨⟨o1,o2⟩,⟨e1,e2⟩⟩ hKK
  refine aU6 ?_
  refine o_p (Qp _ _ 0 (ub2 s r.p) rfl rfl Qy rfl ⟨_,_,rfl,rfl⟩ (by omega) (by omega)) rfl ?_
  refine Qf (show _ = Value.slice (Xy ba bc 0 1) (Ql s r.p (ub2 s r.p)).length (bc - 0) from by rw [Xh h42];rfl) ?_
  refine oCq rfl (fun w1 h1=>c157 w1 o1 (Xy ba bc 0 1) o2 (bc - 0) (Qir s r.p k count) (Ql s r.p (ub2 s r.p)) (h1.vl_byz aPk) (by have h9:=(hv.later h1).sub (cap:=bc) (lo:=0) (n:=(ub2 s r.p)) (by rw [hdl];omega) (by rw [hdl];omega);rw [Qdl,Nat.add_zero] at h9;exact h9)) ?_
  refine aU2 ?_
  refine sCd rfl (fun h32=>?_) fun h32=>?_
  ·have hN : rdN s p0 count = none:=Qtg hst hk h4 hKK (by have hq:=h32;simpa using hq)
   refine aU7 ?_
   exact Qs (rs:=[.cell 4 69,.tmp 5,.tmp 6]) rfl (.cell rfl YB aPk rfl (.tmp rfl (.tmp rfl (.nil)))) (fun w' h'=>⟨(⟨true,e1,e2,esR s r k count,none,0,[]⟩,none,0,0),by rw [hN];rfl,⟨fun _ _ h9=>(by rw [hN] at h9;cases h9),QuJ hp0 hst hk hKK⟩,(h'.own_nil 3 1).ent aEt⟩)
  have how : Qir s r.p k count = Ql s r.p (ub2 s r.p):=by have hq:=h32;simpa using hq
  have hnx:=QuQ hst hk h4 hKK how
  have hvn : Vl w (Xy ba bc (ub2 s r.p) 1) ((s.drop (r.p + (ub2 s r.p))).map bv):=by have h9:=hv.dropA (k:=(ub2 s r.p)) (cap:=bc) (by rw [List.length_map,hdl];omega) (by rw [List.length_map,hdl];omega);rw [← List.map_drop,List.drop_drop] at h9;exact h9
  refine aU ?_
  refine QF [3] QV ?_
  refine dP 0 ?_
  refine dP 1 ?_
  refine dP 4 ?_
  refine dP 5 ?_
  refine dV 6 rfl (Qp _ _ (ub2 s r.p) (s.length - r.p) rfl rfl Qy ⟨_,_,rfl,rfl⟩ rfl (by omega) (by omega)) ?_
  refine Q5 (show _ = Value.slice (Xy ba bc (ub2 s r.p) 1) (s.length - (r.p + (ub2 s r.p))) (bc - (ub2 s r.p)) from by rw [Nat.sub_sub]) ?_
  refine dH 2 rfl (Qm (cs:=[_]) rfl rfl Xp QcB rfl rfl rfl) (fun b33 _=>?_)
  refine dBa ?_
  refine dH 3 rfl (QK (inV ((ub4 s (r.p + 4) : Nat) : Int)) rfl rfl rfl Xp Tryz.underlying28 QcB rfl aPk (Xa aPk) rfl (Qu3 _) (by omega) (by simp only [maxLen];omega)) (fun b34 _=>?_)
  refine dTu [] ?_
  refine dP 7 ?_
  refine dP 8 ?_
  refine dNi ?_
  refine aU ?_
  refine Qk (L':=[(0,_),(1,_),(4,_),(7,_),(16,_),(17,_),(18,_),(19,_)]) aSx (fun _ h=>h) ?_
  refine aT2 ?_
  refine aU2 ?_
  exact Qu (k + 1,⟨esR s r k count,r.cs ++ [((ub4 s (r.p + 4) : Nat) : Int)],r.p + (ub2 s r.p)⟩,(e1,e2),(b34.1,b34.2),(Xy ba bc (ub2 s r.p) 1,bc - (ub2 s r.p))) (by (try simp only []);omega) (by simp only [];exact ⟨by omega,hnx,hvn,by omega,by omega⟩) (by dsimp only;rw [List.length_append];exact aSx) (fun w h=>by dsimp only;rw [List.length_append,Qcg];exact h.ent aEt)
 obtain rfl : k = count + 1:=by omega
 have hN:=Qro hst
 refine Qh rfl ?_
 refine aU4 ?_
 refine oCq rfl (fun w1 h1=>c62 w1 da dc r.cs 0 (h1.rw_own iv1 aPk rfl) (by omega)) ?_
 refine aU9 ?_
 refine sCd rfl (fun h35=>?_) fun h35=>?_
 ·have hz : noz r.cs = true:=by rw [Ql3];have hq:=h35;simpa using hq
  rw [hz] at hN
  have hN : rdN s p0 count = some (⟨true,r.es,r.cs⟩,r.p):=hN
  refine QgI ?_
  exact Qs (rs:=[.cell 4 69,.tmp 5,.tmp 6]) rfl (.cell rfl YB aPk rfl (.tmp rfl (.tmp rfl (.nil)))) (fun w' h'=>by first | exact ⟨(⟨true,ea,ec,r.es,da,dc,r.cs⟩,ba,s.length - r.p,bc),by rw [hN];rfl,⟨fun nd e h9=>by (rw [hN] at h9;injection h9 with h9;injection h9 with q1 q2;subst q1 q2;exact ⟨rfl,rfl⟩),QaM hp0 hst hk2⟩,h'.ent aEt⟩ | exact ⟨(⟨true,ea,ec,r.es,none,0,[]⟩,ba,s.length - r.p,bc),by rw [hN];rfl,⟨fun nd e h9=>by (rw [hN] at h9;injection h9 with h9;injection h9 with q1 q2;subst q1 q2;exact ⟨rfl,rfl⟩),QaM hp0 hst hk2⟩,(h'.own_nil 3 1).ent aEt⟩)
 have hz : noz r.cs = false:=by rw [Ql3];have hq:=h35;simpa using hq
 rw [hz] at hN
 refine aU3 ?_
 refine oCq rfl (fun w1 h1=>c158 w1 da dc r.cs 159 #[] (nzB r.cs) (h1.rw_own iv1 aPk rfl) (by omega) Qt9 (by simp [nzB]) (fun k w2 hk h2=>by rw [Qqy hk];exact c159 w2 (nth r.cs k))) ?_
 refine aU2 ?_
 refine sCd rfl (fun h36=>?_) fun h36=>?_
 ·have hz2 : Qdm r.cs = false:=by have hq:=h36;rw [QkT] at hq;simpa using hq
  rw [hz2] at hN
  have hN : rdN s p0 count = none:=hN
  refine aU7 ?_
  exact Qs (rs:=[.cell 4 69,.tmp 5,.tmp 6]) rfl (.cell rfl YB aPk rfl (.tmp rfl (.tmp rfl (.nil)))) (fun w' h'=>⟨(⟨true,ea,ec,r.es,none,0,[]⟩,none,0,0),by rw [hN];rfl,⟨fun _ _ h9=>(by rw [hN] at h9;cases h9),QaM hp0 hst hk2⟩,(h'.own_nil 3 1).ent aEt⟩)
 have hz2 : Qdm r.cs = true:=by have hq:=h36;rw [QkT] at hq;simpa using hq
 rw [hz2] at hN
 have hN : rdN s p0 count = some (⟨true,r.es,[]⟩,r.p):=hN
 refine QaP ?_
 exact Qs (rs:=[.cell 4 69,.tmp 5,.tmp 6]) rfl (.cell rfl YB aPk rfl (.tmp rfl (.tmp rfl (.nil)))) (fun w' h'=>by first | exact ⟨(⟨true,ea,ec,r.es,da,dc,r.cs⟩,ba,s.length - r.p,bc),by rw [hN];rfl,⟨fun nd e h9=>by (rw [hN] at h9;injection h9 with h9;injection h9 with q1 q2;subst q1 q2;exact ⟨rfl,rfl⟩),QaM hp0 hst hk2⟩,h'.ent aEt⟩ | exact ⟨(⟨true,ea,ec,r.es,none,0,[]⟩,ba,s.length - r.p,bc),by rw [hN];rfl,⟨fun nd e h9=>by (rw [hN] at h9;injection h9 with h9;injection h9 with q1 q2;subst q1 q2;exact ⟨rfl,rfl⟩),QaM hp0 hst hk2⟩,(h'.own_nil 3 1).ent aEt⟩)
instance : TFn Tryz.prog 53:=⟨by kernel_rfl⟩
instance : TFn Tryz.prog 29:=⟨by kernel_rfl⟩
theorem c98 (w : World) (s : List UInt8) (p0 count : Nat) (hp0 : p0 ≤ s.length) (hsl : s.length ≤ 1000000) (hct : count ≤ 1000) : Calls Tryz.prog 98 #[.string (bs s),.int .i64 (p0 : Int),.int .i64 (count : Int)] w fun en w'=>∃ g : LNd × Nat,en = .returned (.tuple #[.agg (LNd.vals g.1).toArray,.int .i64 (g.2 : Int),.bool (rdN s p0 count).isSome]) ∧ ((∀ nd e,rdN s p0 count = some (nd,e) → g.1.pl = nd ∧ g.2 = e) ∧ g.1.es.length ≤ count ∧ ∀ x ∈ g.1.es,Yt x 0 = true) ∧ HS w [] [.ents 27 g.1.ea g.1.ec g.1.es,.kids g.1.ca g.1.cc g.1.cs] w':=by
 refine eN3 Tryz.func98 Tryz.ntmps98 ?_
 refine aU2 ?_
 refine oAl (fun b1 _=>?_) Y6
 refine aU5 ?_
 refine o_p (Q7 (cs:=[_,_,_]) rfl rfl QkY Y6 rfl) rfl ?_
 refine oAl (fun b2 _=>?_) Y6
 refine QaE ?_
 refine Qo (α:=Nat × RdS × (Option Addr × Nat) × (Option Addr × Nat)) [1,7,8,10,11,12,13,14,15,16,17,21,22,23,24,25,26,27,28,29,30,31,32,33,34,35,36,37,38,39,40,41,42,43,44,45,46,47,48,49,50,51,52,53,54,55,56,57,58,59,60,61,62,63,64,65,66,67,68,69,70,71,72,73,74,75,76,77,78,79,80,81,82,83,84,85,86,87,88,89,90,91,92,93,94,95,96,97,98,99,100,101,102,103,104,105,106,107,108,109,110,111,112,113,114,115,116,117] (fun x=>[(11,.int .i64 (x.1 : Int)),(1,.int .i64 (x.2.1.p : Int)),(10,.slice x.2.2.2.1 x.2.1.cs.length x.2.2.2.2)]) (fun x=>HS w [] [.blk b2 69 3 [.bool true,.slice x.2.2.1.1 x.2.1.es.length x.2.2.1.2,.slice none 0 0],.own (.slice x.2.2.1.1 x.2.1.es.length x.2.2.1.2) 27 2 x.2.1.es.length (x.2.1.es.flatMap TEnt.vals),.own (.slice x.2.2.2.1 x.2.1.cs.length x.2.2.2.2) 3 1 x.2.1.cs.length (x.2.1.cs.flatMap inV),.blk b1 69 3 [.bool false,.slice none 0 0,.slice none 0 0]]) (fun x=>x.1 ≤ count ∧ rdE s p0 x.1 = some x.2.1) (fun x=>count - x.1) (0,⟨[],[],p0⟩,(none,0),(none,0)) ⟨Nat.zero_le _,rfl⟩ aSx (fun w h=>((h.own_nil 27 2).own_nil 3 1).ent aEt) (fun ⟨k,r,⟨ea,ec⟩,⟨da,dc⟩⟩ hk1=>?_)
 dsimp only
 simp only [] at hk1
 obtain ⟨hk2,hst⟩:=hk1
 obtain ⟨hle,hlc,hp1,hp2,_,hee,_⟩:=QaW hp0 hst
 refine aU7 ?_
 refine sCd rfl (fun h3=>?_) fun h3=>?_
 ·have hk : k < count:=by omega
  refine aT8 ?_
  refine aU ?_
  refine o_p (Qj rfl rfl Tryz.underlying9) rfl ?_
  refine aU2 ?_
  refine sCd rfl (fun h4=>?_) fun h4=>?_
  ·have hN : rdN s p0 count = none:=Qef hst hk (QjV (fun h9=>by have hq:=h4;have:=h9.1;omega)).1
   refine aU7 ?_
   exact Qs (rs:=[.cell 6 69,.tmp 7,.tmp 8]) rfl (.cell rfl YB aPk rfl (.tmp rfl (.tmp rfl (.nil)))) (fun w' h'=>⟨(⟨true,ea,ec,r.es,none,0,[]⟩,0),by rw [hN];rfl,⟨fun _ _ h9=>(by rw [hN] at h9;cases h9),by show r.es.length ≤ _;omega,hee⟩,(h'.own_nil 3 1).ent aEt⟩)
  have h8 : r.p + 8 ≤ s.length:=by have hq:=h4;omega
  have hb2:=QcW s r.p
  have hbk:=XV s (r.p + 2)
  have hbv:=XV s (r.p + 3)
  have hb4:=QlQ s (r.p + 4)
  have hsz : Q9 s r.p = 8 + ub1 s (r.p + 2) + ub1 s (r.p + 3):=rfl
  have hp8:=Y1 (Q9 s r.p)
  refine aU5 ?_
  refine oCq rfl (fun w1 h1=>by have h9:=c72 w1 s (r.p) 2 (by omega) (by omega) (by omega);rw [Qcu,Qb3] at h9;exact h9) ?_
  refine aT3 ?_
  refine oCq rfl (fun w1 h1=>by have h9:=c72 w1 s (r.p + 2) 1 (by omega) (by omega) (by omega);rw [Qce,QlV] at h9;exact h9) ?_
  refine aT3 ?_
  refine oCq rfl (fun w1 h1=>by have h9:=c72 w1 s (r.p + 3) 1 (by omega) (by omega) (by omega);rw [Qce,QlV] at h9;exact h9) ?_
  refine aT3 ?_
  refine oCq rfl (fun w1 h1=>by have h9:=c72 w1 s (r.p + 4) 4 (by omega) (by omega) (by omega);rw [YP,QfA] at h9;exact h9) ?_
  refine aU6 ?_
  refine Qk (L':=[(0,_),(1,_),(2,_),(6,_),(9,_),(10,_),(11,_),(12,_),(13,_),(14,_),(15,_),(20,_)]) aSx (fun _ h=>h) ?_
  refine aT3 ?_
  refine aT2 ?_
  refine Qf (show _ = Value.int .i64 ((Q9 s r.p : Nat) : Int) from congrArg (Value.int .i64) (by omega)) ?_
  refine aU7 ?_
  refine oCq rfl (fun w1 h1=>c95 w1 (Q9 s r.p) (by omega)) ?_
  refine aU2 ?_
  refine oOr 7 55 62 rfl
   (fun hg5 _=>by
    refine aT6 ?_
    refine aU3 ?_
    refine o_p (Qj rfl rfl Tryz.underlying9) rfl ?_
    refine aU2 ?_
    exact oJf 7 62)
   (fun hg7 _=>by
    refine aU6 ?_
    exact oJt 7 62) ?_
  refine aU ?_
  refine oOr 11 63 74 rfl
   (fun hg9 _=>by
    refine aT8 ?_
    refine aT6 ?_
    refine aU ?_
    refine o_p (QZ _ _ (r.p + Q9 s r.p) (r.p + ub2 s r.p) rfl rfl Tryz.underlying9 ⟨_,_,rfl,(by omega)⟩ ⟨_,_,rfl,(by omega)⟩ (by omega) (by omega)) rfl ?_
    refine Qf (show _ = Value.string (bs (Ql s (r.p + Q9 s r.p) (ub2 s r.p - Q9 s r.p))) from by rw [Qah];congr 3;omega) ?_
    refine aU ?_
    refine oCq rfl (fun w1 h1=>c53 w1 (Ql s (r.p + Q9 s r.p) (ub2 s r.p - Q9 s r.p)) (by rw [Xh (by omega)];omega)) ?_
    refine aU2 ?_
    exact oJf 11 74)
   (fun hg11 _=>by
    refine QaP ?_
    exact oJt 11 74) ?_
  refine aU ?_
  refine sCd rfl (fun h13=>?_) fun h13=>?_
  ·have hN : rdN s p0 count = none:=Qef hst hk (QqV (fun h9=>by have hq:=h13;obtain ⟨q1,q2,q3⟩:=h9;grind))
   refine aU7 ?_
   exact Qs (rs:=[.cell 6 69,.tmp 7,.tmp 8]) rfl (.cell rfl YB aPk rfl (.tmp rfl (.tmp rfl (.nil)))) (fun w' h'=>⟨(⟨true,ea,ec,r.es,none,0,[]⟩,0),by rw [hN];rfl,⟨fun _ _ h9=>(by rw [hN] at h9;cases h9),by show r.es.length ≤ _;omega,hee⟩,(h'.own_nil 3 1).ent aEt⟩)
  have h4 : ub2 s r.p = QT (Q9 s r.p) ∧ r.p + ub2 s r.p ≤ s.length ∧ zer (Ql s (r.p + Q9 s r.p) (ub2 s r.p - Q9 s r.p)) = true:=by have hq:=h13;grind
  obtain ⟨hes,hkl,hvl⟩:=QcE (s:=s) (p:=r.p) (by omega)
  refine aU2 ?_
  refine QF [19] QV ?_
  refine dP 0 ?_
  refine dP 1 ?_
  refine dP 2 ?_
  try refine dWr ?_
  refine dP 3 ?_
  refine dP 4 ?_
  try refine dWr ?_
  refine dP 5 ?_
  refine dP 6 ?_
  try refine dWr ?_
  refine dV 7 rfl (QZ _ _ (r.p + 8) (r.p + 8 + ub1 s (r.p + 2)) rfl rfl Tryz.underlying9 ⟨_,_,rfl,(by omega)⟩ ⟨_,_,rfl,(by omega)⟩ (by omega) (by omega)) ?_
  refine Q5 (show _ = Value.string (bs (Q3 s r.p).key) from by rw [Qah];congr 2;show Ql _ _ _ = Ql _ _ _;congr 1;omega) ?_
  refine dP 8 ?_
  refine dP 9 ?_
  refine dP 10 ?_
  try refine dWr ?_
  refine dP 11 ?_
  refine dP 12 ?_
  try refine dWr ?_
  refine dP 13 ?_
  refine dP 14 ?_
  refine dP 15 ?_
  try refine dWr ?_
  refine dV 16 rfl (QZ _ _ (r.p + 8 + ub1 s (r.p + 2)) (r.p + Q9 s r.p) rfl rfl Tryz.underlying9 ⟨_,_,rfl,(by omega)⟩ ⟨_,_,rfl,(by omega)⟩ (by omega) (by omega)) ?_
  refine Q5 (show _ = Value.string (bs (Q3 s r.p).val) from by rw [Qah];congr 2;show Ql _ _ _ = Ql _ _ _;congr 1;omega) ?_
  refine dV 17 rfl (Q7 (cs:=[_,_]) rfl rfl Qsh Xz rfl) ?_
  refine dH 18 rfl (QbP rfl Xz) (fun b14 _=>?_)
  refine dBa ?_
  refine dSt 19 ?_ (hl:=(by simp only [Qd,List.length_set,List.length_cons,List.length_nil,List.length_map];omega))
  refine dTu [] ?_
  refine dNi ?_
  refine aU2 ?_
  refine Qk (L':=[(0,_),(1,_),(2,_),(6,_),(9,_),(10,_),(11,_),(12,_),(15,_),(17,_),(20,_)]) aSx (fun _ h=>h) ?_
  refine aU3 ?_
  refine oCq rfl (fun w1 h1=>c29 w1 (Q3 s r.p) ((ub4 s (r.p + 4) : Nat) : Int) (by omega) (by omega)) ?_
  refine aU2 ?_
  refine oOr 5 98 103 rfl
   (fun hg15 _=>by
    refine aU5 ?_
    refine o_p (Qj rfl rfl Tryz.underlying9) rfl ?_
    refine aU2 ?_
    exact oJf 5 103)
   (fun hg17 _=>by
    refine aU4 ?_
    exact oJt 5 103) ?_
  refine aU ?_
  refine sCd rfl (fun h19=>?_) fun h19=>?_
  ·have hN : rdN s p0 count = none:=Qef hst hk (QlJ (by rw [QiD];have hq:=h19;grind))
   refine aU7 ?_
   exact Qs (rs:=[.cell 6 69,.tmp 7,.tmp 8]) rfl (.cell rfl YB aPk rfl (.tmp rfl (.tmp rfl (.nil)))) (fun w' h'=>⟨(⟨true,ea,ec,r.es,none,0,[]⟩,0),by rw [hN];rfl,⟨fun _ _ h9=>(by rw [hN] at h9;cases h9),by show r.es.length ≤ _;omega,hee⟩,(h'.own_nil 3 1).ent aEt⟩)
  have hK : Yt (Q3 s r.p) (ub4 s (r.p + 4)) = true:=by rw [QiD];have hq:=h19;grind
  have hok:=QqF h8 h4 hK
  refine aU6 ?_
  refine o_h (Qm (cs:=[_,_]) rfl rfl Qn Xz rfl rfl rfl) rfl (fun b20 _=>?_)
  refine o_h (QK ((Q3 s r.p).vals) rfl rfl rfl Qn Tryz.underlying67 Xz rfl aPk (Xa aPk) rfl (ev1 _) (by omega) (by simp only [maxLen];omega)) rfl (fun b21 _=>?_)
  refine aU2 ?_
  refine o_h (Qm (cs:=[_]) rfl rfl Xp QcB rfl rfl rfl) rfl (fun b22 _=>?_)
  refine o_h (QK (inV ((ub4 s (r.p + 4) : Nat) : Int)) rfl rfl rfl Xp Tryz.underlying28 QcB rfl aPk (Xa aPk) rfl (Qu3 _) (by omega) (by simp only [maxLen];omega)) rfl (fun b23 _=>?_)
  refine aT8 ?_
  refine aU3 ?_
  refine Qk (L':=[(0,_),(1,_),(2,_),(6,_),(9,_),(10,_),(11,_),(20,_)]) aSx (fun _ h=>h) ?_
  refine aT3 ?_
  refine aU2 ?_
  exact Qu (k + 1,⟨r.es ++ [Q3 s r.p],r.cs ++ [((ub4 s (r.p + 4) : Nat) : Int)],r.p + ub2 s r.p⟩,(b21.1,b21.2),(b23.1,b23.2)) (by (try simp only []);omega) ⟨by (try simp only []);omega,Qc1 hst hok⟩ (by dsimp only;rw [List.length_append];exact aSx) (fun w h=>by dsimp only;rw [@List.length_append _ r.es _,@List.length_append _ r.cs _,Qcg,Qcg];exact h.ent aEt)
 obtain rfl : k = count:=by omega
 refine Qh rfl ?_
 refine aT5 ?_
 refine aU ?_
 refine o_p (Qj rfl rfl Tryz.underlying9) rfl ?_
 refine aU2 ?_
 refine oOr 5 123 128 rfl
  (fun hg24 _=>by
   refine aU5 ?_
   refine oCq rfl (fun w1 h1=>by have h9:=c72 w1 s (r.p) 2 (by omega) (by omega) (by omega);rw [Qcu,Qb3] at h9;exact h9) ?_
   refine aU2 ?_
   exact oJf 5 128)
  (fun hg26 _=>by
   refine aU4 ?_
   exact oJt 5 128) ?_
 refine aU ?_
 refine oOr 6 129 135 rfl
  (fun hg28 _=>by
   refine aT6 ?_
   refine aU ?_
   refine oCq rfl (fun w1 h1=>by have h9:=c72 w1 s (r.p + 2) 2 (by omega) (by omega) (by omega);rw [Qcu,Qb3] at h9;exact h9) ?_
   refine aU2 ?_
   exact oJf 6 135)
  (fun hg30 _=>by
   refine aU5 ?_
   exact oJt 6 135) ?_
 refine aU ?_
 refine oOr 7 136 143 rfl
  (fun hg32 _=>by
   refine aT6 ?_
   refine aU ?_
   refine oCq rfl (fun w1 h1=>by have h9:=c72 w1 s (r.p + 4) 4 (by omega) (by omega) (by omega);rw [YP,QfA] at h9;exact h9) ?_
   refine aU ?_
   refine oCq rfl (fun w1 h1=>c40 w1 _ _ _) ?_
   refine aU2 ?_
   exact oJf 7 143)
  (fun hg34 _=>by
   refine aU6 ?_
   exact oJt 7 143) ?_
 refine aU ?_
 refine sCd rfl (fun h36=>?_) fun h36=>?_
 ·have hN : rdN s p0 k = none:=QlP hst (by unfold YR;have hq:=h36;grind)
  refine aU7 ?_
  exact Qs (rs:=[.cell 6 69,.tmp 7,.tmp 8]) rfl (.cell rfl YB aPk rfl (.tmp rfl (.tmp rfl (.nil)))) (fun w' h'=>⟨(⟨true,ea,ec,r.es,none,0,[]⟩,0),by rw [hN];rfl,⟨fun _ _ h9=>(by rw [hN] at h9;cases h9),by show r.es.length ≤ _;omega,hee⟩,(h'.own_nil 3 1).ent aEt⟩)
 have hE : YR s r.p = true:=by unfold YR;have hq:=h36;grind
 have hN:=Qlc hst hE
 obtain ⟨h8,_,_,_⟩ : r.p + 8 ≤ s.length ∧ ub2 s r.p = 8 ∧ ub2 s (r.p + 2) = 0 ∧ ub4 s (r.p + 4) ≤ 120:=by simpa [YR] using hE
 obtain ⟨ch,hch⟩ : ∃ ch : List Int,ch = r.cs ++ [((ub4 s (r.p + 4) : Nat) : Int)]:=⟨_,rfl⟩
 rw [← hch] at hN
 have hchl : ch.length ≤ 1001:=by rw [hch,List.length_append];simp only [List.length_cons,List.length_nil];omega
 refine aT7 ?_
 refine oCq rfl (fun w1 h1=>by have h9:=c72 w1 s (r.p + 4) 4 (by omega) (by omega) (by omega);rw [YP,QfA] at h9;exact h9) ?_
 refine o_h (Qm (cs:=[_]) rfl rfl Xp QcB rfl rfl rfl) rfl (fun b37 _=>?_)
 refine o_h (QK (inV ((ub4 s (r.p + 4) : Nat) : Int)) rfl rfl rfl Xp Tryz.underlying28 QcB rfl aPk (Xa aPk) rfl (Qu3 _) (by omega) (by simp only [maxLen];omega)) rfl (fun b38 _=>?_)
 refine Qf (show _ = Value.slice b38.1 ch.length b38.2 from by rw [hch,List.length_append];rfl) ?_
 refine aU8 ?_
 refine Qk (L':=[(0,_),(1,_),(2,_),(6,_),(9,_),(10,_),(11,_),(18,_),(20,_)]) aSx (fun _ h=>h) ?_
 refine aU4 ?_
 obtain ⟨fa,fc⟩:=b38
 dsimp only
 refine Qcw (fun w9 h=>HS.kids_some (l:=ch) (by rw [hch,List.length_append];exact Nat.succ_pos _) (show HS w [] [.kids fa fc ch] w9 from by rw [hch,HA.kids,@List.length_append _ r.cs _,Qcg];exact h.ent aEt) .here) fun hfa=>?_
 obtain ⟨gf,rfl⟩:=hfa
 refine Qo (α:=Nat) [18,19,152,153,154,155,156,157,158,159,160,161,162,163,164,165] (fun i=>[(19,.int .i64 (i : Int)),(18,.int .i64 ((czI (ch.take i) : Nat) : Int))]) (fun _=>HS w [] [.blk b2 69 3 [.bool true,.slice ea r.es.length ec,.slice none 0 0],.own (.slice ea r.es.length ec) 27 2 r.es.length (r.es.flatMap TEnt.vals),.own (.slice (some ⟨gf,0,none⟩) ch.length fc) 3 1 ch.length (ch.flatMap inV),.blk b1 69 3 [.bool false,.slice none 0 0,.slice none 0 0]]) (fun i=>i ≤ ch.length) (fun i=>ch.length - i) 0 (Nat.zero_le _) aSx (fun w h=>by rw [hch,@List.length_append _ r.cs _,Qcg];exact h.ent aEt) (fun i hi1=>?_)
 refine aU8 ?_
 refine sCd rfl (fun h39=>?_) fun h39=>?_
 ·have hi : i < ch.length:=by omega
  have hcz : ((czI (ch.take (i + 1)) : Nat) : Int) = ((czI (ch.take i) : Nat) : Int) + (if nth ch i = 0 then 1 else 0):=by rw [QoZ hi];split <;> simp
  have hczl:=QnP (ch.take i)
  rw [List.length_take] at hczl
  refine aU7 ?_
  refine o_p (Qc rfl rfl rfl Xp (i) (by omega) (by omega) rfl) rfl ?_
  refine o_q (XQ rfl rfl Qhh (fun w9 h=>(show Rd w9 [] gf (0 + i * 1) (.int .i64 (nth ch i)) from (h.rw_own (a:=some ⟨gf,0,none⟩) (l:=ch) iv1 aPk rfl).rdj (i:=i) 0 hi rfl))) rfl ?_
  refine aU ?_
  refine oCq rfl (fun w1 h1=>Qt4 w1 _) ?_
  refine aT ?_
  refine Qf (show _ = Value.int .i64 ((czI (ch.take (i + 1)) : Nat) : Int) from by rw [hcz];by_cases hz9 : nth ch i = 0 <;> simp only [hz9,decide_true,decide_false,if_true,if_false,Bool.false_eq_true] <;> first | rfl | exact Qd6 (by omega) (by omega)) ?_
  refine aT6 ?_
  refine aU2 ?_
  exact sBk (i + 1) (by omega) (by omega) (by exact aSx)
 obtain rfl : i = ch.length:=by omega
 rw [List.take_length]
 refine Qh rfl ?_
 refine aU6 ?_
 refine sCd rfl (fun h40=>?_) fun h40=>?_
 ·have hz : noz ch = true:=QsA.1 (by have hq:=h40;omega)
  rw [hz] at hN
  have hN : rdN s p0 k = some (⟨true,r.es,ch⟩,r.p + 8):=hN
  refine Qj6 ?_
  refine aU4 ?_
  exact Qs (rs:=[.cell 6 69,.tmp 7,.tmp 8]) rfl (.cell rfl YB aPk rfl (.tmp rfl (.tmp rfl (.nil)))) (fun w' h'=>by first | exact ⟨(⟨true,ea,ec,r.es,some ⟨gf,0,none⟩,fc,ch⟩,r.p + 8),by rw [hN];rfl,⟨fun nd e h9=>(by rw [hN] at h9;injection h9 with h9;injection h9 with q1 q2;subst q1 q2;exact ⟨rfl,rfl⟩),by show r.es.length ≤ _;omega,hee⟩,h'.ent aEt⟩ | exact ⟨(⟨true,ea,ec,r.es,none,0,[]⟩,r.p + 8),by rw [hN];rfl,⟨fun nd e h9=>(by rw [hN] at h9;injection h9 with h9;injection h9 with q1 q2;subst q1 q2;exact ⟨rfl,rfl⟩),by show r.es.length ≤ _;omega,hee⟩,(h'.own_nil 3 1).ent aEt⟩)
 have hz0 : ¬ czI ch = 0:=by have hq:=h40;omega
 have hz : noz ch = false:=by cases hb : noz ch;rfl;exact absurd (QsA.2 hb) hz0
 rw [hz] at hN
 refine aU7 ?_
 refine sCd rfl (fun h41=>?_) fun h41=>?_
 ·have hz2 : Qdm ch = false:=by cases hb : Qdm ch;rfl;have:=QkN.2 hb;have hq:=h41;omega
  rw [hz2] at hN
  have hN : rdN s p0 k = none:=hN
  refine aU7 ?_
  exact Qs (rs:=[.cell 6 69,.tmp 7,.tmp 8]) rfl (.cell rfl YB aPk rfl (.tmp rfl (.tmp rfl (.nil)))) (fun w' h'=>⟨(⟨true,ea,ec,r.es,none,0,[]⟩,0),by rw [hN];rfl,⟨fun _ _ h9=>(by rw [hN] at h9;cases h9),by show r.es.length ≤ _;omega,hee⟩,(h'.own_nil 3 1).ent aEt⟩)
 have hz2 : Qdm ch = true:=QkN.1 (by have:=QnP ch;have hq:=h41;omega)
 rw [hz2] at hN
 have hN : rdN s p0 k = some (⟨true,r.es,[]⟩,r.p + 8):=hN
 refine aT6 ?_
 refine aU4 ?_
 exact Qs (rs:=[.cell 6 69,.tmp 7,.tmp 8]) rfl (.cell rfl YB aPk rfl (.tmp rfl (.tmp rfl (.nil)))) (fun w' h'=>by first | exact ⟨(⟨true,ea,ec,r.es,some ⟨gf,0,none⟩,fc,ch⟩,r.p + 8),by rw [hN];rfl,⟨fun nd e h9=>(by rw [hN] at h9;injection h9 with h9;injection h9 with q1 q2;subst q1 q2;exact ⟨rfl,rfl⟩),by show r.es.length ≤ _;omega,hee⟩,h'.ent aEt⟩ | exact ⟨(⟨true,ea,ec,r.es,none,0,[]⟩,r.p + 8),by rw [hN];rfl,⟨fun nd e h9=>(by rw [hN] at h9;injection h9 with h9;injection h9 with q1 q2;subst q1 q2;exact ⟨rfl,rfl⟩),by show r.es.length ≤ _;omega,hee⟩,(h'.own_nil 3 1).ent aEt⟩)
theorem Qsq : QM Tryz.prog 58 = true:=by kernel_rfl
instance : TFn Tryz.prog 58:=⟨Qsq⟩
theorem Qrv {co : Int} {l : List TEnt} {k : Nat} (hco : Qw co = 0) (hk : k < l.length) (h : ∀ i,i < k → Qaz co l i = true) : QfT co (nth l (k - 1)).key (nth l k).key = X8 co (nth l k).key:=by
  unfold QfT;rw [if_pos hco];rcases Nat.eq_zero_or_pos k with h0 | h0
  · subst h0
    by_cases hz : X8 co (nth l 0).key = 0
    · rw [if_pos hz]
    · rw [if_neg hz]
  · have h1:=h (k - 1) (by omega);unfold Qaz at h1;rw [Bool.and_eq_true] at h1;rw [if_pos (Qu0.2 h1.1)]
theorem c93 (w : World) (co : Int) (a : Option Addr) (cap : Nat) (l : List TEnt) (hs : Rw TEnt.vals 2 w [] a l) (hl : l.length ≤ 100000) (hkl : ∀ x ∈ l,x.key.length ≤ 1000000) (hco : Qw co = 0) : Calls Tryz.prog 93 #[.int .i64 co,.slice a l.length cap] w fun en w'=>en = .returned (.bool (QdB co l)) ∧ Below w.heap.size w w':=by
 refine eN2 Tryz.func93 Tryz.ntmps93 ?_
 refine QaE ?_
 refine Qo (α:=Nat) [4,5,6,7,8,11,12,13,14,15,16,17,18,19,20,21,22,23,24,25,26,27,28,29,30,31,32,33,34,35,36,37,38,39,40] (fun k=>[(11,.int .i64 (k : Int))]) (fun _=>HS w [] []) (fun k=>k ≤ l.length ∧ ∀ i,i < k → Qaz co l i = true) (fun k=>l.length - k) 0 ⟨Nat.zero_le _,fun i h=>absurd h (Nat.not_lt_zero _)⟩ aSx (fun w h=>h.ent aEt) (fun k hkk=>?_)
 obtain ⟨hk1,hk2⟩:=hkk
 refine aU5 ?_
 refine sCd rfl (fun h1=>?_) fun h1=>?_
 ·have hk : k < l.length:=by omega
  have hcm:=Qrv hco hk hk2
  refine aU6 ?_
  refine o_p (Qc rfl rfl rfl Qn (k) (by omega) (by omega) (Rw.some hs (by omega))) rfl ?_
  refine o_q (Zb _ rfl rfl Xc rfl (Rw.rd hs (by omega))) rfl ?_
  refine oAl (fun b2 _=>?_) Xz
  refine aU4 ?_
  refine QF [] QV ?_
  refine dP 0 ?_
  refine dP 1 ?_
  refine dP 2 ?_
  refine dP 3 ?_
  try refine dWr ?_
  refine dV 4 rfl (QjS rfl rfl rfl ) ?_
  refine Q5 (show _ = Value.int .i64 ((k - 1 : Nat) : Int) from congrArg (Value.int .i64) (by split <;> omega)) ?_
  refine dV 5 rfl (Qc rfl rfl rfl Qn (k - 1) (by omega) (by omega) (Rw.some hs (by omega))) ?_
  refine dFa 6 ?_
  refine dQ 7 [] rfl (QG rfl rfl Qd4 ((hs.rdj (i:=k - 1) 0 (by omega) rfl))) ?_
  refine dFa 8 ?_
  refine dLd 9 [] ?_
  refine dQ 10 [] rfl (Q1 rfl Qsq rfl (fun w1 h1=>c58 w1 co (nth l (k - 1)).key (nth l k).key (hkl _ (Xg (by omega))) (hkl _ (Xg hk)))) ?_
  refine dP 11 ?_
  refine dP 12 ?_
  refine dP 13 ?_
  refine dP 14 ?_
  refine dP 15 ?_
  refine dNi ?_
  refine aU5 ?_
  refine oOr 7 32 39 rfl
   (fun hg3 _=>by
    refine aU6 ?_
    refine YH 3 35 38 rfl
     (fun hg5 _=>by
      refine aU5 ?_
      exact oJt 3 38)
     (fun hg7 _=>by
      refine aU3 ?_
      exact oJf 3 38) ?_
    exact oJf 5 39)
   (fun hg9 _=>by
    refine aU6 ?_
    exact oJt 7 39) ?_
  refine aU ?_
  refine sCd rfl (fun h11=>?_) fun h11=>?_
  ·have hF : QdB co l = false:=Ql1 hk (by unfold Qaz;have hq:=h11;rw [hcm] at hq;unfold X8 at hq;grind)
   refine aU ?_
   refine Qk (L':=[(0,_),(1,_),(9,_),(10,_),(11,_)]) aSx (fun _ h=>h) ?_
   refine aU3 ?_
   exact rT rfl rfl (fun w' h'=>⟨by rw [hF];rfl,h'.below⟩)
  have hA : Qaz co l k = true:=by unfold Qaz;have hq:=h11;rw [hcm] at hq;unfold X8 at hq;grind
  refine aU2 ?_
  refine Qk (L':=[(0,_),(1,_),(9,_),(10,_),(11,_)]) aSx (fun _ h=>h) ?_
  refine aT2 ?_
  refine aU2 ?_
  exact sBk (k + 1) (by omega) ⟨by omega,fun i hi=>(Nat.lt_or_ge i k).elim (hk2 i) (fun h=>by obtain rfl : i = k:=(by omega);exact hA)⟩
 obtain rfl : k = l.length:=by omega
 have hT : QdB co l = true:=Qbu.2 hk2
 refine Qh rfl ?_
 refine aU4 ?_
 exact rT rfl rfl (fun w' h'=>⟨by rw [hT];rfl,h'.below⟩)
theorem c70 (w : World) (j : Nat) (n : LNd) (hj : j ≤ 3) (hes : Rw TEnt.vals 2 w [] n.ea n.es) (hl : n.es.length ≤ 100000) (hkl : ∀ x ∈ n.es,x.key.length ≤ 1000000) : Calls Tryz.prog 70 #[.int .i64 (j : Int),.agg #[.bool n.us,.slice n.ea n.es.length n.ec,.slice n.ca n.cs.length n.cc]] w fun en w'=>en = .returned (.bool (Qa3 (j : Int) n.es)) ∧ Below w.heap.size w w':=by
 refine eN2 Tryz.func70 Tryz.ntmps70 ?_
 refine aU2 ?_
 refine oBx fun b1 _=>?_
 refine aU8 ?_
 refine Qo (α:=Nat) [4,5,6,7,8,9,10,11,12,13,14,15,16,17,18,19,20,21] (fun k=>[(5,.int .i64 (k : Int))]) (fun _=>HS w [] [.blk b1 69 3 (LNd.vals n)]) (fun k=>k ≤ n.es.length ∧ ∀ i,i < k → Qz (j : Int) (nth n.es i).key = true) (fun k=>n.es.length - k) 0 ⟨Nat.zero_le _,fun i h=>absurd h (Nat.not_lt_zero _)⟩ aSx (fun w h=>h.ent aEt) (fun k hkk=>?_)
 obtain ⟨hk1,hk2⟩:=hkk
 refine aU9 ?_
 refine sCd rfl (fun h2=>?_) fun h2=>?_
 ·have hk : k < n.es.length:=by omega
  refine aU9 ?_
  refine o_p (Qc rfl rfl rfl Qn (k) (by omega) (by omega) (Rw.some hes (by omega))) rfl ?_
  refine aU ?_
  refine o_q (QG rfl rfl Qd4 ((hes.rdj (i:=k) 0 (by omega) rfl))) rfl ?_
  refine oCq rfl (fun w1 h1=>c17 w1 j (nth n.es k).key hj (hkl _ (Xg hk))) ?_
  refine aU2 ?_
  refine sCd rfl (fun h3=>?_) fun h3=>?_
  ·have hF : Qa3 (j : Int) n.es = false:=QpO hk (by have hq:=h3;unfold X8 at hq;grind)
   refine aU4 ?_
   exact rT rfl rfl (fun w' h'=>⟨by rw [hF];rfl,h'.below⟩)
  have hA : Qz (j : Int) (nth n.es k).key = true:=by have hq:=h3;unfold X8 at hq;grind
  refine aT5 ?_
  refine aU2 ?_
  exact sBk (k + 1) (by omega) ⟨by omega,fun i hi=>(Nat.lt_or_ge i k).elim (hk2 i) (fun h=>by obtain rfl : i = k:=(by omega);exact hA)⟩
 obtain rfl : k = n.es.length:=by omega
 have hT : Qa3 (j : Int) n.es = true:=Qdz hk2
 refine Qh rfl ?_
 refine aU4 ?_
 exact rT rfl rfl (fun w' h'=>⟨by rw [hT];rfl,h'.below⟩)
instance : TFn Tryz.prog 91:=⟨by kernel_rfl⟩
instance : TFn Tryz.prog 92:=⟨by kernel_rfl⟩
instance : TFn Tryz.prog 93:=⟨by kernel_rfl⟩
theorem c28 (w : World) (s : List UInt8) (hsl : s.length ≤ 1000000) : Calls Tryz.prog 28 #[.string (bs s)] w fun en w'=>∃ g : (Option Addr × Nat) × List LNd,en = .returned (.tuple #[.agg #[.int .i64 (Qa s).1.co,.int .i64 (Qa s).1.mo,.int .i64 (Qa s).1.rm,.slice g.1.1 g.2.length g.1.2],.int .i64 (Qa s).2]) ∧ pln g.2 = (Qa s).1.ns ∧ HS w [] [.nodes 27 69 g.1.1 g.1.2 g.2] w':=by
 have hb4:=(s.getD 4 0).toNat_lt
 have hb5:=(s.getD 5 0).toNat_lt
 have hb6:=(s.getD 6 0).toNat_lt
 have hb7:=(s.getD 7 0).toNat_lt
 have hf9 : Xx [.int .i64 (if Qw (at1 s 4) = 0 then Zr (at1 s 5) (at1 s 6) else Qw (at1 s 4)),.int .i64 (cond (decide (at1 s 5 ≤ 4)) 0 8),.int .i64 (cond (decide (at1 s 7 ≤ at1 s 6)) 0 16)] = rtE s:=by simp only [Xx,rtE,cond_eq_ite,decide_eq_true_eq];grind
 refine eN1 Tryz.func28 Tryz.ntmps28 ?_
 refine aU2 ?_
 refine oAl (fun b1 _=>?_) Zv
 refine aU5 ?_
 refine o_h (Z8 rfl rfl Tryz.underlying9 Tryz.underlying139 Tryz.underlying5 rfl (by simp only [maxLen];omega)) rfl (fun ⟨b2,c3⟩ ⟨h4,k5⟩=>?_)
 refine aU9 ?_
 refine sCd rfl (fun h6=>?_) fun h6=>?_
 ·have hR : Qa s = (noT,10):=Qjp (by have hq:=h6;omega)
  refine aU2 ?_
  refine o_p (Q7 (cs:=[_,_,_,_]) rfl rfl QdS Zv rfl) rfl ?_
  refine aU3 ?_
  exact Qs (rs:=[.cell 2 37,.tmp 3]) rfl (.cell rfl Zj aPk rfl (.tmp rfl (.nil))) (fun w' h'=>⟨((none,0),[]),by rw [hR];rfl,by rw [hR];rfl,(Xu 27 69 h'.nil).ent aEt⟩)
 have h16 : ¬ s.length < 16:=by have hq:=h6;omega
 refine aU5 ?_
 refine o_p (Qp _ _ 0 4 rfl rfl Qy rfl ⟨_,_,rfl,rfl⟩ (by omega) (by omega)) rfl ?_
 refine Qf (show _ = Value.slice (some ⟨b2,0,none⟩) 4 c3 from by rw [Yq];rfl) ?_
 refine o_q (Qg0 s rfl rfl Tryz.underlying139 Tryz.underlying9 Tryz.underlying5 (by omega) aPk) rfl ?_
 refine aU2 ?_
 refine sCd rfl (fun h7=>?_) fun h7=>?_
 ·have hR : Qa s = (noT,3):=QkC h16 (by have hq:=h7;intro h9;rw [h9] at hq;simp [Qa6] at hq)
  refine aU2 ?_
  refine o_p (Q7 (cs:=[_,_,_,_]) rfl rfl QdS Zv rfl) rfl ?_
  refine aU3 ?_
  exact Qs (rs:=[.cell 2 37,.tmp 3]) rfl (.cell rfl Zj aPk rfl (.tmp rfl (.nil))) (fun w' h'=>⟨((none,0),[]),by rw [hR];rfl,by rw [hR];rfl,(Xu 27 69 h'.nil).ent aEt⟩)
 have hs4 : s.take 4 = Qa6:=by have hq:=h7;first | exact hq | simpa [Qa6] using hq
 refine aU2 ?_
 refine QF [] QV ?_
 refine dP 0 ?_
 refine dV 1 rfl (Qc rfl rfl rfl Qy 4 rfl (by omega) rfl) ?_
 refine dQ 2 [] rfl (XQ rfl rfl Qdq (fun w9 h=>by rw [Nat.zero_add];exact h.rd_blk (Mc:=[]) aPk (by rw [Nat.mul_one];exact ZO (l:=s) (k:=4) (by omega)) (by simp))) ?_
 refine dV 3 rfl (Qg rfl rfl Zm Yf) ?_
 try refine dWr ?_
 refine Q5 (show _ = Value.int .i64 (at1 s 4) from by first | rfl | exact Qd6 (by omega) (by omega)) ?_
 refine dP 4 ?_
 refine dV 5 rfl (Qc rfl rfl rfl Qy 5 rfl (by omega) rfl) ?_
 refine dQ 6 [] rfl (XQ rfl rfl Qdq (fun w9 h=>by rw [Nat.zero_add];exact h.rd_blk (Mc:=[]) aPk (by rw [Nat.mul_one];exact ZO (l:=s) (k:=5) (by omega)) (by simp))) ?_
 refine dV 7 rfl (Qg rfl rfl Zm Yf) ?_
 try refine dWr ?_
 refine Q5 (show _ = Value.int .i64 (at1 s 5) from by first | rfl | exact Qd6 (by omega) (by omega)) ?_
 refine dP 8 ?_
 refine dV 9 rfl (Qc rfl rfl rfl Qy 6 rfl (by omega) rfl) ?_
 refine dQ 10 [] rfl (XQ rfl rfl Qdq (fun w9 h=>by rw [Nat.zero_add];exact h.rd_blk (Mc:=[]) aPk (by rw [Nat.mul_one];exact ZO (l:=s) (k:=6) (by omega)) (by simp))) ?_
 refine dV 11 rfl (Qg rfl rfl Zm Yf) ?_
 try refine dWr ?_
 refine Q5 (show _ = Value.int .i64 (at1 s 6) from by first | rfl | exact Qd6 (by omega) (by omega)) ?_
 refine dP 12 ?_
 refine dV 13 rfl (Qc rfl rfl rfl Qy 7 rfl (by omega) rfl) ?_
 refine dQ 14 [] rfl (XQ rfl rfl Qdq (fun w9 h=>by rw [Nat.zero_add];exact h.rd_blk (Mc:=[]) aPk (by rw [Nat.mul_one];exact ZO (l:=s) (k:=7) (by omega)) (by simp))) ?_
 refine dV 15 rfl (Qg rfl rfl Zm Yf) ?_
 try refine dWr ?_
 refine Q5 (show _ = Value.int .i64 (at1 s 7) from by first | rfl | exact Qd6 (by omega) (by omega)) ?_
 refine dP 16 ?_
 refine dP 17 ?_
 refine dP 18 ?_
 refine dP 19 ?_
 refine dNi ?_
 refine aU ?_
 refine Qk (L':=[(2,_),(3,_),(4,_),(5,_),(6,_),(7,_),(8,_)]) aSx (fun _ h=>h) ?_
 refine aU4 ?_
 refine oCh rfl (fun w1 h1=>c91 w1 (at1 s 4) (at1 s 5) (at1 s 6)) (fun ⟨⟨na,nc⟩,nL⟩ hnL=>?_)
 refine aU3 ?_
 refine oAl (fun b8 _=>?_) Zv
 refine aU9 ?_
 refine oCq rfl (fun w1 h1=>c60 w1 _ _) ?_
 refine aU3 ?_
 refine oCq rfl (fun w1 h1=>c60 w1 _ _) ?_
 refine o_h (Qm (cs:=[_,_,_]) rfl rfl Zp QcS rfl rfl rfl) rfl (fun b9 _=>?_)
 refine oCq rfl (fun w1 h1=>f59 h1 aPk (by rfl) (by rfl) (by decide)) ?_
 refine aU7 ?_
 refine sCd rfl (fun h10=>?_) fun h10=>?_
 ·have hR : Qa s = (noT,Xx [.int .i64 (if Qw (at1 s 4) = 0 then Zr (at1 s 5) (at1 s 6) else Qw (at1 s 4)),.int .i64 (cond (decide (at1 s 5 ≤ 4)) 0 8),.int .i64 (cond (decide (at1 s 7 ≤ at1 s 6)) 0 16)]):=by rw [hf9];exact Qus h16 hs4 (by have hq:=h10;rwa [hf9] at hq)
  refine aU2 ?_
  refine o_p (Q7 (cs:=[_,_,_,_]) rfl rfl QdS Zv rfl) rfl ?_
  refine aU4 ?_
  exact Qs (rs:=[.cell 2 37,.tmp 3]) rfl (.cell rfl Zj aPk rfl (.tmp rfl (.nil))) (fun w' h'=>⟨((none,0),[]),by rw [hR];rfl,by rw [hR];rfl,(Xu 27 69 h'.nil).ent aEt⟩)
 have hE : rtE s = 0:=by have hq:=h10;rwa [hf9] at hq
 obtain ⟨h3,h4,h5,h6⟩:=Qvd hE
 have hem : QfY (at1 s 4) (at1 s 5) (at1 s 6) = ⟨at1 s 4,at1 s 5,at1 s 6,[⟨true,[],[]⟩]⟩:=by unfold QfY;rw [if_pos h3,if_pos h4]
 rw [hem] at hnL
 obtain ⟨x9,hx9,_⟩:=QjL hnL
 subst hx9
 rw [hem]
 dsimp only
 refine Qcw (fun w9 h=>HS.nodes_some (L:=[x9]) (Nat.succ_pos _) h aPk) fun hna=>?_
 obtain ⟨g9,rfl,hna1,hna2⟩:=hna
 refine Qk3 (fun w9 h=>(show HS w [] (.blk g9 69 (nc * 3) [.bool x9.us,.slice x9.ea x9.es.length x9.ec,.slice x9.ca x9.cs.length x9.cc] :: _) w9 from HS.nodes_blk h aPk)) ?_
 refine aU4 ?_
 refine o_p (Qp _ _ 8 s.length rfl rfl Qy ⟨_,_,rfl,rfl⟩ rfl (by omega) (by omega)) rfl ?_
 refine aU ?_
 refine oCh rfl (fun w1 h1=>c92 w1 s 8 (ub1 s 7) (Xy (some ⟨b2,0,none⟩) c3 8 1) (c3 - 8) (by have h9:=(h1.vl_blk (cs:=s.map bv) aPk).dropA (k:=8) (cap:=c3) (by rw [List.length_map];omega) (by rw [List.length_map];omega);rw [← List.map_drop] at h9;exact h9) (by omega) hsl (by omega) (by have hq9 : c3 ≤ maxLen:=(by assumption);simp only [maxLen] at hq9;omega) (by have:=XV s 7;omega)) (fun ⟨gn,gr,gl,gc⟩ hgn=>?_)
 refine aU4 ?_
 refine oAl (fun b11 _=>?_) Y6
 refine aU6 ?_
 refine Qk (L':=[(2,_),(3,_),(5,_),(9,_),(11,_),(12,_),(13,_)]) aSx (fun _ h=>h) ?_
 refine aU4 ?_
 refine oOr 4 72 76 rfl
  (fun hg12 _=>by
   refine aU6 ?_
   exact oJf 4 76)
  (fun hg14 _=>by
   refine aU3 ?_
   exact oJt 4 76) ?_
 refine aU ?_
 refine oOr 6 77 83 rfl
  (fun hg16 _=>by
   refine aU7 ?_
   refine oCq rfl (fun w1 h1=>c93 w1 (at1 s 4) gn.ea gn.ec gn.es (h1.rw_own ev2 aPk rfl) (by have h9 : gn.es.length ≤ ub1 s 7:=hgn.2.1;have:=XV s 7;omega) (fun x hx=>by have:=hgn.2.2 x hx;simp only [Yt,decide_eq_true_eq] at this;omega) h3) ?_
   refine aU2 ?_
   exact oJf 6 83)
  (fun hg18 _=>by
   refine aU5 ?_
   exact oJt 6 83) ?_
 refine aU ?_
 refine sCd rfl (fun h20=>?_) fun h20=>?_
 ·have hR : Qa s = (noT,3):=QjJ h16 hs4 h3 h4 h5 h6 (fun n9 hn9=>by have hq:=h20;have h91:=hgn.1 _ _ hn9;rw [hn9] at hq;have h92 : gn.es = n9.es:=congrArg Nd.es h91.1;rw [h92] at hq;have h93:=h91.2;(try simp only [Option.isSome_some] at hq);grind)
  refine aU2 ?_
  refine o_p (Q7 (cs:=[_,_,_,_]) rfl rfl QdS Zv rfl) rfl ?_
  refine aU3 ?_
  exact Qs (rs:=[.cell 2 37,.tmp 3]) rfl (.cell rfl Zj aPk rfl (.tmp rfl (.nil))) (fun w' h'=>⟨((none,0),[]),by rw [hR];rfl,by rw [hR];rfl,(Xu 27 69 h'.nil).ent aEt⟩)
 obtain ⟨⟨n9,e9⟩,hrd⟩ : ∃ q,rdN s 8 (ub1 s 7) = some q:=Option.isSome_iff_exists.1 (by have hq:=h20;grind)
 obtain ⟨hpl9,hgl9⟩:=hgn.1 _ _ hrd
 have he9:=(QhA (by omega) hrd).2.2.1
 have hee : e9 = s.length:=by have hq:=h20;grind
 subst hee
 have hes9 : gn.es = n9.es:=congrArg Nd.es hpl9
 have hR:=Qsa h16 hs4 h3 h4 h5 h6 hrd (by rw [← hes9];have hq:=h20;grind)
 refine aU5 ?_
 refine Qf (show _ = Value.slice (some ⟨g9,0,none⟩) 1 nc from rfl) ?_
 refine aU ?_
 refine o_p (Qc rfl rfl rfl Qjf 0 rfl (by omega) rfl) rfl ?_
 refine Qf (show _ = Value.pointer (some ⟨g9,0,none⟩) from rfl) ?_
 refine aU8 ?_
 exact Qs (rs:=[.cell 2 37,.tmp 3]) rfl (.cell rfl Zj aPk rfl (.tmp rfl (.nil))) (fun w' h'=>⟨((some ⟨g9,0,none⟩,nc),[gn]),by rw [hR];rfl,by rw [hR];show [gn.pl] = _;rw [hpl9],(HS.nodes_of1 (HS.own_shut (n:=1) (cap:=nc) (sz:=3) (h'.ent (Bs:=[.blk g9 69 (nc * 3) (LNd.vals gn),.ents 27 gn.ea gn.ec gn.es,.kids gn.ca gn.cc gn.cs]) aEt) rfl hna1 hna2)).ent aEt⟩)
instance : TFn Tryz.prog 98:=⟨by kernel_rfl⟩
instance : TFn Tryz.prog 70:=⟨by kernel_rfl⟩
theorem c31 (w : World) (s : List UInt8) (hsl : s.length ≤ 1000000) : Calls Tryz.prog 31 #[.string (bs s)] w fun en w'=>∃ g : (Option Addr × Nat) × List LNd,en = .returned (.tuple #[.agg #[.int .i64 (Qa s).1.co,.int .i64 (Qa s).1.mo,.int .i64 (Qa s).1.rm,.slice g.1.1 g.2.length g.1.2],.int .i64 (Qa s).2]) ∧ pln g.2 = (Qa s).1.ns ∧ HS w [] [.nodes 27 69 g.1.1 g.1.2 g.2] w':=by
 have hb4:=Qbi s 4
 have hb5:=Qbi s 5
 have hb6:=Qbi s 6
 have hb7:=Qbi s 7
 refine eN1 Tryz.func31 Tryz.ntmps31 ?_
 refine aU2 ?_
 refine oAl (fun b1 _=>?_) Zv
 refine aU4 ?_
 refine o_p (Q7 (cs:=[_,_,_,_]) rfl rfl QdS Zv rfl) rfl ?_
 refine oAl (fun b2 _=>?_) Zv
 refine aU6 ?_
 refine o_p (Qj rfl rfl Tryz.underlying9) rfl ?_
 refine aU2 ?_
 refine sCd rfl (fun h3=>?_) fun h3=>?_
 ·have hR : Qa s = (noT,10):=Qjp (by have hq:=h3;omega)
  refine aU6 ?_
  exact Qs (rs:=[.cell 2 37,.tmp 3]) rfl (.cell rfl Zj aPk rfl (.tmp rfl (.nil))) (fun w' h'=>⟨((none,0),[]),by rw [hR];rfl,by rw [hR];rfl,(Xu 27 69 h'.nil).ent aEt⟩)
 have h16 : ¬ s.length < 16:=by have hq:=h3;omega
 refine aU5 ?_
 refine o_p (YQ 4 rfl rfl rfl Tryz.underlying9 rfl (by omega)) rfl ?_
 refine aU2 ?_
 refine sCd rfl (fun h4=>?_) fun h4=>?_
 ·have hR : Qa s = (noT,3):=QkC h16 (by have hq:=h4;intro h9;rw [h9] at hq;simp [Qa6] at hq)
  refine aU6 ?_
  exact Qs (rs:=[.cell 2 37,.tmp 3]) rfl (.cell rfl Zj aPk rfl (.tmp rfl (.nil))) (fun w' h'=>⟨((none,0),[]),by rw [hR];rfl,by rw [hR];rfl,(Xu 27 69 h'.nil).ent aEt⟩)
 have hs4 : s.take 4 = Qa6:=by have hq:=h4;first | exact hq | simpa [Qa6] using hq
 refine aU4 ?_
 refine oCq rfl (fun w1 h1=>by have h9:=c72 w1 s 4 1 (by omega) (by omega) (by omega);rw [Qce] at h9;exact h9) ?_
 refine aU ?_
 refine oCq rfl (fun w1 h1=>by have h9:=c72 w1 s 5 1 (by omega) (by omega) (by omega);rw [Qce] at h9;exact h9) ?_
 refine aU ?_
 refine oCq rfl (fun w1 h1=>by have h9:=c72 w1 s 6 1 (by omega) (by omega) (by omega);rw [Qce] at h9;exact h9) ?_
 refine o_p (Q7 (cs:=[_,_,_,_]) rfl rfl QdS Zv rfl) rfl ?_
 refine oAl (fun b5 _=>?_) Zv
 refine aU7 ?_
 refine oCq rfl (fun w1 h1=>c96 w1 _) ?_
 refine aU7 ?_
 refine sCd rfl (fun h6=>?_) fun h6=>?_
 ·have hR : Qa s = (noT,Qw (at1 s 4)):=Qpm h16 hs4 h6
  refine aU7 ?_
  exact Qs (rs:=[.cell 2 37,.tmp 3]) rfl (.cell rfl Zj aPk rfl (.tmp rfl (.nil))) (fun w' h'=>⟨((none,0),[]),by rw [hR];rfl,by rw [hR];rfl,(Xu 27 69 h'.nil).ent aEt⟩)
 have h3 : Qw (at1 s 4) = 0:=h6
 obtain ⟨j,hj,hj3⟩:=QgH h3
 refine aU8 ?_
 refine oCq rfl (fun w1 h1=>c97 w1 _ _) ?_
 refine aU3 ?_
 refine Qk (L':=[(0,_),(2,_),(3,_),(4,_),(5,_),(7,_)]) aSx (fun _ h=>h) ?_
 refine aU4 ?_
 refine sCd rfl (fun h7=>?_) fun h7=>?_
 ·have hR : Qa s = (noT,Zr (at1 s 5) (at1 s 6)):=Qpz h16 hs4 h3 h7
  refine aU7 ?_
  exact Qs (rs:=[.cell 2 37,.tmp 3]) rfl (.cell rfl Zj aPk rfl (.tmp rfl (.nil))) (fun w' h'=>⟨((none,0),[]),by rw [hR];rfl,by rw [hR];rfl,(Xu 27 69 h'.nil).ent aEt⟩)
 have h4 : Zr (at1 s 5) (at1 s 6) = 0:=h7
 refine aU8 ?_
 refine sCd rfl (fun h8=>?_) fun h8=>?_
 ·have hR : Qa s = (noT,8):=QkW h16 hs4 h3 h4 (by have hq:=h8;omega)
  refine aU6 ?_
  exact Qs (rs:=[.cell 2 37,.tmp 3]) rfl (.cell rfl Zj aPk rfl (.tmp rfl (.nil))) (fun w' h'=>⟨((none,0),[]),by rw [hR];rfl,by rw [hR];rfl,(Xu 27 69 h'.nil).ent aEt⟩)
 have h5 : at1 s 5 ≤ 4:=by have hq:=h8;omega
 refine aU4 ?_
 refine oCq rfl (fun w1 h1=>by have h9:=c72 w1 s 7 1 (by omega) (by omega) (by omega);rw [Qce] at h9;exact h9) ?_
 refine QaP ?_
 refine sCd rfl (fun h9=>?_) fun h9=>?_
 ·have hR : Qa s = (noT,16):=Qlr h16 hs4 h3 h4 h5 (by have hq:=h9;omega)
  refine aU6 ?_
  exact Qs (rs:=[.cell 2 37,.tmp 3]) rfl (.cell rfl Zj aPk rfl (.tmp rfl (.nil))) (fun w' h'=>⟨((none,0),[]),by rw [hR];rfl,by rw [hR];rfl,(Xu 27 69 h'.nil).ent aEt⟩)
 have h6 : at1 s 7 ≤ at1 s 6:=by have hq:=h9;omega
 refine aU5 ?_
 refine oCh rfl (fun w1 h1=>c98 w1 s 8 (ub1 s 7) (by omega) hsl (by have:=XV s 7;omega)) (fun ⟨gn,gl⟩ hgn=>?_)
 refine aU4 ?_
 refine oAl (fun b10 _=>?_) Y6
 refine QaP ?_
 refine oOr 5 65 70 rfl
  (fun hg11 _=>by
   refine aU5 ?_
   refine o_p (Qj rfl rfl Tryz.underlying9) rfl ?_
   refine aU2 ?_
   exact oJf 5 70)
  (fun hg13 _=>by
   refine aU4 ?_
   exact oJt 5 70) ?_
 refine aU ?_
 refine oOr 6 71 77 rfl
  (fun hg15 _=>by
   refine aU7 ?_
   refine oCq rfl (fun w1 h1=>by have h9:=c70 w1 j gn hj3 (h1.rw_own ev2 aPk rfl) (by have h9 : gn.es.length ≤ ub1 s 7:=hgn.2.1;have:=XV s 7;omega) (fun x hx=>by have:=hgn.2.2 x hx;simp only [Yt,decide_eq_true_eq] at this;omega);rw [← hj] at h9;exact h9) ?_
   refine aU2 ?_
   exact oJf 6 77)
  (fun hg17 _=>by
   refine aU5 ?_
   exact oJt 6 77) ?_
 refine aU ?_
 refine sCd rfl (fun h19=>?_) fun h19=>?_
 ·have hR : Qa s = (noT,3):=QjJ h16 hs4 h3 h4 h5 h6 (fun n9 hn9=>by have hq:=h19;have h91:=hgn.1 _ _ hn9;rw [hn9] at hq;have h92 : gn.es = n9.es:=congrArg Nd.es h91.1;(try simp only [Option.isSome_some] at hq);have h93 : gl = s.length:=h91.2;have h94 : Qa3 (at1 s 4) gn.es = false:=(by grind);rw [← h92];cases hb9 : QdB (at1 s 4) gn.es;rfl;have h95 : Qa3 (at1 s 4) gn.es = true:=Qdz (fun i hi=>(by have:=Qbu.1 hb9 i hi;unfold Qaz at this;rw [Bool.and_eq_true] at this;exact this.1));rw [h94] at h95;cases h95)
  refine aU ?_
  refine Qk (L':=[(2,_),(3,_),(4,_),(5,_),(9,_)]) aSx (fun _ h=>h) ?_
  refine aU5 ?_
  exact Qs (rs:=[.cell 2 37,.tmp 3]) rfl (.cell rfl Zj aPk rfl (.tmp rfl (.nil))) (fun w' h'=>⟨((none,0),[]),by rw [hR];rfl,by rw [hR];rfl,(Xu 27 69 h'.nil).ent aEt⟩)
 obtain ⟨⟨n9,e9⟩,hrd⟩ : ∃ q,rdN s 8 (ub1 s 7) = some q:=Option.isSome_iff_exists.1 (by have hq:=h19;grind)
 obtain ⟨hpl9,hgl9⟩:=hgn.1 _ _ hrd
 have hee : e9 = s.length:=by have hq:=h19;grind
 subst hee
 have hes9 : gn.es = n9.es:=congrArg Nd.es hpl9
 have hky : Qa3 (at1 s 4) gn.es = true:=by have hq:=h19;grind
 have hgl : gn.es.length ≤ 255:=by have h9 : gn.es.length ≤ ub1 s 7:=hgn.2.1;have:=XV s 7;omega
 have hkl9 : ∀ x ∈ gn.es,x.key.length ≤ 1000000:=(fun x hx=>by have:=hgn.2.2 x hx;simp only [Yt,decide_eq_true_eq] at this;omega)
 refine aU3 ?_
 refine Qk (L':=[(2,_),(3,_),(4,_),(5,_),(9,_)]) aSx (fun _ h=>h) ?_
 refine aU4 ?_
 refine Qo (α:=Nat) [3,12,79,80,81,82,83,84,85,86,87,88,89,90,91,92,93,94,95,96,97,98,99,100,101,102,103] (fun i=>[(12,.int .i64 (i : Int))]) (fun _=>HS w [] [.blk b10 69 3 [.bool gn.us,.slice gn.ea gn.es.length gn.ec,.slice gn.ca gn.cs.length gn.cc],.ents 27 gn.ea gn.ec gn.es,.kids gn.ca gn.cc gn.cs,.blk b5 37 4 [.int .i64 (at1 s 4),.int .i64 (at1 s 5),.int .i64 (at1 s 6),.slice none 0 0],.blk b2 37 4 [.int .i64 0,.int .i64 0,.int .i64 0,.slice none 0 0],.blk b1 37 4 [.int .i64 0,.int .i64 0,.int .i64 0,.slice none 0 0]]) (fun i=>1 ≤ i ∧ ∀ i9,0 < i9 → i9 < i → Xo (at1 s 4) (nth gn.es (i9 - 1)).key (nth gn.es i9).key < 0) (fun i=>gn.es.length + 1 - i) 1 ⟨Nat.le_refl _,fun i h1 h2=>by omega⟩ aSx (fun w h=>h.ent aEt) (fun i hii=>?_)
 obtain ⟨hi1,hi2⟩:=hii
 refine aU9 ?_
 refine sCd rfl (fun h20=>?_) fun h20=>?_
 ·have hi : i < gn.es.length:=by omega
  refine Qcw (fun w9 h=>HS.ents_some (l:=gn.es) (by omega) h aPk) fun hge=>?_
  obtain ⟨ge,hge⟩:=hge
  refine aU4 ?_
  refine QF [] QV ?_
  refine dFa 0 ?_
  refine dLd 1 [] ?_
  refine dFa 2 ?_
  refine dLd 3 [] ?_
  refine dP 4 ?_
  refine dP 5 ?_
  try refine dWr ?_
  refine dV 6 rfl (Qc rfl rfl rfl Qn (i - 1) (by omega) (by omega) hge) ?_
  refine dFa 7 ?_
  refine dQ 8 [] rfl (XQ rfl rfl Qd4 (fun w9 h=>by have h8:=(h.rw_own (a:=gn.ea) (l:=gn.es) ev2 aPk rfl).rdj (i:=i - 1) 0 (by omega) rfl;rw [hge] at h8;exact h8)) ?_
  refine dFa 9 ?_
  refine dLd 10 [] ?_
  refine dP 11 ?_
  refine dV 12 rfl (Qc rfl rfl rfl Qn (i) (by omega) (by omega) hge) ?_
  refine dFa 13 ?_
  refine dQ 14 [] rfl (XQ rfl rfl Qd4 (fun w9 h=>by have h8:=(h.rw_own (a:=gn.ea) (l:=gn.es) ev2 aPk rfl).rdj (i:=i) 0 hi rfl;rw [hge] at h8;exact h8)) ?_
  refine dQ 15 [] rfl (Q1 rfl QsC rfl (fun w1 h1=>by have h9:=c65 w1 j (nth gn.es (i - 1)).key (nth gn.es i).key hj3 (by rw [← hj];exact QeM hky (by omega)) (by rw [← hj];exact QeM hky hi) (hkl9 _ (Xg (by omega))) (hkl9 _ (Xg hi));rw [← hj] at h9;exact h9)) ?_
  refine dP 16 ?_
  refine dNi ?_
  refine sCd rfl (fun h21=>?_) fun h21=>?_
  ·have hR : Qa s = (noT,3):=QjJ h16 hs4 h3 h4 h5 h6 (fun m9 hm9=>by rw [hrd] at hm9;injection hm9 with hm9;injection hm9 with q1 q2;subst q1;rw [← hes9];refine Ql1 hi (i:=i) ?_;unfold Qaz;have hq:=h21;rw [Bool.and_eq_false_iff];exact .inr (decide_eq_false (by omega)))
   refine aU6 ?_
   exact Qs (rs:=[.cell 2 37,.tmp 3]) rfl (.cell rfl Zj aPk rfl (.tmp rfl (.nil))) (fun w' h'=>⟨((none,0),[]),by rw [hR];rfl,by rw [hR];rfl,(Xu 27 69 h'.nil).ent aEt⟩)
  have hlt : Xo (at1 s 4) (nth gn.es (i - 1)).key (nth gn.es i).key < 0:=by have hq:=h21;omega
  refine aT5 ?_
  refine aU2 ?_
  exact sBk (i + 1) (by omega) ⟨by omega,fun i9 h91 h92=>(Nat.lt_or_ge i9 i).elim (hi2 i9 h91) (fun h=>by obtain rfl : i9 = i:=(by omega);exact hlt)⟩
 have hA : QdB (at1 s 4) gn.es = true:=Qbu.2 (fun i9 h9=>by unfold Qaz;rw [QeM hky h9,Bool.true_and];exact decide_eq_true (Nat.eq_zero_or_pos i9 |>.imp id (fun hp=>hi2 i9 hp (by omega))))
 have hR:=Qsa h16 hs4 h3 h4 h5 h6 hrd (by rw [← hes9];exact hA)
 refine Qh rfl ?_
 refine aU3 ?_
 refine o_h (Qm (cs:=[_,_,_]) rfl rfl Qjf Y6 rfl rfl rfl) rfl (fun b22 _=>?_)
 refine aU9 ?_
 exact Qs (rs:=[.cell 2 37,.tmp 3]) rfl (.cell rfl Zj aPk rfl (.tmp rfl (.nil))) (fun w' h'=>⟨((some ⟨b22,0,none⟩,1),[gn]),by rw [hR];rfl,by rw [hR];show [gn.pl] = _;rw [hpl9],(HS.nodes_of1 (HS.own_shut (n:=1) (cap:=1) (sz:=3) (h'.ent (Bs:=[.blk b22 69 (1 * 3) (LNd.vals gn),.ents 27 gn.ea gn.ec gn.es,.kids gn.ca gn.cc gn.cs]) aEt) rfl (by decide) (by decide))).ent aEt⟩)
end Go.Proofs
namespace Gx
open Go Go.RowKit
section
variable {P : Program} {o : Oper} {L : Qb} {w0 : World} {M : List Nat} {As As' : List HA}
end
end Gx
namespace Gx
namespace Ev
open Go Go.RowKit
structure Rho where
 f : Nat → Option (Nat × Nat)
 ex : List HA
instance : CoeFun Rho (fun _=>Nat → Option (Nat × Nat)):=⟨Rho.f⟩
def Rho.le (ρ ρ' : Rho) : Prop:=(∀ n x,ρ n = some x → ρ' n = some x) ∧ ρ'.ex = ρ.ex
theorem Rho.le_refl (ρ : Rho) : ρ.le ρ:=⟨fun _ _ h=>h,rfl⟩
theorem Rho.le_trans {a b c : Rho} (h1 : a.le b) (h2 : b.le c) : a.le c:=⟨fun n x h=>h2.1 n x (h1.1 n x h),h2.2.trans h1.2⟩
def XJ (ρ : Rho) : Value → Option Value
 | .pointer (some ⟨n,i,none⟩)=>match ρ n with
  | some x=>some (.pointer (some ⟨x.1,i,none⟩))
  | none=>none
 | .pointer (some ⟨n,i,some q⟩)=>match ρ n with
  | some x=>some (.slice (some ⟨x.1,if x.2 = 0 then i else i + q,none⟩) 0 x.2)
  | none=>none
 | .pointer none=>some (.pointer none)
 | .slice (some ⟨n,i,none⟩) l c=>match ρ n with
  | some x=>some (.slice (some ⟨x.1,i,none⟩) l (c + x.2))
  | none=>none
 | .slice (some ⟨n,i,some _⟩) l c=>match ρ n with
  | some x=>some (.slice (some ⟨x.1,i,none⟩) l c)
  | none=>none
 | .slice none l c=>some (.slice none l c)
 | .map (some r)=>match ρ r with
  | some x=>some (.map (some x.1))
  | none=>none
 | .map none=>some (.map none)
 | .int k n=>some (.int k n)
 | .bool b=>some (.bool b)
 | .string s=>some (.string s)
 | .nilFunc=>some .nilFunc
 | _=>none
def Qt {α β : Type} (f : α → Option β) : List α → Option (List β)
 | []=>some []
 | a :: l=>match f a,Qt f l with
  | some b,some m=>some (b :: m)
  | _,_=>none
def Qb5 (ρ : Rho) : Fn → Option Fn
 | .func f=>some (.func f)
 | .yield n=>match ρ n with
  | some x=>some (.yield x.1)
  | none=>none
 | _=>none
def QP (ρ : Rho) : Value → Option Value
 | .func f a b=>match Qb5 ρ f,Qt (XJ ρ) a.toList,Qt (XJ ρ) b.toList with
  | some f',some a',some b'=>some (.func f' a'.toArray b'.toArray)
  | _,_,_=>none
 | v=>XJ ρ v
def Xq (ρ : Rho) : Value → Option Value
 | .agg cs=>match Qt (QP ρ) cs.toList with
  | some l=>some (.agg l.toArray)
  | none=>none
 | v=>QP ρ v
def den (ρ : Rho) : Value → Option Value
 | .tuple vs=>match Qt (Xq ρ) vs.toList with
  | some l=>some (.tuple l.toArray)
  | none=>none
 | v=>Xq ρ v
section
variable {α β : Type}
theorem Xi {f g : α → Option β} (h : ∀ a b,f a = some b → g a = some b) : ∀ {l : List α} {m : List β},Qt f l = some m → Qt g l = some m
 | [],m,e=>e
 | a :: l,m,e=>by
  simp only [Qt] at e ⊢;split at e
  ·rename_i b m' h1 h2;rw [h a b h1,Xi h h2];exact e
  ·cases e
theorem Q6 {f : α → Option β} : ∀ {l : List α} {m : List β},Qt f l = some m → m.length = l.length
 | [],m,e=>by cases e;rfl
 | a :: l,m,e=>by
  simp only [Qt] at e;split at e
  ·rename_i b m' h1 h2;injection e with e
   subst e;simp [Q6 h2]
  ·cases e
theorem Qar {f : α → Option β} : ∀ {l : List α} {m : List β} {i : Nat} {a : α},Qt f l = some m → l[i]? = some a → ∃ b,m[i]? = some b ∧ f a = some b
 | [],m,i,a,e,h=>by simp at h
 | x :: l,m,i,a,e,h=>by
  simp only [Qt] at e;split at e
  ·rename_i b m' h1 h2;injection e with e
   subst e;cases i with
   | zero=>simp at h;subst h;exact ⟨b,rfl,h1⟩
   | succ i=>simpa using Qar h2 (by simpa using h)
  ·cases e
theorem Zl {f : α → Option β} : ∀ {l l2 : List α} {m m2 : List β},Qt f l = some m → Qt f l2 = some m2 → Qt f (l ++ l2) = some (m ++ m2)
 | [],l2,m,m2,e,e2=>by cases e;exact e2
 | a :: l,l2,m,m2,e,e2=>by
  simp only [Qt] at e;split at e
  ·rename_i b m' h1 h2;injection e with e
   subst e
   simp_all [Qt,Zl]
  ·cases e
theorem XG {f : α → Option β} : ∀ {l : List α} {m : List β} (k : Nat),Qt f l = some m → Qt f (l.take k) = some (m.take k)
 | [],m,k,e=>by cases e;simp [Qt]
 | a :: l,m,0,e=>by simp [Qt]
 | a :: l,m,k + 1,e=>by
  simp only [Qt] at e;split at e
  ·rename_i b m' h1 h2;injection e with e
   subst e
   simp_all [Qt,XG]
  ·cases e
theorem Ys {f : α → Option β} : ∀ {l : List α} {m : List β} (k : Nat),Qt f l = some m → Qt f (l.drop k) = some (m.drop k)
 | [],m,k,e=>by cases e;simp [Qt]
 | a :: l,m,0,e=>by simpa using e
 | a :: l,m,k + 1,e=>by
  simp only [Qt] at e;split at e
  ·rename_i b m' h1 h2;injection e with e
   subst e
   simpa using Ys k h2
  ·cases e
theorem QiC {f : α → Option β} : ∀ {l : List α} {m : List β} (i : Nat) {a : α} {b : β},Qt f l = some m → f a = some b → Qt f (l.set i a) = some (m.set i b)
 | [],m,i,a,b,e,h=>by cases e;simp [Qt]
 | x :: l,m,i,a,b,e,h=>by
  simp only [Qt] at e;split at e
  ·rename_i y m' h1 h2;injection e with e
   subst e;cases i with
   | zero=>simp only [List.set_cons_zero,Qt,h,h2]
   | succ i=>simp only [List.set_cons_succ,Qt,h1,QiC i h2 h]
  ·cases e
theorem QiU {f : α → Option β} : ∀ {l : List α} {m : List β} {b : β},Qt f l = some m → b ∈ m → ∃ a ∈ l,f a = some b
 | [],m,b,e,h=>by cases e;cases h
 | x :: l,m,b,e,h=>by
  simp only [Qt] at e;split at e
  ·rename_i y m' h1 h2;injection e with e
   subst e;rcases List.mem_cons.1 h with rfl | h
   ·grind
   ·obtain ⟨a,ha,e⟩:=QiU h2 h
    grind
  ·cases e
end
theorem Qmc {ρ ρ' : Rho} (h : ρ.le ρ') (v u : Value) (e : XJ ρ v = some u) : XJ ρ' v = some u:=by
  unfold XJ at e ⊢
  split at e <;> first
    | exact e
    | (split at e
       · rename_i x hx;rw [h.1 _ _ hx];exact e
       · cases e)
    | cases e
theorem QjU {ρ ρ' : Rho} (h : ρ.le ρ') (f g : Fn) (e : Qb5 ρ f = some g) : Qb5 ρ' f = some g:=by
  unfold Qb5 at e ⊢
  split at e <;> first
    | exact e
    | (split at e
       · rename_i x hx;rw [h.1 _ _ hx];exact e
       · cases e)
    | cases e
theorem Qdr {ρ ρ' : Rho} (h : ρ.le ρ') (v u : Value) (e : QP ρ v = some u) : QP ρ' v = some u:=by
 unfold QP at e ⊢
 grind [QjU,Xi,Qmc]
theorem Qmi {ρ ρ' : Rho} (h : ρ.le ρ') (v u : Value) (e : Xq ρ v = some u) : Xq ρ' v = some u:=by
 unfold Xq at e ⊢
 grind [Xi,Qdr]
theorem Qft {ρ ρ' : Rho} (h : ρ.le ρ') (v u : Value) (e : den ρ v = some u) : den ρ' v = some u:=by
 unfold den at e ⊢
 grind [Xi,Qmi]
abbrev Env:=Nat → Option Value
def SR (ρ : Rho) (L : Env) (L' : Qb) : Prop:=∀ t v,L t = some v → ∃ u,Qb.get L' t = some u ∧ den ρ v = some u
theorem SR.mono {ρ ρ' : Rho} (h : ρ.le ρ') {L : Env} {L' : Qb} (e : SR ρ L L') : SR ρ' L L':=fun t v hv=>by
 obtain ⟨u,h1,h2⟩:=e t v hv
 grind [Qft]
theorem SR.get {ρ : Rho} {L : Env} {L' : Qb} {t : Nat} {v : Value} (e : SR ρ L L') (h : L t = some v) : ∃ u,Qb.get L' t = some u ∧ den ρ v = some u:=e t v h
theorem SR.put {ρ : Rho} {L L2 : Env} {L' : Qb} {d : Nat} {v u : Value} (e : SR ρ L L') (hu : den ρ v = some u) (h : ∀ t x,L2 t = some x → (t = d ∧ x = v) ∨ (t ≠ d ∧ L t = some x)) : SR ρ L2 ((d,u) :: L'):=fun t x hx=>by
 simp only [Qb.get];rcases h t x hx with ⟨rfl,rfl⟩ | ⟨h1,h2⟩
 ·simp_all
 ·have hb : Nat.beq d t = false:=by cases hb : Nat.beq d t <;> simp_all
  rw [hb];exact e t x h2
def flat : Value → Bool
 | .int _ _ | .bool _ | .string _ | .nilFunc | .pointer none | .slice none _ _ | .map none=>true
 | _=>false
theorem Qal {v : Value} (h : flat v = true) (ρ : Rho) : den ρ v = some v:=by
 unfold flat at h;split at h <;> first | rfl | cases h
def opd (L : Env) : Operand → Option Value
 | .tmp t=>L t
 | .const v=>bif flat v then some v else none
 | .func f=>some (.func (.func f) #[] #[])
 | _=>none
theorem YJ {ρ : Rho} {L : Env} {L' : Qb} {x : Operand} {v : Value} (hs : SR ρ L L') (h : opd L x = some v) : ∃ u,ev L' x = some u ∧ den ρ v = some u:=by
 unfold opd at h;split at h
 ·exact hs.get h
 ·rename_i c;cases hf : flat c with
  | true=>
   rw [hf] at h;injection h with h
   subst h;exact ⟨_,rfl,Qal hf ρ⟩
  | false=>rw [hf] at h;cases h
 ·injection h with h
  subst h;exact ⟨_,rfl,rfl⟩
 ·cases h
def Qcx (L : Env) : List Operand → Option (List Value)
 | []=>some []
 | x :: l=>match opd L x,Qcx L l with
  | some v,some vs=>some (v :: vs)
  | _,_=>none
theorem Qdv {ρ : Rho} {L : Env} {L' : Qb} (hs : SR ρ L L') : ∀ {l : List Operand} {vs : List Value},Qcx L l = some vs → ∃ us,evs L' l = some us ∧ Qt (den ρ) vs = some us
 | [],vs,h=>by cases h;exact ⟨[],rfl,rfl⟩
 | x :: l,vs,h=>by
  simp only [Qcx] at h;split at h
  ·rename_i v vs' h1 h2;injection h with h
   subst h;obtain ⟨u,e1,e2⟩:=YJ hs h1;obtain ⟨us,e3,e4⟩:=Qdv hs h2
   grind [evs,Qt]
  ·cases h
section
variable {ρ : Rho} {L : Env} {L' : Qb} {x : Operand}
theorem Qi {v : Value} (hs : SR ρ L L') (h : opd L x = some v) (hf : flat v = true) : ev L' x = some v:=by grind [YJ,Qal]
theorem Qc3 {n i : Nat} (hs : SR ρ L L') (h : opd L x = some (.pointer (some ⟨n,i,none⟩))) : ∃ b d,ρ n = some (b,d) ∧ ev L' x = some (.pointer (some ⟨b,i,none⟩)):=by grind [YJ,den,Xq,QP,XJ]
theorem XP {n i l c : Nat} (hs : SR ρ L L') (h : opd L x = some (.slice (some ⟨n,i,none⟩) l c)) : ∃ b d,ρ n = some (b,d) ∧ ev L' x = some (.slice (some ⟨b,i,none⟩) l (c + d)):=by grind [YJ,den,Xq,QP,XJ]
theorem Yj {n i l c q : Nat} (hs : SR ρ L L') (h : opd L x = some (.slice (some ⟨n,i,some q⟩) l c)) : ∃ b d,ρ n = some (b,d) ∧ ev L' x = some (.slice (some ⟨b,i,none⟩) l c):=by grind [YJ,den,Xq,QP,XJ]
theorem Qe0 {n i q : Nat} (hs : SR ρ L L') (h : opd L x = some (.pointer (some ⟨n,i,some q⟩))) : ∃ b d j,ρ n = some (b,d) ∧ ev L' x = some (.slice (some ⟨b,j,none⟩) 0 d):=by grind [YJ,den,Xq,QP,XJ]
theorem QbU {cs : Array Value} (hs : SR ρ L L') (h : opd L x = some (.agg cs)) : ∃ l,Qt (QP ρ) cs.toList = some l ∧ ev L' x = some (.agg l.toArray):=by grind [YJ,den,Xq]
theorem QmD {vs : Array Value} (hs : SR ρ L L') (h : opd L x = some (.tuple vs)) : ∃ l,Qt (Xq ρ) vs.toList = some l ∧ ev L' x = some (.tuple l.toArray):=by grind [YJ,den]
end
end Ev
namespace Ev
open Go Go.RowKit
def vN : Option Value → Option Nat
 | some (.int _ (.ofNat n))=>some n
 | _=>none
theorem YK {v : Option Value} {n : Nat} (h : vN v = some n) : ∃ k,v = some (.int k (n : Int)):=by
 unfold vN at h;split at h <;> simp_all
def Q8 (P : Program) (t : TypeId) : Bool:=match P.underlying t with | some .string=>true | _=>false
def QbL (P : Program) (t : TypeId) : Bool:=match P.underlying t with | some .bool=>true | _=>false
def Xf (P : Program) (t : TypeId) : Bool:=match P.underlying t with | some (.slice _)=>true | _=>false
theorem X4 {P : Program} {t : TypeId} (h : Q8 P t = true) : P.underlying t = some .string:=by grind [Q8]
theorem QfF {P : Program} {t : TypeId} (h : QbL P t = true) : P.underlying t = some .bool:=by grind [QbL]
theorem XI {P : Program} {t : TypeId} (h : Xf P t = true) : ∃ e,P.underlying t = some (.slice e):=by grind [Xf]
def Qb6 (P : Program) (t : TypeId) : Bool:=match P.underlying t with
 | some (.pointer te)=>(match tsz P te with
  | some (n,_)=>!Nat.beq n 0
  | none=>false)
 | _=>false
theorem QcA {P : Program} {t : TypeId} (h : Qb6 P t = true) : ∃ te,Qrz P t te:=by
 unfold Qb6 at h;split at h
 ·rename_i te h1;split at h
  ·rename_i n b h2;exact ⟨te,QqI h1 h2 fun e=>by subst e;cases h⟩
  ·cases h
 ·cases h
def Qmp : List Nat → List Nat → Bool
 | [],[]=>true
 | a :: l,b :: m=>Nat.beq a b && Qmp l m
 | _,_=>false
theorem Qls : ∀ {l m : List Nat},Qmp l m = true → l = m
 | [],[],_=>rfl
 | a :: l,b :: m,h=>by
  simp only [Qmp,Bool.and_eq_true] at h;rw [Nat.eq_of_beq_eq_true h.1,Qls h.2]
 | [],_ :: _,h=>by cases h
 | _ :: _,[],h=>by cases h
def QqQ (P : Program) (t : TypeId) (xs ys : List Value) : Option Bool:=match Qj2 P t with
 | some ks=>bif (Qmp (xs.map Qcb) ks && Qmp (ys.map Qcb) ks) && (xs.all flat && ys.all flat) then eqC xs ys else none
 | none=>none
def Zt (P : Program) (op : BinOp) (t : TypeId) (a b : Value) : Option Value:=match Xb op a b with
 | some v=>some v
 | none=>match op,a,b with
  | .eql,.bool x,.bool y=>bif QbL P t then some (.bool (x == y)) else none
  | .neq,.bool x,.bool y=>bif QbL P t then some (.bool (!(x == y))) else none
  | .eql,.slice p _ _,.slice none _ _=>bif Xf P t then some (.bool p.isNone) else none
  | .neq,.slice p _ _,.slice none _ _=>bif Xf P t then some (.bool (!p.isNone)) else none
  | .eql,.agg ⟨xs⟩,.agg ⟨ys⟩=>(match QqQ P t xs ys with
   | some b=>some (.bool b)
   | none=>none)
  | .neq,.agg ⟨xs⟩,.agg ⟨ys⟩=>(match QqQ P t xs ys with
   | some b=>some (.bool (!b))
   | none=>none)
  | .eql,.pointer none,.pointer none=>bif Qb6 P t then some (.bool true) else none
  | .eql,.pointer (some ⟨_,_,none⟩),.pointer none=>bif Qb6 P t then some (.bool false) else none
  | .neq,.pointer none,.pointer none=>bif Qb6 P t then some (.bool false) else none
  | .neq,.pointer (some ⟨_,_,none⟩),.pointer none=>bif Qb6 P t then some (.bool true) else none
  | .quo,.int k x,.int k' y=>bif kEq k k' && !decide (y = 0) then some (.int k (k.wrap (x.tdiv y))) else none
  | .rem,.int k x,.int k' y=>bif kEq k k' && !decide (y = 0) then some (.int k (x.tmod y)) else none
  | .shl,.int k x,.int _ (.ofNat y)=>some (.int k (k.wrap (x * 2 ^ (min y k.bits))))
  | .shr,.int k x,.int _ (.ofNat y)=>some (.int k (x / 2 ^ (min y k.bits)))
  | .add,.string ⟨⟨x⟩⟩,.string ⟨⟨y⟩⟩=>bif Nat.ble (x.length + y.length) 9223372036854775807 then some (.string (bs (x ++ y))) else none
  | _,_,_=>none
theorem Qgm {P : Program} {t : TypeId} {xs ys : List Value} {b : Bool} (h : QqQ P t xs ys = some b) : ∃ ks,Qj2 P t = some ks ∧ xs.map Qcb = ks ∧ ys.map Qcb = ks ∧ xs.all flat = true ∧ ys.all flat = true ∧ eqC xs ys = some b:=by grind [QqQ,ks,Qmp,Qcb,flat,Qls]
theorem QmJ {ρ : Rho} {v : Value} (h : flat v = true) : QP ρ v = some v:=by
 unfold flat at h;split at h <;> first | rfl | cases h
theorem Qbg {ρ : Rho} : ∀ {l : List Value},l.all flat = true → Qt (QP ρ) l = some l
 | [],_=>rfl
 | v :: l,h=>by simp_all [Qt,QmJ,Qbg]
section
variable {P : Program} {o : Oper} {ρ : Rho} {L : Env} {L' : Qb}
theorem QhL {op : BinOp} {a b v : Value} (h : Xb op a b = some v) : flat a = true ∧ flat b = true ∧ flat v = true:=by
 unfold Xb at h;split at h
 ·rename_i k x k' y;refine ⟨rfl,rfl,?_⟩;cases hk : kEq k k' with
  | false=>rw [hk] at h;cases h
  | true=>
   rw [hk] at h;simp only [cond_true] at h;cases op <;> simp only [XK,Option.some.injEq,reduceCtorEq] at h <;> first | (subst h;rfl) | cases h
 ·refine ⟨rfl,rfl,?_⟩;cases op <;> simp only [QcL,Option.some.injEq,reduceCtorEq] at h <;> first | (subst h;rfl) | cases h
 ·cases h
theorem Qva {op : BinOp} {t t' : TypeId} {x y : Operand} {a b v : Value} (ho : o.op = .binOp op t x y t') (hs : SR ρ L L') (hx : opd L x = some a) (hy : opd L y = some b) (h : Zt P op t a b = some v) : ∃ u,OpP P o L' u ∧ den ρ v = some u:=by
 unfold Zt at h;split at h
 ·grind [QhL,ZU,QaO,Qi,Qal]
 ·split at h
  ·rename_i x' y' _;cases ht : QbL P t with
   | false=>rw [ht] at h;cases h
   | true=>
    rw [ht] at h;injection h with h
    subst h;exact ⟨_,Qkj ho (Qi hs hx rfl) (Qi hs hy rfl) (QfF ht),rfl⟩
  ·rename_i x' y' _;cases ht : QbL P t with
   | false=>rw [ht] at h;cases h
   | true=>
    rw [ht] at h;injection h with h
    subst h;exact ⟨_,QjD ho (Qi hs hx rfl) (Qi hs hy rfl) (QfF ht),rfl⟩
  ·rename_i p l1 c1 l2 c2 _;cases ht : Xf P t with
   | false=>rw [ht] at h;cases h
   | true=>
    rw [ht] at h;injection h with h
    subst h;obtain ⟨e,he⟩:=XI ht;have hy':=Qi hs hy rfl;rcases p with _ | ⟨n,i,_ | q⟩
    ·exact ⟨_,Yz ho (Qi hs hx rfl) hy' he,rfl⟩
    ·obtain ⟨b9,d9,_,hx'⟩:=XP hs hx;exact ⟨_,Yz ho hx' hy' he,rfl⟩
    ·obtain ⟨b9,d9,_,hx'⟩:=Yj hs hx;exact ⟨_,Yz ho hx' hy' he,rfl⟩
  ·rename_i p l1 c1 l2 c2 _;cases ht : Xf P t with
   | false=>rw [ht] at h;cases h
   | true=>
    rw [ht] at h;injection h with h
    subst h;obtain ⟨e,he⟩:=XI ht;have hy':=Qi hs hy rfl;rcases p with _ | ⟨n,i,_ | q⟩
    ·exact ⟨_,Zn ho (Qi hs hx rfl) hy' he,rfl⟩
    ·obtain ⟨b9,d9,_,hx'⟩:=XP hs hx;exact ⟨_,Zn ho hx' hy' he,rfl⟩
    ·obtain ⟨b9,d9,_,hx'⟩:=Yj hs hx;exact ⟨_,Zn ho hx' hy' he,rfl⟩
  ·rename_i xs ys _;split at h
   ·rename_i b hb;injection h with h
    subst h;obtain ⟨ks,k1,k2,k3,k4,k5,k6⟩:=Qgm hb;obtain ⟨l1,m1,n1⟩:=QbU hs hx;obtain ⟨l2,m2,n2⟩:=QbU hs hy;rw [Qbg k4] at m1;rw [Qbg k5] at m2;injection m1 with m1
    injection m2 with m2
    subst m1 m2;exact ⟨_,QmO ho n1 n2 k1 k2 k3 k6,rfl⟩
   ·cases h
  ·rename_i xs ys _;split at h
   ·rename_i b hb;injection h with h
    subst h;obtain ⟨ks,k1,k2,k3,k4,k5,k6⟩:=Qgm hb;obtain ⟨l1,m1,n1⟩:=QbU hs hx;obtain ⟨l2,m2,n2⟩:=QbU hs hy;rw [Qbg k4] at m1;rw [Qbg k5] at m2;injection m1 with m1
    injection m2 with m2
    subst m1 m2;exact ⟨_,Qf5 ho n1 n2 k1 k2 k3 k6,rfl⟩
   ·cases h
  ·cases hk : Qb6 P t with
   | false=>rw [hk] at h;cases h
   | true=>
    rw [hk] at h;injection h with h
    subst h;obtain ⟨te,ht⟩:=QcA hk;exact ⟨_,Qgz ho (Qi hs hx rfl) (Qi hs hy rfl) ht,rfl⟩
  ·cases hk : Qb6 P t with
   | false=>rw [hk] at h;cases h
   | true=>
    rw [hk] at h;injection h with h
    subst h;obtain ⟨te,ht⟩:=QcA hk;obtain ⟨b9,d9,_,hx'⟩:=Qc3 hs hx;exact ⟨_,Qgz ho hx' (Qi hs hy rfl) ht,rfl⟩
  ·cases hk : Qb6 P t with
   | false=>rw [hk] at h;cases h
   | true=>
    rw [hk] at h;injection h with h
    subst h;obtain ⟨te,ht⟩:=QcA hk;exact ⟨_,Qjh ho (Qi hs hx rfl) (Qi hs hy rfl) ht,rfl⟩
  ·cases hk : Qb6 P t with
   | false=>rw [hk] at h;cases h
   | true=>
    rw [hk] at h;injection h with h
    subst h;obtain ⟨te,ht⟩:=QcA hk;obtain ⟨b9,d9,_,hx'⟩:=Qc3 hs hx;exact ⟨_,Qjh ho hx' (Qi hs hy rfl) ht,rfl⟩
  ·rename_i k x' k' y' _;cases hk : kEq k k' && !decide (y' = 0) with
   | false=>rw [hk] at h;cases h
   | true=>
    rw [hk] at h;injection h with h
    subst h;simp only [Bool.and_eq_true,Bool.not_eq_true',decide_eq_false_iff_not] at hk;obtain rfl:=Qbs hk.1;exact ⟨_,Qo3 ho (Qi hs hx rfl) (Qi hs hy rfl) hk.2,rfl⟩
  ·rename_i k x' k' y' _;cases hk : kEq k k' && !decide (y' = 0) with
   | false=>rw [hk] at h;cases h
   | true=>
    rw [hk] at h;injection h with h
    subst h;simp only [Bool.and_eq_true,Bool.not_eq_true',decide_eq_false_iff_not] at hk;obtain rfl:=Qbs hk.1;exact ⟨_,Ql2 ho (Qi hs hx rfl) (Qi hs hy rfl) hk.2,rfl⟩
  ·injection h with h
   subst h;exact ⟨_,QfG ho (Qi hs hx rfl) (Qi hs hy rfl) (Int.natCast_nonneg _) _ rfl,rfl⟩
  ·injection h with h
   subst h;exact ⟨_,Qam ho (Qi hs hx rfl) (Qi hs hy rfl) (Int.natCast_nonneg _) _ rfl,rfl⟩
  ·rename_i x' y' _;cases hk : Nat.ble (x'.length + y'.length) 9223372036854775807 with
   | false=>rw [hk] at h;cases h
   | true=>
    rw [hk] at h;injection h with h
    subst h;exact ⟨_,QbS ho (Qi hs hx rfl) (Qi hs hy rfl) (Nat.le_of_ble_eq_true hk),rfl⟩
  ·cases h
end
end Ev
namespace Ev
open Go Go.RowKit
section
variable {ρ : Rho}
theorem Qo2 {v u : Value} (h : XJ ρ v = some u) : QP ρ v = some u:=by
 cases v <;> first | exact h | (simp [XJ] at h)
theorem QaC {v u : Value} (h : QP ρ v = some u) : Xq ρ v = some u:=by
 cases v <;> first | exact h | (simp [QP,XJ] at h)
theorem Qb0 {v u : Value} (h : Xq ρ v = some u) : den ρ v = some u:=by
 cases v <;> first | exact h | (simp [Xq,QP,XJ] at h)
def Qj3 : Value → Bool
 | .agg _ | .tuple _ | .func _ _ _=>false
 | _=>true
theorem Qqr {v u : Value} (h : Qj3 v = true) (e : den ρ v = some u) : XJ ρ v = some u:=by
 cases v <;> first | exact e | (simp [Qj3] at h)
def lone : Value → Bool
 | .agg _ | .tuple _=>false
 | _=>true
theorem Qom {v u : Value} (h : lone v = true) (e : den ρ v = some u) : QP ρ v = some u:=by
 cases v <;> first | exact e | (simp [lone] at h)
theorem Qfw : ∀ {vs us : List Value},vs.all Qj3 = true → Qt (den ρ) vs = some us → Qt (XJ ρ) vs = some us
 | [],us,_,e=>by cases e;rfl
 | v :: vs,us,h,e=>by
  simp only [List.all_cons,Bool.and_eq_true] at h;simp only [Qt] at e ⊢;split at e
  ·simp_all [Qqr,Qfw]
  ·cases e
def Zw : Value → Bool
 | .tuple _=>false
 | _=>true
theorem QgZ {v u : Value} (h : Zw v = true) (e : den ρ v = some u) : Qt (QP ρ) v.cells.toList = some u.cells.toList:=by
 have one : ∀ {v u : Value},v.cells = #[v] → QP ρ v = some u → u.cells = #[u] → Qt (QP ρ) v.cells.toList = some u.cells.toList:=fun h1 h2 h3=>by
  rw [h1,h3];simp [Qt,h2]
 cases v with
 | tuple vs=>simp [Zw] at h
 | agg cs=>
  simp only [den,Xq] at e;split at e
  ·rename_i l hl;injection e with e
   subst e
   simpa [Value.cells] using hl
  ·cases e
 | _=>
  refine one rfl e ?_;simp only [den,Xq,QP,XJ] at e
  first
   | (injection e with e;subst e;rfl)
   | (repeat' split at e) <;> first | (injection e with e;subst e;rfl) | cases e
end
section
variable {P : Program} {o : Oper} {ρ : Rho} {L : Env} {L' : Qb}
def Qa0 (P : Program) (src dst : TypeId) : Value → Option Value
 | .int k0 n=>match tki P src,tki P dst with
  | some k1,some k=>bif kEq k0 k1 then some (.int k (k.wrap n)) else none
  | _,_=>none
 | .string s=>bif Q8 P src && Q8 P dst then some (.string s) else none
 | _=>none
theorem QsO {src dst : TypeId} {x : Operand} {a v : Value} (ho : o.op = .convert src dst x) (hs : SR ρ L L') (hx : opd L x = some a) (h : Qa0 P src dst a = some v) : ∃ u,OpP P o L' u ∧ den ρ v = some u:=by
 unfold Qa0 at h;split at h
 ·rename_i k0 n;split at h
  ·rename_i k1 k h1 h2;cases hk : kEq k0 k1 with
   | false=>rw [hk] at h;cases h
   | true=>
    rw [hk] at h;injection h with h
    subst h;obtain rfl:=Qbs hk;exact ⟨_,Qg ho (Qi hs hx rfl) h1 h2,rfl⟩
  ·cases h
 ·cases hk : Q8 P src && Q8 P dst with
  | false=>rw [hk] at h;cases h
  | true=>
   rw [hk] at h;injection h with h
   subst h;simp only [Bool.and_eq_true] at hk;exact ⟨_,Qkn ho (Qi hs hx rfl) (X4 hk.1) (X4 hk.2),rfl⟩
 ·cases h
theorem Qmq {x : Operand} {i : Nat} {vs : Array Value} {v : Value} (ho : o.op = .extract x i) (hs : SR ρ L L') (hx : opd L x = some (.tuple vs)) (h : vs.toList[i]? = some v) : ∃ u,OpP P o L' u ∧ den ρ v = some u:=by
 obtain ⟨l,h1,h2⟩:=QmD hs hx;obtain ⟨u,h3,h4⟩:=Qar h1 h
 grind [ZU,QaO,Qb0]
theorem Qj8 {f : FuncId} {first cap : Array Operand} {a b : List Value} (ho : o.op = .makeFunc (.func f) first cap) (hs : SR ρ L L') (h1 : Qcx L first.toList = some a) (h2 : Qcx L cap.toList = some b) (ha : a.all Qj3 = true) (hb : b.all Qj3 = true) :
  ∃ u,OpP P o L' u ∧ den ρ (.func (.func f) a.toArray b.toArray) = some u:=by
 obtain ⟨a',e1,e2⟩:=Qdv hs h1;obtain ⟨b',e3,e4⟩:=Qdv hs h2;refine ⟨.func (.func f) a'.toArray b'.toArray,ZU (by rw [ho];simp only [QaO,e1,e3]),?_⟩
 simp_all [den,Xq,QP,Qb5,Qfw,ha]
theorem QuF {c a b : Operand} {t : Bool} {x y : Value} (ho : o.op = .pick c a b) (hs : SR ρ L L') (hc : opd L c = some (.bool t)) (ha : opd L a = some x) (hb : opd L b = some y) : ∃ u,OpP P o L' u ∧ den ρ (if t then x else y) = some u:=by
 obtain ⟨x',e1,e2⟩:=YJ hs ha;obtain ⟨y',e3,e4⟩:=YJ hs hb;refine ⟨if t then x' else y',ZU (by rw [ho];simp only [QaO,Qi hs hc rfl,e1,e3,QiN]),?_⟩
 grind
theorem QnL {x : Operand} {v : Value} (ho : o.op = .move x ∨ o.op = .assign x) (hs : SR ρ L L') (hx : opd L x = some v) : ∃ u,OpP P o L' u ∧ den ρ v = some u:=by
 obtain ⟨u,h1,h2⟩:=YJ hs hx;refine ⟨u,ZU ?_,h2⟩;rcases ho with ho | ho <;> rw [ho] <;> exact h1
theorem un_R {op : UnOp} {t : TypeId} {x : Operand} {a v : Value} (ho : o.op = .unOp op t x) (hs : SR ρ L L') (hx : opd L x = some a) (h : QdG op a = some v) : ∃ u,OpP P o L' u ∧ den ρ v = some u:=by
 have hf : flat a = true ∧ flat v = true:=by
  unfold QdG at h;split at h <;> first | (injection h with h;subst h;exact ⟨rfl,rfl⟩) | cases h
 grind [ZU,QaO,Qi,Qal]
theorem Qkc {x : Operand} {n i : Nat} (ho : o.op = .nilCheck x) (hs : SR ρ L L') (hx : opd L x = some (.pointer (some ⟨n,i,none⟩))) : ∃ u,OpP P o L' u ∧ den ρ (.pointer (some ⟨n,i,none⟩)) = some u:=by
 obtain ⟨b,d,h1,h2⟩:=Qc3 hs hx
 grind [ZU,QaO,den,Xq,QP,XJ]
theorem QhV {x : Operand} {f : FuncId} {a b : Array Value} (ho : o.op = .nilCheck x) (hs : SR ρ L L') (hx : opd L x = some (.func (.func f) a b)) : ∃ u,OpP P o L' u ∧ den ρ (.func (.func f) a b) = some u:=by
 obtain ⟨u,h1,h2⟩:=YJ hs hx
 grind [den,Xq,QP,Qb5,ZU,QaO]
theorem QqD {st f off ft n : Nat} {x : Operand} {cs : Array Value} {v : Value} {ag : Bool} (ho : o.op = .field st x f) (hs : SR ρ L L') (hx : opd L x = some (.agg cs)) (hf : tfd P st f = some (off,ft)) (hz : tsz P ft = some (n,ag))
  (h : (if ag then some (.agg (cut cs.toList off n).toArray) else cs.toList[off]?) = some v) : ∃ u,OpP P o L' u ∧ den ρ v = some u:=by
 obtain ⟨l,h1,h2⟩:=QbU hs hx;cases ag with
 | true=>
  simp only [if_true,Option.some.injEq] at h;subst h;refine ⟨_,Qpu ho h2 hf hz,?_⟩
  grind [den,Xq,cut,XG,Ys]
 | false=>
  have h' : cs.toList[off]? = some v:=by simpa using h
  obtain ⟨u,e1,e2⟩:=Qar h1 h'
  grind [Qfn,Qb0,QaC]
theorem QrJ {t e sz len n : Nat} {x y : Operand} {cs : Array Value} {j : Nat} {v : Value} {ag : Bool} (ho : o.op = .index t x y) (hs : SR ρ L L') (hx : opd L x = some (.agg cs)) (hy : vN (opd L y) = some j) (ht : tar P t = some (len,e,sz)) (hz : tsz P e = some (n,ag)) (hlt : j < len)
  (h : (if ag then some (.agg (cut cs.toList (j * sz) n).toArray) else cs.toList[j * sz]?) = some v) : ∃ u,OpP P o L' u ∧ den ρ v = some u:=by
 obtain ⟨l,h1,h2⟩:=QbU hs hx;obtain ⟨k,hk⟩:=YK hy;have hy':=Qi hs hk rfl;cases ag with
 | true=>
  simp only [if_true,Option.some.injEq] at h;subst h;refine ⟨_,QeR ho h2 hy' ht hz j rfl hlt,?_⟩
  grind [den,Xq,cut,XG,Ys]
 | false=>
  have h' : cs.toList[j * sz]? = some v:=by simpa using h
  obtain ⟨u,e1,e2⟩:=Qar h1 h'
  grind [Qo4,Qb0,QaC]
theorem QnR {t : TypeId} {x y : Operand} {l : List UInt8} {j : Nat} (ho : o.op = .index t x y) (hs : SR ρ L L') (hx : opd L x = some (.string ⟨⟨l⟩⟩)) (hy : vN (opd L y) = some j) (h : Q8 P t = true) (hlt : j < l.length) : ∃ u,OpP P o L' u ∧ den ρ (.int .u8 ((l.getD j 0).toNat : Int)) = some u:=by
 obtain ⟨k,hk⟩:=YK hy;exact ⟨_,Q0 ho (Qi hs hx rfl) (Qi hs hk rfl) (X4 h) j rfl hlt,rfl⟩
def loN (L : Env) : Option Operand → Option Nat
 | none=>some 0
 | some y=>vN (opd L y)
def hiN (L : Env) (n : Nat) : Option Operand → Option Nat
 | none=>some n
 | some y=>vN (opd L y)
theorem QdO {lo : Option Operand} {a : Nat} (hs : SR ρ L L') (h : loN L lo = some a) : QpV L' lo a:=by
 cases lo with
 | none=>injection h with h;exact h.symm
 | some y=>
  obtain ⟨k,hk⟩:=YK h;exact ⟨k,_,Qi hs hk rfl,rfl⟩
theorem Qiw {hi : Option Operand} {n b : Nat} (hs : SR ρ L L') (h : hiN L n hi = some b) : QrL L' hi n b:=by
 cases hi with
 | none=>injection h with h;exact h.symm
 | some y=>
  obtain ⟨k,hk⟩:=YK h;exact ⟨k,_,Qi hs hk rfl,rfl⟩
theorem QpW {t : TypeId} {x : Operand} {l : List UInt8} {lo hi : Option Operand} {a b : Nat} (ho : o.op = .slice t x lo hi none) (hs : SR ρ L L') (hx : opd L x = some (.string ⟨⟨l⟩⟩)) (h : Q8 P t = true) (hlo : loN L lo = some a) (hhi : hiN L l.length hi = some b) (hab : a ≤ b) (hbl : b ≤ l.length) :
  ∃ u,OpP P o L' u ∧ den ρ (.string (bs ((l.take b).drop a))) = some u:=
 ⟨_,QZ lo hi a b ho (Qi hs hx rfl) (X4 h) (QdO hs hlo) (Qiw hs hhi) hab hbl,rfl⟩
theorem Qhp {b o cap i sz : Nat} (h : i < cap) : Xy (some ⟨b,o,none⟩) cap i sz = some ⟨b,o + i * sz,none⟩:=by
 unfold Xy;rw [if_neg (by omega)];simp only [Option.map_some,Addr.add]
 grind
theorem Qtr {b o cap sz : Nat} : Xy (some ⟨b,o,none⟩) cap 0 sz = some ⟨b,o,none⟩:=by
 unfold Xy;split
 ·rfl
 ·simp [Addr.add]
theorem QrD {t e sz by' n of l c : Nat} {x : Operand} {lo hi : Option Operand} {i j : Nat} (ho : o.op = .slice t x lo hi none) (hs : SR ρ L L') (hx : opd L x = some (.slice (some ⟨n,of,none⟩) l c)) (ht : tsl P t = some (e,sz,by')) (hlo : loN L lo = some i) (hhi : hiN L l hi = some j) (hij : i ≤ j) (hj : j ≤ c) (h : i = 0 ∨ i < c) :
  ∃ u,OpP P o L' u ∧ den ρ (.slice (some ⟨n,of + i * sz,none⟩) (j - i) (c - i)) = some u:=by
 obtain ⟨b,d,h1,h2⟩:=XP hs hx;have hp:=Qp lo hi i j ho h2 ht (QdO hs hlo) (Qiw hs hhi) hij (by omega);have e : Xy (some ⟨b,of,none⟩) (c + d) i sz = some ⟨b,of + i * sz,none⟩:=by grind [Qtr,Qhp]
 grind [den,Xq,QP,XJ]
theorem Qok {t e sz by' n of l c : Nat} {x : Operand} {lo hi : Option Operand} (ho : o.op = .slice t x lo hi none) (hs : SR ρ L L') (hx : opd L x = some (.slice (some ⟨n,of,none⟩) l c)) (ht : tsl P t = some (e,sz,by')) (hlo : loN L lo = some c) (hhi : hiN L l hi = some c) :
  ∃ u,OpP P o L' u ∧ den ρ (.pointer (some ⟨n,of,some (c * sz)⟩)) = some u:=by
 obtain ⟨b,d,h1,h2⟩:=XP hs hx;have hp:=Qp lo hi c c ho h2 ht (QdO hs hlo) (Qiw hs hhi) (Nat.le_refl _) (by omega)
 grind [Xy,Qhp,den,Xq,QP,XJ]
theorem Qp7 {t e sz by' n of l c q : Nat} {x : Operand} {lo hi : Option Operand} {i j : Nat} (ho : o.op = .slice t x lo hi none) (hs : SR ρ L L') (hx : opd L x = some (.slice (some ⟨n,of,some q⟩) l c)) (ht : tsl P t = some (e,sz,by')) (hlo : loN L lo = some i) (hhi : hiN L l hi = some j) (hij : i ≤ j) (hj : j ≤ c) :
  ∃ u,OpP P o L' u ∧ den ρ (.slice (some ⟨n,(if c = i then of else of + i * sz),some q⟩) (j - i) (c - i)) = some u:=by
 obtain ⟨b,d,h1,h2⟩:=Yj hs hx;have hp:=Qp lo hi i j ho h2 ht (QdO hs hlo) (Qiw hs hhi) hij hj
 grind [Xy,Qhp,den,Xq,QP,XJ]
theorem QoC {t e sz by' l c : Nat} {x : Operand} {lo hi : Option Operand} {i j : Nat} (ho : o.op = .slice t x lo hi none) (hs : SR ρ L L') (hx : opd L x = some (.slice none l c)) (ht : tsl P t = some (e,sz,by')) (hlo : loN L lo = some i) (hhi : hiN L l hi = some j) (hij : i ≤ j) (hj : j ≤ c) :
  ∃ u,OpP P o L' u ∧ den ρ (.slice none (j - i) (c - i)) = some u:=by
 have hp:=Qp lo hi i j ho (Qi hs hx rfl) ht (QdO hs hlo) (Qiw hs hhi) hij hj;have e : Xy none c i sz = none:=by unfold Xy;split <;> rfl
 rw [e] at hp;exact ⟨_,hp,rfl⟩
theorem QeT {t e sz by' : Nat} {x hi mx : Operand} {a : Option Addr} {n cap : Nat} (lo : Option Operand) {L : Qb} {k2 k3 : IntKind} (i j m : Nat) (ho : o.op = .slice t x lo (some hi) (some mx)) (hx : ev L x = some (.slice a n cap)) (hl : QpV L lo i) (hh : ev L hi = some (.int k2 (j : Int))) (hm : ev L mx = some (.int k3 (m : Int))) (ht : tsl P t = some (e,sz,by')) (hij : i ≤ j) (hjm : j ≤ m) (hmc : m ≤ cap) :
  OpP P o L (.slice (Xy a m i sz) (j - i) (m - i)):=by
 cases lo with
 | some lo=>
  obtain ⟨k1,i1,h1,h2⟩:=hl
  grind [Qnw]
 | none=>
  have hi0 : i = 0:=hl;subst hi0;intro ρ w hρ;obtain ⟨hu,inf,h1,h2,_⟩:=QW ht;simp [execOp,ho,hρ _ _ hx,hρ _ _ hh,hρ _ _ hm,Instr.sliceAt,Instr.slice,Instr.sliceBounds,Instr.sliceBound,asIntOf,run_underlying hu,hjm,hmc,Go.sizeOf,typeInfo,h1,h2,Xy]
theorem QnE {b of m i sz : Nat} : Xy (some ⟨b,of,none⟩) m i sz = some ⟨b,(if m = i then of else of + i * sz),none⟩:=by
 by_cases h : m = i
 ·grind [Xy]
 ·rw [if_neg h];unfold Xy;rw [if_neg h];simp only [Option.map_some,Addr.add]
  grind
theorem QnC {t e sz by' n of l c : Nat} {q : Option Nat} {x hi mx : Operand} {lo : Option Operand} {i j m : Nat} (ho : o.op = .slice t x lo (some hi) (some mx)) (hs : SR ρ L L') (hx : opd L x = some (.slice (some ⟨n,of,q⟩) l c)) (ht : tsl P t = some (e,sz,by')) (hlo : loN L lo = some i) (hhi : vN (opd L hi) = some j) (hmx : vN (opd L mx) = some m) (hij : i ≤ j) (hjm : j ≤ m) (hmc : m ≤ c) :
  ∃ u,OpP P o L' u ∧ den ρ (.slice (some ⟨n,(if m = i then of else of + i * sz),some 0⟩) (j - i) (m - i)) = some u:=by
 obtain ⟨k2,hk2⟩:=YK hhi;obtain ⟨k3,hk3⟩:=YK hmx;have g2:=Qi hs hk2 rfl;have g3:=Qi hs hk3 rfl;cases q with
 | none=>
  obtain ⟨b,d,h1,h2⟩:=XP hs hx;have hp:=QeT lo i j m ho h2 (QdO hs hlo) g2 g3 ht hij hjm (by omega)
  grind [QnE,den,Xq,QP,XJ]
 | some q=>
  obtain ⟨b,d,h1,h2⟩:=Yj hs hx;have hp:=QeT lo i j m ho h2 (QdO hs hlo) g2 g3 ht hij hjm hmc
  grind [QnE,den,Xq,QP,XJ]
theorem Qm2 {t e sz by' l c : Nat} {x hi mx : Operand} {lo : Option Operand} {i j m : Nat} (ho : o.op = .slice t x lo (some hi) (some mx)) (hs : SR ρ L L') (hx : opd L x = some (.slice none l c)) (ht : tsl P t = some (e,sz,by')) (hlo : loN L lo = some i) (hhi : vN (opd L hi) = some j) (hmx : vN (opd L mx) = some m) (hij : i ≤ j) (hjm : j ≤ m) (hmc : m ≤ c) :
  ∃ u,OpP P o L' u ∧ den ρ (.slice none (j - i) (m - i)) = some u:=by
 obtain ⟨k2,hk2⟩:=YK hhi;obtain ⟨k3,hk3⟩:=YK hmx;have hp:=QeT lo i j m ho (Qi hs hx rfl) (QdO hs hlo) (Qi hs hk2 rfl) (Qi hs hk3 rfl) ht hij hjm hmc;have e : Xy none m i sz = none:=by unfold Xy;split <;> rfl
 rw [e] at hp;exact ⟨_,hp,rfl⟩
theorem QiI {st f off ft sz : Nat} {x : Operand} {n i : Nat} {ag : Bool} (ho : o.op = .fieldAddr st x f) (hs : SR ρ L L') (hx : opd L x = some (.pointer (some ⟨n,i,none⟩))) (hf : tfd P st f = some (off,ft)) (hz : tsz P ft = some (sz,ag)) (h0 : Nat.blt 0 sz = true) :
  ∃ u,OpP P o L' u ∧ den ρ (.pointer (some ⟨n,i + off,none⟩)) = some u:=by
 obtain ⟨b,d,h1,h2⟩:=Qc3 hs hx;exact ⟨_,ZW ho h2 hf hz h0,by simp only [den,Xq,QP,XJ,h1]⟩
theorem Qij {t e sz by' n of l c j : Nat} {x y : Operand} (ho : o.op = .indexAddr t x y) (hs : SR ρ L L') (hx : opd L x = some (.slice (some ⟨n,of,none⟩) l c)) (hy : vN (opd L y) = some j) (ht : tsl P t = some (e,sz,by')) (hlt : j < l) :
  ∃ u,OpP P o L' u ∧ den ρ (.pointer (some ⟨n,of + j * sz,none⟩)) = some u:=by
 obtain ⟨b,d,h1,h2⟩:=XP hs hx;obtain ⟨k,hk⟩:=YK hy;exact ⟨_,Qc ho h2 (Qi hs hk rfl) ht j rfl hlt rfl,by simp only [den,Xq,QP,XJ,h1]⟩
theorem Qg1 {t e sz by' n of l c j q : Nat} {x y : Operand} (ho : o.op = .indexAddr t x y) (hs : SR ρ L L') (hx : opd L x = some (.slice (some ⟨n,of,some q⟩) l c)) (hy : vN (opd L y) = some j) (ht : tsl P t = some (e,sz,by')) (hlt : j < l) :
  ∃ u,OpP P o L' u ∧ den ρ (.pointer (some ⟨n,of + j * sz,none⟩)) = some u:=by
 obtain ⟨b,d,h1,h2⟩:=Yj hs hx;obtain ⟨k,hk⟩:=YK hy;exact ⟨_,Qc ho h2 (Qi hs hk rfl) ht j rfl hlt rfl,by simp only [den,Xq,QP,XJ,h1]⟩
theorem QhQ {t e sz len n i j : Nat} {x y : Operand} (ho : o.op = .indexAddr t x y) (hs : SR ρ L L') (hx : opd L x = some (.pointer (some ⟨n,i,none⟩))) (hy : vN (opd L y) = some j) (ht : tar P t = some (len,e,sz)) (hlt : j < len) :
  ∃ u,OpP P o L' u ∧ den ρ (.pointer (some ⟨n,i + j * sz,none⟩)) = some u:=by
 obtain ⟨b,d,h1,h2⟩:=Qc3 hs hx;obtain ⟨k,hk⟩:=YK hy;exact ⟨_,Qd7 ho h2 (Qi hs hk rfl) ht j rfl hlt,by simp only [den,Xq,QP,XJ,h1]⟩
def QcN (L : Env) : List (Nat × Operand) → Option (List (Nat × Value))
 | []=>some []
 | (i,x) :: r=>match opd L x,QcN L r with
  | some v,some vs=>bif Zw v then some ((i,v) :: vs) else none
  | _,_=>none
def PR (ρ : Rho) : List (Nat × Value) → List (Nat × Value) → Prop
 | [],[]=>True
 | (i,v) :: l,(j,u) :: m=>i = j ∧ Zw v = true ∧ den ρ v = some u ∧ PR ρ l m
 | _,_=>False
theorem Qej (hs : SR ρ L L') : ∀ {l : List (Nat × Operand)} {vs : List (Nat × Value)},QcN L l = some vs → ∃ us,Z3 L' l = some us ∧ PR ρ vs us
 | [],vs,h=>by cases h;exact ⟨[],rfl,trivial⟩
 | (i,x) :: r,vs,h=>by
  simp only [QcN] at h;split at h
  ·rename_i v vs' h1 h2;cases hn : Zw v with
   | false=>rw [hn] at h;cases h
   | true=>
    rw [hn] at h;injection h with h
    subst h;obtain ⟨u,e1,e2⟩:=YJ hs h1;obtain ⟨us,e3,e4⟩:=Qej hs h2;exact ⟨(i,u) :: us,by simp only [Z3,e1,e3],rfl,hn,e2,e4⟩
  ·cases h
theorem XX : ∀ {vs us cs ds : List Value} (i : Nat),Qt (QP ρ) cs = some ds → Qt (QP ρ) vs = some us → Qt (QP ρ) (Qe cs i vs) = some (Qe ds i us)
 | [],us,cs,ds,i,h,e=>by cases e;exact h
 | v :: vs,us,cs,ds,i,h,e=>by
  simp only [Qt] at e;split at e
  ·rename_i b m h1 h2;injection e with e
   subst e;exact XX (i + 1) (QiC i h h1) h2
  ·cases e
theorem Qec {pl : Nat → Option (Nat × Nat)} : ∀ {vs us : List (Nat × Value)} {cs ds rs : List Value},PR ρ vs us → Qt (QP ρ) cs = some ds → Y8 pl cs vs = some rs → ∃ ts,Y8 pl ds us = some ts ∧ Qt (QP ρ) rs = some ts
 | [],[],cs,ds,rs,_,h,e=>by cases e;exact ⟨ds,rfl,h⟩
 | (i,v) :: vs,(j,u) :: us,cs,ds,rs,hp,h,e=>by
  obtain ⟨rfl,h1,h2,h3⟩:=hp;have hc:=QgZ h1 h2;have hl:=Q6 hc;have hl2:=Q6 h;simp only [Y8] at e ⊢;split at e
  ·cases e
  ·rename_i off size hpl;cases hb : Nat.beq v.cells.toList.length size && Nat.ble (off + v.cells.toList.length) cs.length with
   | false=>rw [hb] at e;cases e
   | true=>
    rw [hb] at e;simp only [hl,hl2,hb];exact Qec h3 (XX off h hc) e
 | [],_ :: _,_,_,_,hp,_,_=>hp.elim
 | _ :: _,[],_,_,_,hp,_,_=>hp.elim
def Xe (l : List Value) : Bool:=l.all flat
theorem XO : ∀ {l : List Value},Xe l = true → Qt (QP ρ) l = some l
 | [],_=>rfl
 | v :: l,h=>by
  simp only [Xe,List.all_cons,Bool.and_eq_true] at h
  have hv : QP ρ v = some v:=by
   have:=Qal h.1 ρ
   have hl : lone v = true:=by
    have h1:=h.1;unfold flat at h1
    grind [lone]
   exact Qom hl this
  simp only [Qt,hv,XO (l:=l) h.2]
theorem QqM {t : TypeId} {parts : Array (Nat × Operand)} {vs : List (Nat × Value)} {pl : List (Nat × Nat)} {z cs : List Value} (ho : o.op = .build t parts) (hs : SR ρ L L') (hp : QcN L parts.toList = some vs) (hpl : Y3 P t = some pl) (hz : QL P t = some z) (hf : Xe z = true)
  (hc : Y8 (fun i=>pl[i]?) z vs = some cs) : ∃ u,OpP P o L' u ∧ den ρ (.agg cs.toArray) = some u:=by
 obtain ⟨us,e1,e2⟩:=Qej hs hp;obtain ⟨ts,e3,e4⟩:=Qec e2 (XO hf) hc;exact ⟨_,Q7 ho e1 hpl hz e3,by simp only [den,Xq,List.toList_toArray,e4]⟩
theorem Qqq {t e sz len : Nat} {parts : Array (Nat × Operand)} {vs : List (Nat × Value)} {z cs : List Value} (ho : o.op = .build t parts) (hs : SR ρ L L') (hp : QcN L parts.toList = some vs) (ht : tar P t = some (len,e,sz)) (hz : QL P t = some z) (hf : Xe z = true)
  (hc : Y8 (fun i=>some (i * sz,sz)) z vs = some cs) : ∃ u,OpP P o L' u ∧ den ρ (.agg cs.toArray) = some u:=by
 obtain ⟨us,e1,e2⟩:=Qej hs hp;obtain ⟨ts,e3,e4⟩:=Qec e2 (XO hf) hc;exact ⟨_,QdU ho e1 ht hz e3,by simp only [den,Xq,List.toList_toArray,e4]⟩
end
end Ev
namespace Ev
inductive Tr (α : Type) where
 | lf
 | nd (l r : Tr α)
 | vd (l : Tr α) (k : Nat) (v : α) (r : Tr α)
noncomputable def QoA (f : Nat) : Nat → List Bool:=
 Nat.rec (fun _=>[]) (fun _ ih k=>Bool.rec (Nat.beq (Nat.mod k 2) 0 :: ih (Nat.div (Nat.sub k 1) 2)) [] (Nat.beq k 0)) f
noncomputable def pth (k : Nat) : List Bool:=QoA k k
def QtY : List Bool → Nat
 | []=>0
 | b :: p=>2 * QtY p + (if b then 2 else 1)
theorem QgA : ∀ (f k : Nat),k ≤ f → QtY (QoA f k) = k
 | 0,k,h=>by
  have : k = 0:=by omega
  subst this;rfl
 | f + 1,k,h=>by
  have hu : QoA (f + 1) k = (Bool.rec (Nat.beq (Nat.mod k 2) 0 :: QoA f (Nat.div (Nat.sub k 1) 2)) [] (Nat.beq k 0) : List Bool):=rfl;rw [hu];cases hk : Nat.beq k 0 with
  | true=>exact (Nat.eq_of_beq_eq_true hk).symm
  | false=>
   have h0 : k ≠ 0:=fun e=>by subst e;cases hk
   have ih:=QgA f ((k - 1) / 2) (by omega);show 2 * QtY (QoA f ((k - 1) / 2)) + (if Nat.beq (k % 2) 0 = true then 2 else 1) = k;rw [ih];cases hm : Nat.beq (k % 2) 0 with
   | true=>
    have:=Nat.eq_of_beq_eq_true hm;simp;omega
   | false=>
    have : k % 2 ≠ 0:=fun e=>by rw [e] at hm;cases hm
    simp;omega
theorem Qk4 {a b : Nat} (h : pth a = pth b) : a = b:=by grind [QgA,pth]
section
variable {α : Type}
noncomputable def Yx (p : List Bool) : Nat → Tr α → Option α:=
 List.rec (fun t T=>Tr.rec none (fun _ _ _ _=>none) (fun _ k v _ _ _=>Bool.rec none (some v) (Nat.beq k t)) T)
  (fun b _ ih t T=>Tr.rec none (fun l r _ _=>Bool.rec (ih t l) (ih t r) b) (fun l _ _ r _ _=>Bool.rec (ih t l) (ih t r) b) T) p
noncomputable def Yc (p : List Bool) : Nat → α → Tr α → Tr α:=
 List.rec (fun t v T=>Tr.rec (.vd .lf t v .lf) (fun l r _ _=>.vd l t v r) (fun l _ _ r _ _=>.vd l t v r) T)
  (fun b _ ih t v T=>Tr.rec (Bool.rec (.nd (ih t v .lf) .lf) (.nd .lf (ih t v .lf)) b) (fun l r _ _=>Bool.rec (.nd (ih t v l) r) (.nd l (ih t v r)) b) (fun l k x r _ _=>Bool.rec (.vd (ih t v l) k x r) (.vd l k x (ih t v r)) b) T) p
noncomputable def QcU (p : List Bool) : Tr α → Tr α:=
 List.rec (fun T=>Tr.rec .lf (fun l r _ _=>.nd l r) (fun l _ _ r _ _=>.nd l r) T)
  (fun b _ ih T=>Tr.rec .lf (fun l r _ _=>Bool.rec (.nd (ih l) r) (.nd l (ih r)) b) (fun l k x r _ _=>Bool.rec (.vd (ih l) k x r) (.vd l k x (ih r)) b) T) p
theorem YI {p : List Bool} {t : Nat} : Yx p t (.lf : Tr α) = none:=by cases p <;> rfl
theorem Y2 (d : Nat) (v : α) : ∀ (p : List Bool) (T : Tr α),Yx p d (Yc p d v T) = some v
 | [],T=>by
  have h : ∀ l r : Tr α,Yx [] d (.vd l d v r) = some v:=fun l r=>by
   show (Bool.rec none (some v) (Nat.beq d d) : Option α) = some v;rw [Nat.beq_refl]
  cases T <;> exact h _ _
 | b :: p,T=>by
  cases T <;> cases b <;> exact Y2 d v p _
theorem YL {t d : Nat} {v x : α} (hne : t ≠ d) : ∀ (p q : List Bool) (T : Tr α),Yx p t (Yc q d v T) = some x → Yx p t T = some x
 | [],[],T,h=>by
  have hd : ∀ l r : Tr α,Yx [] t (.vd l d v r) = none:=fun l r=>by
   show (Bool.rec none (some v) (Nat.beq d t) : Option α) = none;cases hb : Nat.beq d t with
   | true=>exact absurd (Nat.eq_of_beq_eq_true hb).symm hne
   | false=>rfl
  cases T <;> exact absurd ((hd _ _).symm.trans h) (by simp)
 | [],c :: q,T,h=>by cases T <;> cases c <;> first | exact h | cases h
 | b :: p,[],T,h=>by
  cases T <;> cases b <;> first
   | exact h
   | (have h' : Yx p t (.lf : Tr α) = some x:=h;rw [YI] at h';cases h')
 | b :: p,c :: q,T,h=>by
  cases T <;> cases b <;> cases c <;> first
   | exact h
   | (have h' : Yx p t (Yc q d v .lf) = some x:=h;have h2:=YL hne p q .lf h';rw [YI] at h2;cases h2)
   | exact YL hne p q _ h
   | (have h' : Yx p t (.lf : Tr α) = some x:=h;rw [YI] at h';cases h')
theorem Qca {t d : Nat} {v : α} (hne : t ≠ d) : ∀ (p q : List Bool) (T : Tr α),p ≠ q → Yx p t (Yc q d v T) = Yx p t T
 | [],[],T,h=>absurd rfl h
 | [],c :: q,T,h=>by cases T <;> cases c <;> rfl
 | b :: p,[],T,h=>by
  have hl : Yx p t (.lf : Tr α) = none:=YI;cases T <;> cases b <;> first | rfl | exact hl
 | b :: p,c :: q,T,h=>by
  have hl : Yx p t (.lf : Tr α) = none:=YI;have ih:=fun T=>Qca (v:=v) hne p q T
  cases T <;> cases b <;> cases c <;> first
   | rfl
   | exact hl
   | exact (ih _ fun e=>h (by rw [e]))
   | exact ((ih .lf fun e=>h (by rw [e])).trans hl)
theorem Qaa (d : Nat) : ∀ (p : List Bool) (T : Tr α),Yx p d (QcU p T) = none
 | [],T=>by cases T <;> rfl
 | b :: p,T=>by cases T <;> cases b <;> first | rfl | exact Qaa d p _
theorem Qfe {t : Nat} {x : α} : ∀ (p q : List Bool) (T : Tr α),Yx p t (QcU q T) = some x → Yx p t T = some x
 | [],[],T,h=>by cases T <;> first | exact h | cases h
 | [],c :: q,T,h=>by cases T <;> cases c <;> first | exact h | cases h
 | b :: p,[],T,h=>by cases T <;> cases b <;> first | exact h | cases h
 | b :: p,c :: q,T,h=>by
  cases T <;> cases b <;> cases c <;> first
   | exact h
   | exact Qfe p q _ h
   | cases h
theorem QbZ {t : Nat} : ∀ (p q : List Bool) (T : Tr α),p ≠ q → Yx p t (QcU q T) = Yx p t T
 | [],[],T,h=>absurd rfl h
 | [],c :: q,T,h=>by cases T <;> cases c <;> rfl
 | b :: p,[],T,h=>by cases T <;> cases b <;> rfl
 | b :: p,c :: q,T,h=>by
  have ih:=fun T=>QbZ (t:=t) p q T
  cases T <;> cases b <;> cases c <;> first
   | rfl
   | exact (ih _ fun e=>h (by rw [e]))
end
end Ev
namespace Ev
open Go Go.RowKit
structure HB where
 ty : Nat
 sz : Nat
 cs : List Value
inductive HX where
 | row (r : HB)
 | mp (ks : List Int)
abbrev Hp:=Tr HX
noncomputable def Yd (H : Hp) (n : Nat) : Option HX:=Yx (pth n) n H
noncomputable def Yy (H : Hp) (n : Nat) (y : HX) : Hp:=Yc (pth n) n y H
noncomputable def Yl (H : Hp) (n : Nat) : Option HB:=match Yd H n with
 | some (.row r)=>some r
 | _=>none
noncomputable def Qe6 (H : Hp) (n : Nat) : Option (List Int):=match Yd H n with
 | some (.mp r)=>some r
 | _=>none
noncomputable def XZ (H : Hp) (n : Nat) (y : HB) : Hp:=Yy H n (.row y)
noncomputable def QgU (H : Hp) (n : Nat) : Hp:=QcU (pth n) H
theorem Qcm {H : Hp} {n : Nat} {r : HB} (h : Yl H n = some r) : Yd H n = some (.row r):=by grind [Yl]
theorem Qqu {H : Hp} {n : Nat} {r : List Int} (h : Qe6 H n = some r) : Yd H n = some (.mp r):=by grind [Qe6]
theorem QfJ {H : Hp} {n m : Nat} {y r : HX} (h : Yd (Yy H n y) m = some r) : (m = n ∧ r = y) ∨ (m ≠ n ∧ Yd H m = some r):=by grind [Yd,Yy,Y2,YL]
theorem QdT {H : Hp} {n m : Nat} {y : HX} (hm : m ≠ n) : Yd (Yy H n y) m = Yd H m:=Qca hm _ _ _ fun e=>hm (Qk4 e)
theorem Qbk {H : Hp} {n m : Nat} (hm : m ≠ n) : Yd (QgU H n) m = Yd H m:=QbZ _ _ _ fun e=>hm (Qk4 e)
theorem Qi7 {H : Hp} {n m : Nat} {r : HX} (h : Yd (QgU H n) m = some r) : m ≠ n ∧ Yd H m = some r:=by grind [Qfe,Yd,QgU,Qaa]
def QbY : List (Nat × HX) → Nat → Option HX
 | [],_=>none
 | (k,x) :: H,n=>bif Nat.beq k n then some x else QbY H n
def Qjg : List (Nat × HX) → Nat → HX → List (Nat × HX)
 | [],_,_=>[]
 | (k,x) :: H,n,y=>bif Nat.beq k n then (k,y) :: H else (k,x) :: Qjg H n y
def Qhb : List (Nat × HX) → Nat → List (Nat × HX)
 | [],_=>[]
 | (k,x) :: H,n=>bif Nat.beq k n then H else (k,x) :: Qhb H n
def room (x : HB) (d : Nat) : Prop:=d = 0 ∨ x.cs.length + d * x.sz ≤ maxLen * x.sz
abbrev Qi2 : Int → Value:=fun n=>.int .i64 n
open Classical in
noncomputable def ha (ρ : Rho) (p : Nat × HX) : Option HA:=match p.2 with
 | .row x=>match ρ p.1,Qt (QP ρ) x.cs with
  | some (b,d),some us=>if room x d then some (.blk b x.ty (us.length + d * x.sz) us) else none
  | _,_=>none
 | .mp ks=>match ρ p.1 with
  | some (b,0)=>some (.mp b Qi2 ks)
  | _=>none
theorem QgV {ρ : Rho} {n : Nat} {x : HB} {A : HA} (h : ha ρ (n,.row x) = some A) : ∃ b d us,ρ n = some (b,d) ∧ Qt (QP ρ) x.cs = some us ∧ room x d ∧ A = .blk b x.ty (us.length + d * x.sz) us:=by grind [ha]
theorem QkU {ρ : Rho} {n : Nat} {x : HB} {b d : Nat} {us : List Value} (h1 : ρ n = some (b,d)) (h2 : Qt (QP ρ) x.cs = some us) (h3 : room x d) : ha ρ (n,.row x) = some (.blk b x.ty (us.length + d * x.sz) us):=by grind [ha]
theorem Qpv {ρ : Rho} {n : Nat} {ks : List Int} {A : HA} (h : ha ρ (n,.mp ks) = some A) : ∃ b,ρ n = some (b,0) ∧ A = .mp b Qi2 ks:=by grind [ha]
theorem QnG {ρ : Rho} {p : Nat × HX} {A : HA} (h : ha ρ p = some A) : ∃ x,ρ p.1 = some x:=by
 obtain ⟨n,x⟩:=p;cases x <;> grind [QgV,ks,Qpv]
theorem Qdd {ρ ρ' : Rho} (h : ρ.le ρ') (p : Nat × HX) (A : HA) (e : ha ρ p = some A) : ha ρ' p = some A:=by
 obtain ⟨n,x⟩:=p;cases x with
 | row x=>
  obtain ⟨b,d,us,h1,h2,h3,rfl⟩:=QgV e;exact QkU (h.1 _ _ h1) (Xi (Qdr h) h2) h3
 | mp ks=>
  obtain ⟨b,h1,rfl⟩:=Qpv e;simp only [ha,h.1 _ _ h1]
theorem QdH {k m : Nat} (h : m ≠ k) : Nat.beq k m = false:=by cases hz : Nat.beq k m <;> simp_all
theorem Qhg {ρ : Rho} {n : Nat} {x : HX} : ∀ {H : List (Nat × HX)} {As : List HA},Qt (ha ρ) H = some As → QbY H n = some x → ∃ A Rs,ha ρ (n,x) = some A ∧ QD As A Rs ∧
  (∀ (x' : HX) (A' : HA),ha ρ (n,x') = some A' → ∃ As2,Qt (ha ρ) (Qjg H n x') = some As2 ∧ (A' :: Rs).Perm As2 ∧ ∀ m,QbY (Qjg H n x') m = bif Nat.beq m n then some x' else QbY H m) ∧
  ∃ As3,Qt (ha ρ) (Qhb H n) = some As3 ∧ Rs.Perm As3 ∧ ∀ m,m ≠ n → QbY (Qhb H n) m = QbY H m
 | [],As,_,h=>by cases h
 | (k,y) :: H,As,e,h=>by
  simp only [Qt] at e;split at e
  ·rename_i A As' h1 h2;injection e with e
   subst e;simp only [QbY] at h;cases hb : Nat.beq k n with
   | true=>
    rw [hb] at h;injection h with h
    subst h;have hk:=Nat.eq_of_beq_eq_true hb;subst hk;refine ⟨A,As',h1,.here,fun x' A' e1=>⟨_,?_,.refl _,fun m=>?_⟩,As',?_,.refl _,fun m hm=>?_⟩
    ·grind [Qjg,Qt]
    ·grind [Qjg,QbY,QdH]
    ·grind [Qhb]
    grind [Qhb,QbY,QdH]
   | false=>
    rw [hb] at h;obtain ⟨A0,Rs,g1,g4,g5,As3,g6,g7,g8⟩:=Qhg h2 h;refine ⟨A0,A :: Rs,g1,g4.there,fun x' A' e1=>?_,A :: As3,?_,g7.cons _,fun m hm=>?_⟩
    ·obtain ⟨As2,e3,e4,e5⟩:=g5 x' A' e1;refine ⟨A :: As2,by simp only [Qjg,hb,cond_false,Qt,h1,e3],(List.Perm.swap ..).trans (e4.cons _),fun m=>?_⟩;simp only [Qjg,hb,cond_false,QbY,e5];cases hq : Nat.beq k m <;> simp_all
    ·grind [Qhb,Qt]
    grind [Qhb,QbY]
  ·cases e
def HM (ρ : Rho) (H : Hp) (As : List HA) : Prop:=∃ (G : List (Nat × HX)) (Bs : List HA),(∀ m r,Yd H m = some r → QbY G m = some r) ∧ Qt (ha ρ) G = some Bs ∧ As = Bs ++ ρ.ex
theorem HM.mono {ρ ρ' : Rho} (h : ρ.le ρ') {H : Hp} {As : List HA} : HM ρ H As → HM ρ' H As:=fun ⟨G,Bs,h1,h2,h3⟩=>⟨G,Bs,h1,Xi (Qdd h) h2,by rw [h.2];exact h3⟩
theorem HM.push {ρ : Rho} {H : Hp} {As : List HA} {n : Nat} {x : HX} {A : HA} (h : HM ρ H As) (hA : ha ρ (n,x) = some A) : HM ρ (Yy H n x) (A :: As):=by
 obtain ⟨G,Bs,h1,h2,h3⟩:=h;refine ⟨(n,x) :: G,A :: Bs,fun m r hm=>?_,by simp only [Qt,hA,h2],by rw [h3];rfl⟩;simp only [QbY];rcases QfJ hm with ⟨rfl,rfl⟩ | ⟨h3,h4⟩
 ·simp [Nat.beq_refl]
 grind [QdH]
theorem QtS {ρ : Rho} {n : Nat} {x : HX} {H : Hp} {As : List HA} (hH : HM ρ H As) (h : Yd H n = some x) : ∃ A Rs,ha ρ (n,x) = some A ∧ QD As A Rs ∧
  (∀ (x' : HX) (A' : HA),ha ρ (n,x') = some A' → ∃ As2,HM ρ (Yy H n x') As2 ∧ (A' :: Rs).Perm As2) ∧
  ∃ As3,HM ρ (QgU H n) As3 ∧ Rs.Perm As3:=by
 obtain ⟨G,Bs,h1,h2,rfl⟩:=hH;obtain ⟨A,Rs,g1,g4,g5,As3,g6,g7,g8⟩:=Qhg h2 (h1 _ _ h);refine ⟨A,Rs ++ ρ.ex,g1,g4.append_right _,fun x' A' e1=>?_,As3 ++ ρ.ex,⟨Qhb G n,As3,fun m r hm=>?_,g6,rfl⟩,g7.append_right _⟩
 ·obtain ⟨As2,e3,e4,e5⟩:=g5 x' A' e1;refine ⟨As2 ++ ρ.ex,⟨Qjg G n x',As2,fun m r hm=>?_,e3,rfl⟩,e4.append_right _⟩;rw [e5];rcases QfJ hm with ⟨rfl,rfl⟩ | ⟨h3,h4⟩
  ·simp [Nat.beq_refl]
  ·rw [QdH (Ne.symm h3)];exact h1 m r h4
 ·obtain ⟨h3,h4⟩:=Qi7 hm;rw [g8 m h3];exact h1 m r h4
theorem XY {ρ : Rho} {n : Nat} {x : HB} {H : Hp} {As : List HA} (hH : HM ρ H As) (h : Yl H n = some x) : ∃ b d us Rs,ρ n = some (b,d) ∧ Qt (QP ρ) x.cs = some us ∧ room x d ∧ QD As (.blk b x.ty (us.length + d * x.sz) us) Rs ∧
  (∀ (x' : HB) (us' : List Value),Qt (QP ρ) x'.cs = some us' → room x' d → ∃ As2,HM ρ (XZ H n x') As2 ∧ (HA.blk b x'.ty (us'.length + d * x'.sz) us' :: Rs).Perm As2) ∧
  ∃ As3,HM ρ (QgU H n) As3 ∧ Rs.Perm As3:=by
 obtain ⟨A,Rs,g1,g4,g5,g6⟩:=QtS hH (Qcm h);obtain ⟨b,d,us,e1,e2,e3,rfl⟩:=QgV g1;exact ⟨b,d,us,Rs,e1,e2,e3,g4,fun x' us' f1 f2=>g5 (.row x') _ (QkU e1 f1 f2),g6⟩
theorem Qql {ρ : Rho} {n : Nat} {ks : List Int} {H : Hp} {As : List HA} (hH : HM ρ H As) (h : Qe6 H n = some ks) : ∃ b Rs,ρ n = some (b,0) ∧ QD As (.mp b Qi2 ks) Rs ∧
  ∀ ks',∃ As2,HM ρ (Yy H n (.mp ks')) As2 ∧ (HA.mp b Qi2 ks' :: Rs).Perm As2:=by
 obtain ⟨A,Rs,g1,g4,g5,g6⟩:=QtS hH (Qqu h);obtain ⟨b,e1,rfl⟩:=Qpv g1;exact ⟨b,Rs,e1,g4,fun ks'=>g5 (.mp ks') _ (by simp only [ha,e1])⟩
def QN (ρ : Rho) (n : Nat) : Prop:=∀ k,n ≤ k → ρ k = none
def ext (ρ : Rho) (n : Nat) (x : Nat × Nat) : Rho:=⟨fun k=>bif Nat.beq k n then some x else ρ k,ρ.ex⟩
theorem QaS (ρ : Rho) (n : Nat) (x : Nat × Nat) : ext ρ n x n = some x:=by simp [ext,Nat.beq_refl]
theorem Qfb {ρ : Rho} {n : Nat} (h : QN ρ n) (x : Nat × Nat) : ρ.le (ext ρ n x):=⟨fun k y hk=>by
 unfold ext;simp only [];cases hb : Nat.beq k n with
 | true=>
  have:=Nat.eq_of_beq_eq_true hb;subst this;rw [h k (Nat.le_refl _)] at hk;cases hk
 | false=>exact hk,rfl⟩
theorem Qak {ρ : Rho} {n : Nat} (h : QN ρ n) (x : Nat × Nat) : QN (ext ρ n x) (n + 1):=fun k hk=>by
 show (bif Nat.beq k n then some x else ρ k) = none;cases hb : Nat.beq k n with
 | true=>
  have:=Nat.eq_of_beq_eq_true hb;omega
 | false=>exact h k (by omega)
def Out (w0 : World) (ρ : Rho) (v : Value) (H' : Hp) (n' : Nat) (u : Value) (C : World → Prop) : Prop:=
 ∃ ρ' As',ρ.le ρ' ∧ QN ρ' n' ∧ den ρ' v = some u ∧ HM ρ' H' As' ∧ ∀ w,C w → HS w0 [] As' w
def OpT (P : Program) (o : Oper) (L' : Qb) (C : World → Prop) (K : Value → (World → Prop) → Prop) : Prop:=
 ∃ (G : Type) (V : G → Value) (F : G → Prop) (C' : G → World → Prop),OpH P o L' C V F C' ∧ ∀ g,F g → K (V g) (C' g)
section
variable {P : Program} {o : Oper} {L' : Qb} {w0 : World} {ρ : Rho} {L : Env} {H : Hp} {n : Nat} {As : List HA}
theorem OpT.of_p {v u : Value} (h : OpP P o L' u) (hd : den ρ v = some u) (hH : HM ρ H As) (hf : QN ρ n) : OpT P o L' (HS w0 [] As) (Out w0 ρ v H n):=
 ⟨Unit,_,_,_,(h.q (HS w0 [] As)).h (HS.stab _ _ _),fun _ _=>⟨ρ,As,ρ.le_refl,hf,hd,hH,fun _ h=>h⟩⟩
theorem OpT.of_q {v u : Value} (h : OpQ P o L' (HS w0 [] As) u) (hd : den ρ v = some u) (hH : HM ρ H As) (hf : QN ρ n) : OpT P o L' (HS w0 [] As) (Out w0 ρ v H n):=
 ⟨Unit,_,_,_,h.h (HS.stab _ _ _),fun _ _=>⟨ρ,As,ρ.le_refl,hf,hd,hH,fun _ h=>h⟩⟩
theorem QaN {b d : Nat} {x : HB} {us : List Value} {v u : Value} {C : World → Prop} (hH : HM ρ H As) (hf : QN ρ n) (hc : Qt (QP ρ) x.cs = some us) (hr : room x d) (hv : den (ext ρ n (b,d)) v = some u) (hC : ∀ w,C w → HS w0 [] (.blk b x.ty (us.length + d * x.sz) us :: As) w) : Out w0 ρ v (XZ H n x) (n + 1) u C:=by
 have hle:=Qfb hf (b,d);refine ⟨ext ρ n (b,d),_,hle,Qak hf _,hv,?_,hC⟩;exact (HM.mono hle hH).push (QkU (QaS ρ n (b,d)) (Xi (Qdr hle) hc) hr)
theorem QuG {t x : Nat} {m i sz : Nat} {ag : Bool} {r : HB} {v : Value} (ho : o.op = .load t (.tmp x)) (hs : SR ρ L L') (hH : HM ρ H As) (hx : L x = some (.pointer (some ⟨m,i,none⟩))) (hg : Yl H m = some r) (hz : tsz P t = some (sz,ag))
  (h : (if ag then (bif Nat.ble (i + sz) r.cs.length then some (.agg (cut r.cs i sz).toArray) else none) else (bif Nat.beq sz 1 then r.cs[i]? else none)) = some v) : ∃ u,OpQ P o L' (HS w0 [] As) u ∧ den ρ v = some u:=by
 obtain ⟨b,d,us,Rs,g1,g2,g3,g4,_,_⟩:=XY hH hg;obtain ⟨u,e1,e2⟩:=hs.get hx;simp only [den,Xq,QP,XJ,g1,Option.some.injEq] at e2;subst e2;cases ag with
 | true=>
  simp only [if_true] at h;cases hb : Nat.ble (i + sz) r.cs.length with
  | false=>rw [hb] at h;cases h
  | true=>
   rw [hb] at h;injection h with h
   subst h;refine ⟨_,Qc7 ho e1 hz g4 (by rw [Q6 g2];exact hb),?_⟩
   grind [den,Xq,cut,XG,Ys]
 | false=>
  cases hb : Nat.beq sz 1 with
  | false=>rw [hb] at h;simp at h
  | true=>
   rw [hb] at h;have hk:=Nat.eq_of_beq_eq_true hb;subst hk;have h' : r.cs[i]? = some v:=by simpa using h
   obtain ⟨u,e3,e4⟩:=Qar g2 h'
   grind [Qci,Qb0,QaC]
theorem Qp8 {v u : Value} (e : XJ ρ v = some u) : u.oneCell' = true:=by
 cases v <;> simp only [XJ] at e <;> first
  | (injection e with e;subst e;rfl)
  | ((repeat' split at e) <;> first | (injection e with e;subst e;rfl) | cases e)
  | cases e
theorem QpG {v u : Value} (e : QP ρ v = some u) : u.oneCell' = true:=by
 cases v with
 | func f a b=>
  simp only [QP] at e;split at e
  ·injection e with e;subst e;rfl
  ·cases e
 | _=>grind [QP,Qp8]
theorem YD {vs us : List Value} (h : Qt (QP ρ) vs = some us) : us.all (·.oneCell') = true:=by
 refine List.all_eq_true.2 fun u hu=>?_;obtain ⟨a,_,e⟩:=QiU h hu;exact QpG e
theorem Qq5 {t x : Nat} {y : Operand} {m i sz : Nat} {ag : Bool} {r : HB} {v : Value} (ho : o.op = .store t (.tmp x) y) (hs : SR ρ L L') (hH : HM ρ H As) (hf : QN ρ n) (hx : L x = some (.pointer (some ⟨m,i,none⟩))) (hy : opd L y = some v) (hn : Zw v = true) (hg : Yl H m = some r) (hz : tsz P t = some (sz,ag))
  (hl : v.cells.toList.length = sz) (hr : i + sz ≤ r.cs.length) : OpT P o L' (HS w0 [] As) (Out w0 ρ undef (XZ H m { r with cs:=Qe r.cs i v.cells.toList }) n):=by
 obtain ⟨b,d,us,Rs,g1,g2,g3,g4,g5,_⟩:=XY hH hg;obtain ⟨p,e1,e2⟩:=hs.get hx;simp only [den,Xq,QP,XJ,g1,Option.some.injEq] at e2;subst e2;obtain ⟨u,e3,e4⟩:=YJ hs hy;have hc:=QgZ hn e4;have hlu:=Q6 hc;have hl2:=Q6 g2;have XZ:=XX i g2 hc;obtain ⟨As2,g6,g7⟩:=g5 { r with cs:=Qe r.cs i v.cells.toList } _ XZ (by unfold room at *;simpa [Qd] using g3);have hS:=X9 (w0:=w0) (M:=[]) (As:=As) (As':=.blk b r.ty (us.length + d * r.sz) (Qe us i u.cells.toList) :: Rs) (tot:=us.length + d * r.sz) ho e1 e3 hz (by rw [hlu];exact hl) ⟨Rs,g4,.refl _⟩ (by rw [hl2];exact hr) (YD hc);refine ⟨_,_,_,_,hS,fun _ _=>⟨ρ,As2,ρ.le_refl,hf,?_,g6,fun w hw=>?_⟩⟩
 ·rfl
 ·have : HS w0 [] (.blk b r.ty ((Qe us i u.cells.toList).length + d * r.sz) (Qe us i u.cells.toList) :: Rs) w:=by rw [Qd];exact hw
  exact this.perm g7
theorem QhK {m b d i : Nat} : den (ext ρ m (b,d)) (.pointer (some ⟨m,i,none⟩)) = some (.pointer (some ⟨b,i,none⟩)):=by simp only [den,Xq,QP,XJ,QaS]
theorem Qfy {m b d i l c : Nat} : den (ext ρ m (b,d)) (.slice (some ⟨m,i,none⟩) l c) = some (.slice (some ⟨b,i,none⟩) l (c + d)):=by simp only [den,Xq,QP,XJ,QaS]
theorem QrY {t : TypeId} {z : List Value} (ho : o.op = .alloc t) (hz : QL P t = some z) (hfl : Xe z = true) (hH : HM ρ H As) (hf : QN ρ n) : OpT P o L' (HS w0 [] As) (Out w0 ρ (.pointer (some ⟨n,0,none⟩)) (XZ H n ⟨t,0,z⟩) (n + 1)):=
 ⟨_,_,_,_,QbP ho hz,fun b _=>QaN (d:=0) hH hf (XO hfl) (.inl rfl) QhK fun w hw=>by rw [Nat.zero_mul,Nat.add_zero];exact hw⟩
theorem Qvl {t : TypeId} {x : Operand} {v : Value} (ho : o.op = .box t x) (hs : SR ρ L L') (hx : opd L x = some v) (hn : Zw v = true) (hH : HM ρ H As) (hf : QN ρ n) : OpT P o L' (HS w0 [] As) (Out w0 ρ (.pointer (some ⟨n,0,none⟩)) (XZ H n ⟨t,0,v.cells.toList⟩) (n + 1)):=by
 obtain ⟨u,e1,e2⟩:=YJ hs hx;exact ⟨_,_,_,_,Qsl ho e1,fun b _=>QaN (d:=0) hH hf (QgZ hn e2) (.inl rfl) QhK fun w hw=>by rw [Nat.zero_mul,Nat.add_zero];exact hw⟩
theorem Qho {t e sz by' len : Nat} {parts : Array (Nat × Operand)} {vs : List (Nat × Value)} {z cs : List Value} (ho : o.op = .buildSlice t len parts) (hs : SR ρ L L') (hp : QcN L parts.toList = some vs) (ht : tsl P t = some (e,sz,by')) (hz : QL P e = some z) (hfl : Xe z = true) (hlen : Nat.ble (len * sz) 16777216 = true) (h0 : Nat.blt 0 (len * sz) = true)
  (hc : Y8 (fun i=>some (i * sz,sz)) ((List.range (len * sz)).map fun i=>z.getD (i % z.length) default) vs = some cs) (hfz : Xe ((List.range (len * sz)).map fun i=>z.getD (i % z.length) default) = true) (hH : HM ρ H As) (hf : QN ρ n) : OpT P o L' (HS w0 [] As) (Out w0 ρ (.slice (some ⟨n,0,none⟩) len len) (XZ H n ⟨e,sz,cs⟩) (n + 1)):=by
 obtain ⟨us,e1,e2⟩:=Qej hs hp;obtain ⟨ts,e3,e4⟩:=Qec e2 (XO hfz) hc;exact ⟨_,_,_,_,Qm ho e1 ht hz hlen h0 e3,fun b _=>QaN (d:=0) hH hf e4 (.inl rfl) (by rw [Qfy];rfl) fun w hw=>by rw [Nat.zero_mul,Nat.add_zero];exact hw⟩
theorem HS.own_some {w : World} {M : List Nat} {As : List HA} {b t sz n cap : Nat} {xs : List Value} (h : HS w0 M (.own (.slice (some ⟨b,0,none⟩) n cap) t sz n xs :: As) w) : HS w0 M (.blk b t (cap * sz) xs :: As) w:=by
 refine h.turn (fun c hc=>by simpa [HA.fp_own,HA.fp_blk,Value.ownBlock] using hc) fun ho=>?_;obtain ⟨hl,⟨e,_⟩ | ⟨g,cap',e,h2,h3,hb⟩⟩:=ho
 ·cases e
 ·injection e with e1 e2 e3
  injection e1 with e1
  injection e1 with e1 _ _
  subst e1 e3;exact hb
theorem QfZ {t e sz by' : Nat} (ho : o.op = .buildSlice t 0 #[]) (ht : tsl P t = some (e,sz,by')) (hH : HM ρ H As) (hf : QN ρ n) : OpT P o L' (HS w0 [] As) (Out w0 ρ (.slice (some ⟨n,0,none⟩) 0 0) (XZ H n ⟨e,sz,[]⟩) (n + 1)):=
 ⟨_,_,_,_,Z9 ho ht,fun b _=>QaN (d:=0) (us:=[]) hH hf rfl (.inl rfl) (by rw [Qfy]) fun w hw=>by have:=HS.own_some hw;simpa using this⟩
theorem h_make2 {t e sz by' k n : Nat} {x y : Operand} {z : List Value} (ho : o.op = .makeSlice t x y) (hx : Gx.ev L' x = some (.int .i64 (k : Int))) (hy : Gx.ev L' y = some (.int .i64 (n : Int))) (ht : tsl P t = some (e,sz,by')) (hz : QL P e = some z) (hlen : n * by' ≤ 281474976710656) (hn : n ≤ 16777216) (hkn : k ≤ n) :
  OpH P o L' (HS w0 [] As) (fun b : Nat=>.slice (some ⟨b,0,none⟩) k n) (fun _=>True) (fun b=>HS w0 [] (.blk b e (n * sz) (Xv z (n * sz)) :: As)):=by
 intro ρ w hρ hw;obtain ⟨hu,inf,h1,h2,h3⟩:=QW ht;have hsz : ∀ w,(Go.sizeOf e).run P w = .ok sz w:=fun w=>by simp [Go.sizeOf,typeInfo,h1,h2]
 have hti : (typeInfo e).run P w = .ok inf w:=by simp [typeInfo,h1]
 obtain ⟨zv,hz',hzr⟩ : ∃ zv : Value,zv.cells.toList = z ∧ ∀ w,(zeroValue e).run P w = .ok zv w:=by
  unfold QL at hz;rw [h1] at hz;simp only [Option.bind_some] at hz;cases hzz : inf.zero with
  | none=>rw [hzz] at hz;cases hz
  | some v=>rw [hzz] at hz;simp only [Option.map_some,Option.some.injEq] at hz;exact ⟨v,hz,fun w=>by simp [zeroValue,typeInfo,h1,hzz]⟩
 have hwr : IntKind.i64.wrap (n : Int) = n:=IntWalk.i64_in _ ⟨by omega,by omega⟩;have hwk : IntKind.i64.wrap (k : Int) = k:=IntWalk.i64_in _ ⟨by omega,by omega⟩;have hz'' : zv.cells = z.toArray:=by rw [← hz']
 have hpr : ((inf.bytes : Nat) : Int) * (n : Int) ≤ 281474976710656:=by grind
 have e2 : (2 : Int) ^ 48 = 281474976710656:=by decide
 have d1 : ¬ ((inf.bytes : Nat) : Int) * (n : Int) > 2 ^ 48:=by rw [e2];omega
 have d1k : ¬ ((inf.bytes : Nat) : Int) * (k : Int) > 2 ^ 48:=by
  have h8 : ((inf.bytes : Nat) : Int) * (k : Int) ≤ ((inf.bytes : Nat) : Int) * (n : Int):=Int.mul_le_mul_of_nonneg_left (by omega) (by omega);rw [e2];omega
 have d2 : ¬ (n : Int) < 0:=by omega
 have d2k : ¬ (k : Int) < 0:=by omega
 have d3 : ¬ (k : Int) > n:=by omega
 have hai : ∀ (q : Nat) w,(asInt (.int .i64 (q : Int))).run P w = .ok (q : Int) w:=fun q w=>by simp [asInt,asIntOf]
 have hb : (Instr.makeSlice t (.int .i64 k) (.int .i64 n)).run P w = .ok (.slice (some ⟨w.heap.size,0,none⟩) k n) (w.alloc (.cells (Xv z (n * sz)).toArray e)):=by
  unfold Instr.makeSlice;simp only [Sem.run_bind,run_underlying hu,Result.andThen_ok,hsz,hai,Sem.run_pure,hti,hwr,hwk,d1,d1k,d2,d2k,d3,decide_false,Bool.or_false,Bool.false_eq_true,if_false,run_askRoom,Int.toNat_natCast]
  by_cases h0 : n * sz = 0
  ·have e1 : ∀ q : Array Value,(Array.map (fun x=>q[x % q.size]!) (Array.range 0)) = #[]:=fun q=>Array.eq_empty_of_size_eq_zero (by simp);have e3 : (Xv z (n * sz)).toArray = #[]:=by rw [h0];rfl
   simp only [h0,if_true,Sem.run_bind,Sem.run_pure,Result.andThen_ok,newRow,run_newObj,World.alloc_eq,e1,e3];simp only [h0] at e3;rw [e3]
  ·simp only [if_neg h0,Sem.run_bind,hzr,Sem.run_pure,Result.andThen_ok,newRow,run_newObj,World.alloc_eq,hz''];congr 2;simp [Xv,← List.toArray_range]
 simp only [execOp,ho,Sem.run_bind,hρ _ _ hx,hρ _ _ hy,hb,Result.andThen_ok,Sem.run_pure];have h4:=hw.blk_new e (Xv z (n * sz)).toArray;refine ⟨w.heap.size,rfl,trivial,?_⟩
 simpa [Qv] using h4
theorem Qic {t e sz by' k c : Nat} {x y : Operand} {z : List Value} (ho : o.op = .makeSlice t x y) (hs : SR ρ L L') (hx : opd L x = some (.int .i64 (k : Int))) (hy : opd L y = some (.int .i64 (c : Int))) (hkc : k ≤ c) (ht : tsl P t = some (e,sz,by')) (hz : QL P e = some z) (hb : c * by' ≤ 281474976710656) (hk : c ≤ 16777216) (hfz : Xe (Xv z (c * sz)) = true) (hH : HM ρ H As) (hf : QN ρ n) :
  OpT P o L' (HS w0 [] As) (Out w0 ρ (.slice (some ⟨n,0,none⟩) k c) (XZ H n ⟨e,sz,Xv z (c * sz)⟩) (n + 1)):=
 ⟨_,_,_,_,h_make2 ho (Qi hs hx rfl) (Qi hs hy rfl) ht hz hb hk hkc,fun b _=>QaN (d:=0) hH hf (XO hfz) (.inl rfl) (by rw [Qfy] <;> rfl) fun w hw=>by rw [Qv,Nat.zero_mul,Nat.add_zero];exact hw⟩
theorem Qq6 {src dst e : TypeId} {x : Operand} {l : List UInt8} (ho : o.op = .convert src dst x) (hs : SR ρ L L') (hx : opd L x = some (.string ⟨⟨l⟩⟩)) (h1 : P.underlying src = some .string) (h2 : P.underlying dst = some (.slice e)) (h3 : P.underlying e = some (.int .u8)) (h5 : e = u8T) (hl : l.length ≤ maxLen) (hH : HM ρ H As) (hf : QN ρ n) :
  OpT P o L' (HS w0 [] As) (Out w0 ρ (.slice (some ⟨n,0,none⟩) l.length l.length) (XZ H n ⟨e,1,l.map fun b=>.int .u8 (b.toNat : Int)⟩) (n + 1)):=by
 have hfl : Xe (l.map fun b=>Value.int .u8 (b.toNat : Int)) = true:=by
  unfold Xe;rw [List.all_map];exact List.all_eq_true.2 fun _ _=>rfl
 refine ⟨_,_,_,_,Z8 ho (Qi hs hx rfl) h1 h2 h3 h5 hl,fun p hp=>QaN (b:=p.1) (d:=p.2 - l.length) hH hf (XO hfl) (.inr ?_) ?_ fun w hw=>?_⟩
 ·grind
 ·grind [Qfy]
 grind
theorem Ql5 {t : TypeId} (ho : o.op = .makeMap t none) (hH : HM ρ H As) (hf : QN ρ n) : OpT P o L' (HS w0 [] As) (Out w0 ρ (.map (some n)) (Yy H n (.mp [])) (n + 1)):=by
 refine ⟨_,_,_,_,Qf7 ho Qi2,fun b _=>?_⟩;have hle:=Qfb hf (b,0);refine ⟨ext ρ n (b,0),_,hle,Qak hf _,?_,(HM.mono hle hH).push (A:=.mp b Qi2 []) (by simp only [ha,QaS]),fun w hw=>hw⟩;simp only [den,Xq,QP,XJ,QaS]
def QhO (a : Int) : List Int → Bool
 | []=>false
 | b :: l=>bif decide (a = b) then true else QhO a l
theorem Qhx (a : Int) : ∀ l,QhO a l = decide (a ∈ l)
 | []=>by simp [QhO]
 | b :: l=>by simp_all [QhO,Qhx]
theorem Qla {x : Operand} {m : Nat} (hs : SR ρ L L') (h : opd L x = some (.map (some m))) : ∃ b d,ρ m = some (b,d) ∧ ev L' x = some (.map (some b)):=by grind [YJ,den,Xq,QP,XJ]
theorem QpU {t kt et r : Nat} {m x : Operand} {a : Int} {ks : List Int} (ho : o.op = .lookup t m x false) (hs : SR ρ L L') (hH : HM ρ H As) (hm : opd L m = some (.map (some r))) (hx : opd L x = some (.int .i64 a)) (ht : P.underlying t = some (.map kt et)) (hz : tzv P et = some (.bool false)) (hk : tki P kt = some .i64) (hg : Qe6 H r = some ks) :
  ∃ u,OpQ P o L' (HS w0 [] As) u ∧ den ρ (.bool (QhO a ks)) = some u:=by
 obtain ⟨b,Rs,g1,g2,_⟩:=Qql hH hg;obtain ⟨b',d',e1,e2⟩:=Qla hs hm;rw [g1] at e1;injection e1 with e1
 injection e1 with e1 _
 subst e1;rw [Qhx];exact ⟨_,QnB ho e2 (Qi hs hx rfl) ht hz (QlD hk) g2,by simp only [den,Xq,QP,XJ];congr⟩
theorem Qjj {t kt et r : Nat} {m x y : Operand} {a : Int} {ks : List Int} (ho : o.op = .mapUpdate t m x y ∨ o.op = .insert t m x y) (hs : SR ρ L L') (hH : HM ρ H As) (hf : QN ρ n) (hm : opd L m = some (.map (some r))) (hx : opd L x = some (.int .i64 a)) (hy : opd L y = some (.bool true)) (ht : P.underlying t = some (.map kt et)) (hk : tki P kt = some .i64) (hg : Qe6 H r = some ks) :
  OpT P o L' (HS w0 [] As) (Out w0 ρ (.tuple #[]) (Yy H r (.mp (bif QhO a ks then ks else ks ++ [a]))) n):=by
 obtain ⟨b,Rs,g1,g2,g3⟩:=Qql hH hg;obtain ⟨b',d',e1,e2⟩:=Qla hs hm;rw [g1] at e1;injection e1 with e1
 injection e1 with e1 _
 subst e1;have hik : Qdc ks a = (bif QhO a ks then ks else ks ++ [a]):=by grind [Qdc,Qhx,ks]
 obtain ⟨As2,g4,g5⟩:=g3 (Qdc ks a);rw [← hik];exact ⟨_,_,_,_,Qju (As':=.mp b Qi2 (Qdc ks a) :: Rs) ho e2 (Qi hs hx rfl) (Qi hs hy rfl) ht (QlD hk) ⟨Rs,g2,.refl _⟩,fun _ _=>⟨ρ,As2,ρ.le_refl,hf,rfl,g4,fun w hw=>hw.perm g5⟩⟩
end
end Ev
namespace Ev
open Go Go.RowKit
noncomputable def QjY (P : Program) (H : Hp) (xt sz : Nat) : Value → Option (Nat × List Value)
 | .slice none k _=>bif Xf P xt && Nat.beq k 0 then some (0,[]) else none
 | .slice (some ⟨m,i,_⟩) k _=>bif Xf P xt then (bif Nat.beq k 0 then some (0,[]) else match Yl H m with
  | some r=>bif Nat.ble (i + k * sz) r.cs.length then some (k,cut r.cs i (k * sz)) else none
  | none=>none) else none
 | .pointer (some ⟨_,_,some _⟩)=>bif Xf P xt then some (0,[]) else none
 | .string ⟨⟨l⟩⟩=>bif Q8 P xt && Nat.beq sz 1 then some (l.length,l.map fun b=>.int .u8 (b.toNat : Int)) else none
 | _=>none
structure SrcOk (P : Program) (w0 : World) (As : List HA) (xt sz : Nat) (uy : Value) (m : Nat) (us : List Value) : Prop where
 ty : P.underlying xt = some .string ∨ ∃ e',P.underlying xt = some (.slice e')
 lenOf : ∀ w,(Builtin.lenOf uy).run P w = .ok m w
 cells : ∀ w,HS w0 [] As w → (Builtin.firstCells sz m uy).run P w = .ok us.toArray w
 len : us.length = m * sz
theorem QvN {ρ : Rho} (l : List UInt8) : Qt (QP ρ) (l.map fun b=>Value.int .u8 (b.toNat : Int)) = some (l.map fun b=>.int .u8 (b.toNat : Int)):=XO (by
 unfold Xe;rw [List.all_map];exact List.all_eq_true.2 fun _ _=>rfl)
section
variable {P : Program} {o : Oper} {L' : Qb} {w0 : World} {ρ : Rho} {L : Env} {H : Hp} {n : Nat} {As : List HA}
theorem QmY {α : Type} {c : Bool} {x a : α} (h : (bif c then some x else none) = some a) : c = true ∧ x = a:=by grind
theorem QkD {xt sz : Nat} {y : Operand} {v : Value} {m : Nat} {cs : List Value} (hs : SR ρ L L') (hH : HM ρ H As) (hy : opd L y = some v) (h : QjY P H xt sz v = some (m,cs)) : ∃ uy us,ev L' y = some uy ∧ Qt (QP ρ) cs = some us ∧ SrcOk P w0 As xt sz uy m us:=by
 unfold QjY at h;split at h
 ·rename_i k c;cases hb : Xf P xt && Nat.beq k 0 with
  | false=>rw [hb] at h;cases h
  | true=>
   rw [hb] at h;simp only [cond_true,Option.some.injEq,Prod.mk.injEq] at h;obtain ⟨rfl,rfl⟩:=h;simp only [Bool.and_eq_true] at hb;have hk:=Nat.eq_of_beq_eq_true hb.2;subst hk;exact ⟨_,[],Qi hs hy rfl,rfl,.inr (XI hb.1),fun _=>rfl,fun w _=>X0 (news:=[]) (by simp) fun h=>absurd rfl h,by simp⟩
 ·rename_i m2 i q k c;cases hb : Xf P xt with
  | false=>rw [hb] at h;cases h
  | true=>
   rw [hb] at h;simp only [cond_true] at h
   have hev : ∃ b c',ρ m2 = some b ∧ ev L' y = some (.slice (some ⟨b.1,i,none⟩) k c'):=by
    cases q with
    | none=>
     obtain ⟨b,d,h1,h2⟩:=XP hs hy
     simp_all
    | some q=>
     obtain ⟨b,d,h1,h2⟩:=Yj hs hy
     simp_all
   obtain ⟨⟨b,d⟩,c',h1,h2⟩:=hev;cases hk : Nat.beq k 0 with
   | true=>
    rw [hk] at h;simp only [cond_true,Option.some.injEq,Prod.mk.injEq] at h;obtain ⟨rfl,rfl⟩:=h;have hk:=Nat.eq_of_beq_eq_true hk;subst hk;exact ⟨_,[],h2,rfl,.inr (XI hb),fun _=>rfl,fun w _=>X0 (news:=[]) (by simp) fun h=>absurd rfl h,by simp⟩
   | false=>
    rw [hk] at h;simp only [cond_false] at h;split at h
    ·rename_i r hg;cases hl : Nat.ble (i + k * sz) r.cs.length with
     | false=>rw [hl] at h;cases h
     | true=>
      rw [hl] at h;simp only [cond_true,Option.some.injEq,Prod.mk.injEq] at h;obtain ⟨rfl,rfl⟩:=h;have hl':=Nat.le_of_ble_eq_true hl;obtain ⟨b9,d9,us,Rs,g1,g2,g3,g4,_,_⟩:=XY hH hg;rw [h1] at g1;injection g1 with g1
      injection g1 with g1 g1'
      subst g1 g1';have hlu:=Q6 g2;have hcl : (cut us i (k * sz)).length = k * sz:=by simp only [cut,List.length_take,List.length_drop];omega
      exact ⟨_,cut us i (k * sz),h2,XG (k * sz) (Ys i g2),.inr (XI hb),fun _=>rfl,fun w hw=>X0 hcl (ZB i (k * sz) (fun _=>rfl) g4 w hw),hcl⟩
    ·cases h
 ·rename_i m2 i q;obtain ⟨hb,h⟩:=QmY h;simp only [Prod.mk.injEq] at h;obtain ⟨rfl,rfl⟩:=h;obtain ⟨b,d,j,h1,h2⟩:=Qe0 hs hy;exact ⟨_,[],h2,rfl,.inr (XI hb),fun _=>rfl,fun w _=>X0 (news:=[]) (by simp) fun h=>absurd rfl h,by simp⟩
 ·rename_i l;cases hb : Q8 P xt && Nat.beq sz 1 with
  | false=>rw [hb] at h;cases h
  | true=>
   rw [hb] at h;simp only [cond_true,Option.some.injEq,Prod.mk.injEq] at h;obtain ⟨rfl,rfl⟩:=h;simp only [Bool.and_eq_true] at hb;have hk:=Nat.eq_of_beq_eq_true hb.2;subst hk;refine ⟨.string (bs l),_,Qi hs hy rfl,QvN l,.inl (X4 hb.1),fun _=>rfl,fun w _=>?_,by simp⟩;have hx : (bs l).extract 0 l.length = bs l:=(Qgb _).trans (congrArg bs (by rw [Lib.extract_data];simp));simp only [Builtin.firstCells,hx,Sem.run_pure];congr 1;simp [bs]
 ·cases h
theorem Qnb {t xt e sz by' k c m p : Nat} {s y : Operand} {r : HB} {vy : Value} {cs : List Value} {q : Option Nat} (ho : o.op = .call { callee:=.builtin .append,args:=#[s,y],argTypes:=#[t,xt] }) (hs : SR ρ L L') (hH : HM ρ H As) (hf : QN ρ n) (hx : opd L s = some (.slice (some ⟨p,0,q⟩) k c)) (hy : opd L y = some vy) (ht : tsl P t = some (e,sz,by'))
  (hsrc : QjY P H xt sz vy = some (m,cs)) (hg : Yl H p = some r) (hfit : k + m ≤ c) (hr : k * sz + cs.length ≤ r.cs.length) : OpT P o L' (HS w0 [] As) (Out w0 ρ (.slice (some ⟨p,0,q⟩) (k + m) c) (XZ H p { r with cs:=Qe r.cs (k * sz) cs }) n):=by
 obtain ⟨uy,us,h1,h2,h3⟩:=QkD (w0:=w0) hs hH hy hsrc;obtain ⟨b,d,rs,Rs,g1,g2,g3,g4,g5,_⟩:=XY hH hg;have XZ:=XX (k * sz) g2 h2;obtain ⟨As2,g6,g7⟩:=g5 { r with cs:=Qe r.cs (k * sz) cs } _ XZ (by unfold room at *;simpa [Qd] using g3);have hev : ∃ c',c ≤ c' ∧ ev L' s = some (.slice (some ⟨b,0,none⟩) k c') ∧ den ρ (.slice (some ⟨p,0,q⟩) (k + m) c) = some (.slice (some ⟨b,0,none⟩) (k + m) c'):=by cases q <;> grind [XP,den,Xq,QP,XJ,Yj]
 obtain ⟨c',hc,e1,e2⟩:=hev;have hlr:=Q6 g2;have hlu:=Q6 h2;refine ⟨Unit,fun _=>.slice (some ⟨b,0,none⟩) (k + m) c',fun _=>True,fun _=>HS w0 [] (.blk b r.ty (rs.length + d * r.sz) (Qe rs (k * sz) us) :: Rs),?_,fun _ _=>⟨ρ,As2,ρ.le_refl,hf,e2,g6,fun w hw=>?_⟩⟩
 ·intro a w hρ hw;obtain ⟨hu,inf,hi,hs1,hs2⟩:=QW ht;subst hs1;have hpk:=hw.pick g4;obtain ⟨w',hst,hb,r1,r2,r3,r4,r5⟩:=Xt (P:=P) us 0 rs w hpk.head (by rw [Nat.add_zero,hlr,hlu];exact hr) (fun u hu=>List.all_eq_true.1 (YD h2) u hu) (i:=k * inf.size);have he:=Qfu (P:=P) (ty:=o.type) (x:=uy) (w':=w') (g:=b) (n:=k) (m:=m) (cap:=c') (t:=t) (xt:=xt) hu h3.ty hi (h3.lenOf w) (h3.cells w hw) (by rw [Xm,Nat.zero_add];exact hst) (by omega);simp only [execOp,ho,resolve,Sem.run_bind,Sem.run_pure,Result.andThen_ok,invoke,builtin,List.map_toArray,List.map_cons,List.map_nil,hρ _ _ e1,hρ _ _ h1,he];exact ⟨(),rfl,trivial,HS.swap hpk (B:=.blk b r.ty (rs.length + d * r.sz) (Qe rs (k * inf.size) us)) (fun _ h=>h) r1 r2 r3 r4 (fun k hk=>r5 k (by simpa [HA.fp_blk] using hk)) (show QO b _ _ (Qe rs (k * inf.size) us) w' by simpa using hb)⟩
 ·have : HS w0 [] (.blk b r.ty ((Qe rs (k * sz) us).length + d * r.sz) (Qe rs (k * sz) us) :: Rs) w:=by rw [Qd];exact hw
  exact this.perm g7
theorem QdV {t xt e sz by' k m : Nat} {s y : Operand} {v uy : Value} {z xs us : List Value} {Rs : List HA} (ho : o.op = .call { callee:=.builtin .append,args:=#[s,y],argTypes:=#[t,xt] }) (hv : ev L' s = some v) (hy : ev L' y = some uy) (ht : tsl P t = some (e,sz,by')) (hz : QL P e = some z) (hzs : z.length = sz)
  (hcls : ∀ w,HS w0 [] As w → HS w0 [] (.own v e sz k xs :: Rs) w) (h3 : SrcOk P w0 As xt sz uy m us) (h1 : us.all (·.oneCell') = true) (hroom : (k + m) * by' ≤ 140737488355328) (hmax : k + m ≤ maxLen) (hpos : 0 < k + m) :
  OpH P o L' (HS w0 [] As) (fun g : Nat × Nat=>.slice (some ⟨g.1,0,none⟩) (k + m) g.2) (fun g=>k + m ≤ g.2 ∧ g.2 ≤ maxLen ∧ (xs ++ us).length = (k + m) * sz) (fun g=>HS w0 [] (.blk g.1 e (g.2 * sz) (xs ++ us) :: Rs)):=by
 intro a w hρ hw;obtain ⟨v',w',hr,hw'⟩:=Qfp (P:=P) (ty:=o.type) ht h3.ty hz hzs (hcls w hw) .here (x:=uy) (h3.lenOf w) (h3.cells w hw) (h3.cells _ hw.drew) h3.len (fun u hu=>List.all_eq_true.1 h1 u hu) hroom hmax;simp only [execOp,ho,resolve,Sem.run_bind,Sem.run_pure,Result.andThen_ok,invoke,builtin,List.map_toArray,List.map_cons,List.map_nil,hρ _ _ hv,hρ _ _ hy,hr];obtain ⟨a',cap',rfl,_⟩:=hw'.head.form;obtain ⟨g,rfl,_,h4,h5,h6,h7⟩:=hw'.own_blk hpos .here;exact ⟨(g,cap'),rfl,⟨h4,h5,h6⟩,h7⟩
theorem QcK {Rs : List HA} {H' : Hp} {e sz k m : Nat} {cs xs : List Value} {g : Nat × Nat} (hH : ∃ As3,HM ρ H' As3 ∧ Rs.Perm As3) (hf : QN ρ n) (hc : Qt (QP ρ) cs = some xs) (h1 : k + m ≤ g.2) (h2 : g.2 ≤ maxLen) (h3 : xs.length = (k + m) * sz) :
  Out w0 ρ (.slice (some ⟨n,0,none⟩) (k + m) (k + m)) (XZ H' n ⟨e,sz,cs⟩) (n + 1) (.slice (some ⟨g.1,0,none⟩) (k + m) g.2) (HS w0 [] (.blk g.1 e (g.2 * sz) xs :: Rs)):=by
 obtain ⟨As3,h4,h5⟩:=hH;have hl:=Q6 hc;have hsum : (k + m) * sz + (g.2 - (k + m)) * sz = g.2 * sz:=by rw [← Nat.add_mul];congr 1;omega
 refine QaN (b:=g.1) (d:=g.2 - (k + m)) h4 hf hc (.inr ?_) (by rw [Qfy,show k + m + (g.2 - (k + m)) = g.2 by omega]) fun w hw=>?_
 ·simp only [];rw [← hl,h3,hsum];exact Nat.mul_le_mul_right _ h2
 ·simp only [];rw [h3,hsum];exact hw.perm (h5.cons _)
theorem Qmm {t xt e sz by' k c m p : Nat} {s y : Operand} {r : HB} {vy : Value} {z cs : List Value} (ho : o.op = .call { callee:=.builtin .append,args:=#[s,y],argTypes:=#[t,xt] }) (hs : SR ρ L L') (hH : HM ρ H As) (hf : QN ρ n) (hx : opd L s = some (.slice (some ⟨p,0,none⟩) k c)) (hy : opd L y = some vy) (ht : tsl P t = some (e,sz,by')) (hz : QL P e = some z) (hzs : z.length = sz)
  (hsrc : QjY P H xt sz vy = some (m,cs)) (hg : Yl H p = some r) (hty : r.ty = e) (hsz : r.sz = sz) (hlen : r.cs.length = c * sz) (hsz0 : 0 < sz) (hkc : k ≤ c) (hcm : c ≤ maxLen) (hroom : (k + m) * by' ≤ 140737488355328) (hmax : k + m ≤ maxLen) (hpos : 0 < k + m) :
  OpT P o L' (HS w0 [] As) (Out w0 ρ (.slice (some ⟨n,0,none⟩) (k + m) (k + m)) (XZ (QgU H p) n ⟨e,sz,r.cs.take (k * sz) ++ cs⟩) (n + 1)):=by
 obtain ⟨uy,us,h1,h2,h3⟩:=QkD (w0:=w0) hs hH hy hsrc;obtain ⟨b,d,rs,Rs,g1,g2,g3,g4,_,g6⟩:=XY hH hg;obtain ⟨b9,d9,e1,e2⟩:=XP hs hx;rw [g1] at e1;injection e1 with e1
 injection e1 with e1 e3
 subst e1 e3;have hlr:=Q6 g2
 have hcd : c + d ≤ maxLen:=by
  unfold room at g3;rcases g3 with g3 | g3
  ·omega
  ·rw [hlen,hsz,← Nat.add_mul] at g3;exact Nat.le_of_mul_le_mul_right g3 hsz0
 have htot : rs.length + d * r.sz = (c + d) * sz:=by rw [hlr,hlen,hsz,Nat.add_mul]
 rw [hty,htot] at g4;have hH4:=QdV (w0:=w0) (As:=As) (xs:=rs.take (k * sz)) (Rs:=Rs) (k:=k) ho e2 h1 ht hz hzs (fun w hw=>HS.to_own g4 hw (List.take_append_drop (k * sz) rs).symm (by rw [List.length_take,hlr,hlen];exact Nat.min_eq_left (Nat.mul_le_mul_right _ hkc)) (by omega) hcd) h3 (YD h2) hroom hmax hpos;exact ⟨_,_,_,_,hH4,fun g hg4=>QcK g6 hf (Zl (XG (k * sz) g2) h2) hg4.1 hg4.2.1 hg4.2.2⟩
theorem Qmy {t xt e sz by' m : Nat} {s y : Operand} {vy : Value} {z cs : List Value} (ho : o.op = .call { callee:=.builtin .append,args:=#[s,y],argTypes:=#[t,xt] }) (hs : SR ρ L L') (hH : HM ρ H As) (hf : QN ρ n) (hx : opd L s = some (.slice none 0 0)) (hy : opd L y = some vy) (ht : tsl P t = some (e,sz,by')) (hz : QL P e = some z) (hzs : z.length = sz)
  (hsrc : QjY P H xt sz vy = some (m,cs)) (hroom : (0 + m) * by' ≤ 140737488355328) (hmax : 0 + m ≤ maxLen) (hpos : 0 < 0 + m) :
  OpT P o L' (HS w0 [] As) (Out w0 ρ (.slice (some ⟨n,0,none⟩) (0 + m) (0 + m)) (XZ H n ⟨e,sz,[] ++ cs⟩) (n + 1)):=by
 obtain ⟨uy,us,h1,h2,h3⟩:=QkD (w0:=w0) hs hH hy hsrc;have hH4:=QdV (w0:=w0) (As:=As) (xs:=[]) (Rs:=As) (k:=0) ho (Qi hs hx rfl) h1 ht hz hzs (fun w hw=>hw.own_nil e sz) h3 (YD h2) hroom hmax hpos;exact ⟨_,_,_,_,hH4,fun g hg4=>QcK ⟨As,hH,.refl _⟩ hf (Zl (by rfl) h2) hg4.1 hg4.2.1 hg4.2.2⟩
theorem Qmx {t xt e sz by' : Nat} {s y : Operand} {vy : Value} {cs : List Value} (ho : o.op = .call { callee:=.builtin .append,args:=#[s,y],argTypes:=#[t,xt] }) (hs : SR ρ L L') (hH : HM ρ H As) (hf : QN ρ n) (hx : opd L s = some (.slice none 0 0)) (hy : opd L y = some vy) (ht : tsl P t = some (e,sz,by'))
  (hsrc : QjY P H xt sz vy = some (0,cs)) : OpT P o L' (HS w0 [] As) (Out w0 ρ (.slice none 0 0) H n):=by
 obtain ⟨uy,us,h1,h2,h3⟩:=QkD (w0:=w0) hs hH hy hsrc;refine ⟨Unit,fun _=>.slice none 0 0,fun _=>True,fun _=>HS w0 [] As,?_,fun _ _=>⟨ρ,As,ρ.le_refl,hf,rfl,hH,fun _ h=>h⟩⟩;intro a w hρ hw;obtain ⟨hu,inf,hi,hs1,hs2⟩:=QW ht;subst hs1;have hu0 : us = []:=List.eq_nil_of_length_eq_zero (by have:=h3.len;omega);subst hu0;have he:=QeI (P:=P) (ty:=o.type) (t:=t) (xt:=xt) (x:=uy) (w:=w) hu h3.ty hi (h3.lenOf w) (h3.cells w hw);simp only [execOp,ho,resolve,Sem.run_bind,Sem.run_pure,Result.andThen_ok,invoke,builtin,List.map_toArray,List.map_cons,List.map_nil,hρ _ _ (Qi hs hx rfl),hρ _ _ h1,he];exact ⟨(),rfl,trivial,hw⟩
end
end Ev
namespace Ev
open Go Go.RowKit
section
variable {P : Program} {o : Oper} {L' : Qb} {w0 : World} {ρ : Rho} {L : Env} {H : Hp} {n : Nat} {As : List HA}
theorem Qn1 {cs us : List Value} (h : Xe cs = true) (e : Qt (QP ρ) cs = some us) : us = cs:=by grind [XO]
theorem QdA {x : Operand} {p i l c : Nat} {q : Option Nat} (hs : SR ρ L L') (h : opd L x = some (.slice (some ⟨p,i,q⟩) l c)) : ∃ b d c',ρ p = some (b,d) ∧ ev L' x = some (.slice (some ⟨b,i,none⟩) l c'):=by cases q <;> grind [XP,Yj]
theorem Qme {src dst e p i k c : Nat} {x : Operand} {q : Option Nat} {r : HB} (ho : o.op = .convert src dst x) (hs : SR ρ L L') (hH : HM ρ H As) (hx : opd L x = some (.slice (some ⟨p,i,q⟩) k c)) (h1 : P.underlying src = some (.slice e)) (h2 : Q8 P dst = true) (h3 : P.underlying e = some (.int .u8)) (hg : Yl H p = some r) (hl : i + k ≤ r.cs.length)
  (h8 : (cut r.cs i k).all QhJ = true) (hf : Xe (cut r.cs i k) = true) : ∃ u,OpQ P o L' (HS w0 [] As) u ∧ den ρ (.string (bs ((cut r.cs i k).map Qa2))) = some u:=by
 obtain ⟨b,d,us,Rs,g1,g2,g3,g4,_,_⟩:=XY hH hg;obtain ⟨b9,d9,c',e1,e2⟩:=QdA hs hx;rw [g1] at e1;injection e1 with e1
 injection e1 with e1 e3
 subst e1 e3;have hc : Qt (QP ρ) (cut r.cs i k) = some (cut us i k):=XG k (Ys i g2);have he:=Qn1 hf hc;have hlen : (cut r.cs i k).length = k:=by simp only [cut,List.length_take,List.length_drop];omega
 refine ⟨_,?_,rfl⟩;intro a w hρ hw
 have hr : (convert src dst (.slice (some ⟨b,i,none⟩) (cut r.cs i k).length c')).run P w = .ok (.string (bs ((cut r.cs i k).map Qa2))) w:=
  Yg h1 (X4 h2) h3 (fun v hv=>List.all_eq_true.1 h8 v hv) (by rw [← he];exact ZB i k (fun _=>rfl) g4 w hw)
 rw [hlen] at hr;simp only [execOp,ho,Sem.run_bind,hρ _ _ e2,hr,Result.andThen_ok,Sem.run_pure];exact ⟨rfl,Below.refl _ _⟩
theorem QmN {src dst e k c : Nat} {x : Operand} (ho : o.op = .convert src dst x) (hs : SR ρ L L') (hx : opd L x = some (.slice none 0 c)) (h1 : P.underlying src = some (.slice e)) (h2 : Q8 P dst = true) (h3 : P.underlying e = some (.int .u8)) : ∃ u,OpQ P o L' (HS w0 [] As) u ∧ den ρ (.string (bs [])) = some u:=by
 refine ⟨_,?_,rfl⟩;intro a w hρ hw
 have hr : (convert src dst (.slice none ([] : List Value).length c)).run P w = .ok (.string (bs (([] : List Value).map Qa2))) w:=
  Yg h1 (X4 h2) h3 (fun v hv=>by cases hv) (fun h=>absurd rfl h)
 simp only [execOp,ho,Sem.run_bind,hρ _ _ (Qi hs hx rfl),show (0 : Nat) = ([] : List Value).length from rfl,hr,Result.andThen_ok,Sem.run_pure];exact ⟨rfl,Below.refl _ _⟩
theorem Qm6 {src dst e p i q : Nat} {x : Operand} (ho : o.op = .convert src dst x) (hs : SR ρ L L') (hx : opd L x = some (.pointer (some ⟨p,i,some q⟩))) (h1 : P.underlying src = some (.slice e)) (h2 : Q8 P dst = true) (h3 : P.underlying e = some (.int .u8)) : ∃ u,OpQ P o L' (HS w0 [] As) u ∧ den ρ (.string (bs [])) = some u:=by
 obtain ⟨b,d,j,_,h4⟩:=Qe0 hs hx;exact ⟨_,Qe3 [] ho h4 h1 (X4 h2) h3 rfl (fun _ _ h=>absurd h (Nat.lt_irrefl 0)),rfl⟩
theorem Qmh {t xt e sz by' m : Nat} {s y : Operand} {z : List Value} (ho : o.op = .call { callee:=.builtin .append,args:=#[s,y],argTypes:=#[t,xt] }) (hs : SR ρ L L') (hH : HM ρ H As) (hf : QN ρ n) (hx : opd L s = some (.slice none 0 0)) (hy : opd L y = some (.int .i64 (m : Int))) (hk : tki P xt = some .i64) (ht : tsl P t = some (e,sz,by')) (hz : QL P e = some z) (hzs : z.length = sz) (hsz : 0 < sz)
  (hfz : Xe (Xv z (m * sz)) = true) (hroom : (0 + m) * by' ≤ 140737488355328) (hmax : 0 + m ≤ maxLen) (hpos : 0 < m) : OpT P o L' (HS w0 [] As) (Out w0 ρ (.slice (some ⟨n,0,none⟩) (0 + m) (0 + m)) (XZ H n ⟨e,sz,[] ++ Xv z (m * sz)⟩) (n + 1)):=by
 exact ⟨_,_,_,_,ZL (olds:=[]) ho (Qi hs hx rfl) (Qi hs hy rfl) ht hk hz hzs hsz hpos (by omega) (fun w _ h=>absurd rfl h) (by simp) hroom hmax,fun g hg=>QcK ⟨As,hH,.refl _⟩ hf (Zl (by rfl) (XO hfz)) hg.1 hg.2 (by rw [List.nil_append,Qv,Nat.zero_add])⟩
theorem QuV {dt st e sz by' p i k c p2 i2 k2 c2 : Nat} {d s : Operand} {q q2 : Option Nat} {r r2 : HB} (ho : o.op = .call { callee:=.builtin .copy,args:=#[d,s],argTypes:=#[dt,st] }) (hs : SR ρ L L') (hH : HM ρ H As) (hf : QN ρ n) (hd : opd L d = some (.slice (some ⟨p,i,q⟩) k c)) (hx : opd L s = some (.slice (some ⟨p2,i2,q2⟩) k2 c2)) (ht : tsl P dt = some (e,sz,by'))
  (hg : Yl H p = some r) (hg2 : Yl H p2 = some r2) (hl : i + min k2 k * sz ≤ r.cs.length) (hl2 : i2 + min k2 k * sz ≤ r2.cs.length) : OpT P o L' (HS w0 [] As) (Out w0 ρ (.int .i64 ((min k2 k : Nat) : Int)) (XZ H p { r with cs:=Qe r.cs i (cut r2.cs i2 (min k2 k * sz)) }) n):=by
 obtain ⟨b,dd,us,Rs,g1,g2,g3,g4,g5,_⟩:=XY hH hg;obtain ⟨b2,dd2,us2,Rs2,m1,m2,m3,m4,_,_⟩:=XY hH hg2;obtain ⟨b9,d9,c',e1,e2⟩:=QdA hs hd;rw [g1] at e1;injection e1 with e1
 injection e1 with e1 e3
 subst e1 e3;obtain ⟨b8,d8,c8,f1,f2⟩:=QdA hs hx;rw [m1] at f1;injection f1 with f1
 injection f1 with f1 f3
 subst f1 f3;have hc : Qt (QP ρ) (cut r2.cs i2 (min k2 k * sz)) = some (cut us2 i2 (min k2 k * sz)):=XG _ (Ys i2 m2);have hlu:=Q6 g2;have hlu2:=Q6 m2;have hcl : (cut us2 i2 (min k2 k * sz)).length = min k2 k * sz:=by simp only [cut,List.length_take,List.length_drop];omega
 obtain ⟨As2,g6,g7⟩:=g5 { r with cs:=Qe r.cs i (cut r2.cs i2 (min k2 k * sz)) } _ (XX i g2 hc) (by unfold room at *;simpa [Qd] using g3);have hS:=QaX (w0:=w0) (M:=[]) (As:=As) (As':=.blk b r.ty (us.length + dd * r.sz) (Qe us i (cut us2 i2 (min k2 k * sz))) :: Rs) (min k2 k) (cut us2 i2 (min k2 k * sz)) ho e2 f2 ht ⟨Rs,g4,.refl _⟩ rfl hcl (fun _=>rfl) (by rw [hcl,hlu];exact hl) (ZB i2 _ (fun _=>rfl) m4) (fun u hu=>List.all_eq_true.1 (YD hc) u hu);refine ⟨_,_,_,_,hS,fun _ _=>⟨ρ,As2,ρ.le_refl,hf,rfl,g6,fun w hw=>?_⟩⟩;have : HS w0 [] (.blk b r.ty ((Qe us i (cut us2 i2 (min k2 k * sz))).length + dd * r.sz) (Qe us i (cut us2 i2 (min k2 k * sz))) :: Rs) w:=by rw [Qd];exact hw
 exact this.perm g7
theorem Qrq {src e p i k c : Nat} {x : Operand} {r : HB} (ho : o.op = .convert src src x) (hs : SR ρ L L') (hH : HM ρ H As) (hf : QN ρ n) (hx : opd L x = some (.slice (some ⟨p,i,none⟩) k c)) (h1 : P.underlying src = some (.slice e)) (h3 : P.underlying e = some (.int .u8)) (hg : Yl H p = some r) (ht : r.ty = u8T) :
  OpT P o L' (HS w0 [] As) (Out w0 ρ (.slice (some ⟨p,i,none⟩) k c) H n):=by
 obtain ⟨b,dd,us,Rs,g1,g2,g3,g4,g5,_⟩:=XY hH hg;obtain ⟨b9,d9,e1,e2⟩:=XP hs hx;rw [g1] at e1;injection e1 with e1
 injection e1 with e1 e3
 subst e1 e3;rw [ht] at g4;have hS:=QjT (w0:=w0) (M:=[]) (As:=As) (As':=.blk b u8T (us.length + dd * r.sz) us :: Rs) ho e2 h1 h3 ⟨Rs,g4,.refl _⟩;refine ⟨_,_,_,_,hS,fun _ _=>⟨ρ,As,ρ.le_refl,hf,?_,hH,fun w hw=>hw.perm g4.symm⟩⟩;simp only [den,Xq,QP,XJ,g1]
theorem QqE {dt st e by' m cd b tot i : Nat} {d s : Operand} {bt : TypeId} {cs news : List Value} {l : List UInt8} {As As' : List HA} (k : Nat) (ho : o.op = .call { callee:=.builtin .copy,args:=#[d,s],argTypes:=#[dt,st] }) (hd : Gx.ev L' d = some (.slice (some ⟨b,i,none⟩) m cd)) (hx : Gx.ev L' s = some (.string (bs l))) (ht : tsl P dt = some (e,1,by'))
  (hnw : news = (l.take k).map fun b=>Value.int .u8 (b.toNat : Int)) (hp : Put As (.blk b bt tot cs) (.blk b bt tot (Qe cs i news)) As') (hk : min l.length m = k) (hr : i + k ≤ cs.length) :
  OpH P o L' (HS w0 [] As) (fun _ : Unit=>.int .i64 (k : Int)) (fun _=>True) (fun _=>HS w0 [] As'):=by
 intro ρ w hρ hw;obtain ⟨hu,inf,hi,hs1,hs2⟩:=QW ht;have hl : news.length = k:=by rw [hnw,List.length_map,List.length_take];omega
 have hsz : (Go.sizeOf e).run P w = .ok 1 w:=by simp [Go.sizeOf,typeInfo,hi,hs1]
 have hfc : (Builtin.firstCells 1 k (.string (bs l))).run P w = .ok news.toArray w:=by
  have hx : (bs l).extract 0 k = bs (l.take k):=(Qgb _).trans (congrArg bs (by rw [Lib.extract_data];simp));simp only [Builtin.firstCells,hx,Sem.run_pure,hnw];congr 1;simp [bs]
 have hbl : (bs l).size = l.length:=rfl;have hk' : Nat.min l.length m = k:=hk;obtain ⟨Rs,h3,h4⟩:=hp.ex;have hpk:=hw.pick h3;obtain ⟨w',hst,hb,r1,r2,r3,r4,r5⟩:=Xt (P:=P) news 0 cs w hpk.head (by simpa [hl] using hr) (fun u hu=>by rw [hnw] at hu;obtain ⟨b,_,rfl⟩:=List.mem_map.1 hu;rfl) (i:=i)
 have he : (Builtin.copy_ #[dt,st] o.type #[.slice (some ⟨b,i,none⟩) m cd,.string (bs l)]).run P w = .ok (.int .i64 (k : Int)) w':=by
  unfold Builtin.copy_;simp [run_underlying hu,Builtin.lenOf,hbl,hk',hsz,hfc,goInt,hst]
 simp only [execOp,ho,resolve,Sem.run_bind,Sem.run_pure,Result.andThen_ok,invoke,builtin,List.map_toArray,List.map_cons,List.map_nil,hρ _ _ hd,hρ _ _ hx,he];exact ⟨(),rfl,trivial,(HS.swap hpk (B:=.blk b bt tot (Qe cs i news)) (fun _ h=>h) r1 r2 r3 r4 (fun k hk=>r5 k (by simpa [HA.fp_blk] using hk)) (show QO b bt tot (Qe cs i news) w' by simpa using hb)).perm h4⟩
theorem Qrn {dt st e by' p i k c : Nat} {d s : Operand} {q : Option Nat} {r : HB} {l : List UInt8} (ho : o.op = .call { callee:=.builtin .copy,args:=#[d,s],argTypes:=#[dt,st] }) (hs : SR ρ L L') (hH : HM ρ H As) (hf : QN ρ n) (hd : opd L d = some (.slice (some ⟨p,i,q⟩) k c)) (hx : opd L s = some (.string (bs l))) (ht : tsl P dt = some (e,1,by'))
  (hg : Yl H p = some r) (hl : i + min l.length k ≤ r.cs.length) : OpT P o L' (HS w0 [] As) (Out w0 ρ (.int .i64 ((min l.length k : Nat) : Int)) (XZ H p { r with cs:=Qe r.cs i ((l.take (min l.length k)).map fun b=>Value.int .u8 (b.toNat : Int)) }) n):=by
 obtain ⟨b,dd,us,Rs,g1,g2,g3,g4,g5,_⟩:=XY hH hg;obtain ⟨b9,d9,c',e1,e2⟩:=QdA hs hd;rw [g1] at e1;injection e1 with e1
 injection e1 with e1 e3
 subst e1 e3
 have hfl : Xe ((l.take (min l.length k)).map fun b=>Value.int .u8 (b.toNat : Int)) = true:=by
  unfold Xe;rw [List.all_map];exact List.all_eq_true.2 fun _ _=>rfl
 have hlu:=Q6 g2;obtain ⟨As2,g6,g7⟩:=g5 { r with cs:=Qe r.cs i ((l.take (min l.length k)).map fun b=>Value.int .u8 (b.toNat : Int)) } _ (XX i g2 (XO hfl)) (by unfold room at *;simpa [Qd] using g3);have hS:=QqE (w0:=w0) (As:=As) (As':=.blk b r.ty (us.length + dd * r.sz) (Qe us i ((l.take (min l.length k)).map fun b=>Value.int .u8 (b.toNat : Int))) :: Rs) (min l.length k) ho e2 (Qi hs hx rfl) ht rfl ⟨Rs,g4,.refl _⟩ rfl (by rw [hlu];exact hl);refine ⟨_,_,_,_,hS,fun _ _=>⟨ρ,As2,ρ.le_refl,hf,rfl,g6,fun w hw=>?_⟩⟩;have : HS w0 [] (.blk b r.ty ((Qe us i ((l.take (min l.length k)).map fun b=>Value.int .u8 (b.toNat : Int))).length + dd * r.sz) (Qe us i ((l.take (min l.length k)).map fun b=>Value.int .u8 (b.toNat : Int))) :: Rs) w:=by rw [Qd];exact hw
 exact this.perm g7
theorem QqB {t e sz by' p i k c : Nat} {x : Operand} {q : Option Nat} {r : HB} {z : List Value} (ho : o.op = .call { callee:=.builtin .clear,args:=#[x],argTypes:=#[t] }) (hs : SR ρ L L') (hH : HM ρ H As) (hf : QN ρ n) (hx : opd L x = some (.slice (some ⟨p,i,q⟩) k c)) (ht : tsl P t = some (e,sz,by')) (hz : QL P e = some z) (hzs : z.length = sz) (hz1 : z.all (·.oneCell') = true) (hz0 : Nat.blt 0 z.length = true) (hfz : Xe (Xv z (k * sz)) = true)
  (hg : Yl H p = some r) (hl : i + k * sz ≤ r.cs.length) : OpT P o L' (HS w0 [] As) (Out w0 ρ (.tuple #[]) (XZ H p { r with cs:=Qe r.cs i (Xv z (k * sz)) }) n):=by
 obtain ⟨b,dd,us,Rs,g1,g2,g3,g4,g5,_⟩:=XY hH hg;obtain ⟨b9,d9,c',e1,e2⟩:=QdA hs hx;rw [g1] at e1;injection e1 with e1
 injection e1 with e1 e3
 subst e1 e3;have hlu:=Q6 g2;obtain ⟨As2,g6,g7⟩:=g5 { r with cs:=Qe r.cs i (Xv z (k * sz)) } _ (XX i g2 (XO hfz)) (by unfold room at *;simpa [Qd] using g3);have hS:=Qel (w0:=w0) (M:=[]) (As:=As) (As':=.blk b r.ty (us.length + dd * r.sz) (Qe us i (Xv z (k * sz))) :: Rs) ho e2 ht hz hzs hz1 (by intro h;rw [h] at hz0;cases hz0) ⟨Rs,g4,.refl _⟩ (fun _=>rfl) (by rw [hlu];exact hl);refine ⟨_,_,_,_,hS,fun _ _=>⟨ρ,As2,ρ.le_refl,hf,rfl,g6,fun w hw=>?_⟩⟩;have : HS w0 [] (.blk b r.ty ((Qe us i (Xv z (k * sz))).length + dd * r.sz) (Qe us i (Xv z (k * sz))) :: Rs) w:=by rw [Qd];exact hw
 exact this.perm g7
theorem QuN {t : TypeId} {x : Operand} {l : List UInt8} (ho : o.op = .call { callee:=.builtin .len,args:=#[x],argTypes:=#[t] }) (hs : SR ρ L L') (hx : opd L x = some (.string ⟨⟨l⟩⟩)) (h : Q8 P t = true) : ∃ u,OpP P o L' u ∧ den ρ (.int .i64 (l.length : Int)) = some u:=
 ⟨_,Qj ho (Qi hs hx rfl) (X4 h),rfl⟩
theorem Quy {t : TypeId} {x : Operand} {a : Option Addr} {k c : Nat} (ho : o.op = .call { callee:=.builtin .len,args:=#[x],argTypes:=#[t] }) (hs : SR ρ L L') (hx : opd L x = some (.slice a k c)) (h : Xf P t = true) : ∃ u,OpP P o L' u ∧ den ρ (.int .i64 (k : Int)) = some u:=by
 obtain ⟨e,he⟩:=XI h;rcases a with _ | ⟨p,i,q⟩
 ·exact ⟨_,Y4 ho (Qi hs hx rfl) he,rfl⟩
 ·obtain ⟨b,d,c',h1,h2⟩:=QdA hs hx;exact ⟨_,Y4 ho h2 he,rfl⟩
theorem QuX {t : TypeId} {x : Operand} {p i q : Nat} (ho : o.op = .call { callee:=.builtin .len,args:=#[x],argTypes:=#[t] }) (hs : SR ρ L L') (hx : opd L x = some (.pointer (some ⟨p,i,some q⟩))) (h : Xf P t = true) : ∃ u,OpP P o L' u ∧ den ρ (.int .i64 0) = some u:=by
 obtain ⟨e,he⟩:=XI h;obtain ⟨b,d,j,h1,h2⟩:=Qe0 hs hx;exact ⟨_,Y4 ho h2 he,rfl⟩
theorem Qug {t : TypeId} {x : Operand} {k c : Nat} (ho : o.op = .call { callee:=.builtin .cap,args:=#[x],argTypes:=#[t] }) (hs : SR ρ L L') (hx : opd L x = some (.slice none k c)) (h : Xf P t = true) : ∃ u,OpP P o L' u ∧ den ρ (.int .i64 (c : Int)) = some u:=by
 obtain ⟨e,he⟩:=XI h;exact ⟨_,QoY ho (Qi hs hx rfl) he,rfl⟩
theorem QtX {x y : Operand} {k k' : IntKind} {a b : Int} {ts : Array TypeId} (ho : o.op = .call { callee:=.builtin .min,args:=#[x,y],argTypes:=ts }) (hs : SR ρ L L') (hx : opd L x = some (.int k a)) (hy : opd L y = some (.int k' b)) (hk : kEq k k' = true) : ∃ u,OpP P o L' u ∧ den ρ (.int k (if b < a then b else a)) = some u:=by
 obtain rfl:=Qbs hk;exact ⟨_,QnU ho (Qi hs hx rfl) (Qi hs hy rfl),rfl⟩
theorem Qs6 {x y : Operand} {k k' : IntKind} {a b : Int} {ts : Array TypeId} (ho : o.op = .call { callee:=.builtin .max,args:=#[x,y],argTypes:=ts }) (hs : SR ρ L L') (hx : opd L x = some (.int k a)) (hy : opd L y = some (.int k' b)) (hk : kEq k k' = true) : ∃ u,OpP P o L' u ∧ den ρ (.int k (if b > a then b else a)) = some u:=by
 obtain rfl:=Qbs hk;exact ⟨_,QjS ho (Qi hs hx rfl) (Qi hs hy rfl),rfl⟩
end
end Ev
namespace Ev
open Go Go.RowKit
inductive Ans where
 | p (v : Value)
 | q (v : Value)
 | h (v : Value) (H : Hp) (n : Nat)
def Qdi : Option Value → Option Ans
 | some v=>some (.p v)
 | none=>none
abbrev Qjo:=FuncId → List Value → Hp → Nat → Option (Value × Hp × Nat)
abbrev Qnl:=Nat → List Value → Hp → Nat → Option (Value × Hp × Nat)
structure CallF where
 f : Qnl → Qjo
 e : FuncId → List Value → Option Value
 y : Qnl
noncomputable section
variable (P : Program) (L : Env) (H : Hp) (n : Nat)
def QeQ (st f : Nat) : Option Value → Option Value
 | some (.agg cs)=>match tfd P st f with
  | some (off,ft)=>match tsz P ft with
   | some (k,ag)=>if ag then some (.agg (cut cs.toList off k).toArray) else cs.toList[off]?
   | none=>none
  | none=>none
 | _=>none
def QeX (t : Nat) : Option Value → Option Nat → Option Value
 | some (.string ⟨⟨l⟩⟩),some j=>bif Q8 P t && Nat.blt j l.length then some (.int .u8 ((l.getD j 0).toNat : Int)) else none
 | some (.agg cs),some j=>match tar P t with
  | some (len,e,sz)=>match tsz P e with
   | some (k,ag)=>bif Nat.blt j len then (if ag then some (.agg (cut cs.toList (j * sz) k).toArray) else cs.toList[j * sz]?) else none
   | none=>none
  | none=>none
 | _,_=>none
def Qj1 (t : Nat) (lo hi : Option Operand) : Option Value → Option Value
 | some (.string ⟨⟨l⟩⟩)=>match loN L lo,hiN L l.length hi with
  | some a,some b=>bif Q8 P t && (Nat.ble a b && Nat.ble b l.length) then some (.string (bs ((l.take b).drop a))) else none
  | _,_=>none
 | some (.slice (some ⟨m,off,none⟩) l c)=>match tsl P t,loN L lo,hiN L l hi with
  | some (_,sz,_),some i,some j=>bif Nat.ble i j && (Nat.ble j c && (Nat.beq i 0 || Nat.blt i c)) then some (.slice (some ⟨m,off + i * sz,none⟩) (j - i) (c - i)) else (bif Nat.beq i c && Nat.beq j c then some (.pointer (some ⟨m,off,some (c * sz)⟩)) else none)
  | _,_,_=>none
 | some (.slice (some ⟨m,off,some q⟩) l c)=>match tsl P t,loN L lo,hiN L l hi with
  | some (_,sz,_),some i,some j=>bif Nat.ble i j && Nat.ble j c then some (.slice (some ⟨m,(if c = i then off else off + i * sz),some q⟩) (j - i) (c - i)) else none
  | _,_,_=>none
 | some (.slice none l c)=>match tsl P t,loN L lo,hiN L l hi with
  | some _,some i,some j=>bif Nat.ble i j && Nat.ble j c then some (.slice none (j - i) (c - i)) else none
  | _,_,_=>none
 | _=>none
def Qhi (t : Nat) (lo : Option Operand) (hi mx : Operand) : Option Value → Option Value
 | some (.slice (some ⟨m,off,_⟩) _ c)=>match tsl P t,loN L lo,vN (opd L hi),vN (opd L mx) with
  | some (_,sz,_),some i,some j,some k=>bif Nat.ble i j && (Nat.ble j k && Nat.ble k c) then some (.slice (some ⟨m,(if k = i then off else off + i * sz),some 0⟩) (j - i) (k - i)) else none
  | _,_,_,_=>none
 | some (.slice none _ c)=>match tsl P t,loN L lo,vN (opd L hi),vN (opd L mx) with
  | some _,some i,some j,some k=>bif Nat.ble i j && (Nat.ble j k && Nat.ble k c) then some (.slice none (j - i) (k - i)) else none
  | _,_,_,_=>none
 | _=>none
def QaQ (st f : Nat) : Option Value → Option Value
 | some (.pointer (some ⟨m,i,none⟩))=>match tfd P st f with
  | some (off,ft)=>match tsz P ft with
   | some (sz,_)=>bif Nat.blt 0 sz then some (.pointer (some ⟨m,i + off,none⟩)) else none
   | none=>none
  | none=>none
 | _=>none
def ZJ (t : Nat) : Option Value → Option Nat → Option Value
 | some (.slice (some ⟨m,off,_⟩) l _),some j=>match tsl P t with
  | some (_,sz,_)=>bif Nat.blt j l then some (.pointer (some ⟨m,off + j * sz,none⟩)) else none
  | none=>none
 | some (.pointer (some ⟨m,i,none⟩)),some j=>match tar P t with
  | some (len,_,sz)=>bif Nat.blt j len then some (.pointer (some ⟨m,i + j * sz,none⟩)) else none
  | none=>none
 | _,_=>none
def Qkr (t : Nat) (parts : List (Nat × Operand)) : Option Value:=match QcN L parts,QL P t with
 | some vs,some z=>bif Xe z then (match Y3 P t with
  | some pl=>match Y8 (fun i=>pl[i]?) z vs with
   | some cs=>some (.agg cs.toArray)
   | none=>none
  | none=>match tar P t with
   | some (_,_,sz)=>match Y8 (fun i=>some (i * sz,sz)) z vs with
    | some cs=>some (.agg cs.toArray)
    | none=>none
   | none=>none) else none
 | _,_=>none
def Qfm (t x : Nat) : Option Value:=match L x with
 | some (.pointer (some ⟨m,i,none⟩))=>match Yl H m,tsz P t with
  | some r,some (sz,ag)=>if ag then (bif Nat.ble (i + sz) r.cs.length then some (.agg (cut r.cs i sz).toArray) else none) else (bif Nat.beq sz 1 then r.cs[i]? else none)
  | _,_=>none
 | _=>none
def QgO (t x : Nat) (y : Operand) : Option Ans:=match L x,opd L y,tsz P t with
 | some (.pointer (some ⟨m,i,none⟩)),some v,some (sz,_)=>match Yl H m with
  | some r=>bif Zw v && (Nat.beq v.cells.toList.length sz && Nat.ble (i + sz) r.cs.length) then some (.h undef (XZ H m { r with cs:=Qe r.cs i v.cells.toList }) n) else none
  | none=>none
 | _,_,_=>none
def QaZ (t : Nat) : Bool:=match P.underlying t with | some (.int .u8)=>true | _=>false
def QeN (src dst : Nat) : Option Value → Option Ans
 | some (.string ⟨⟨l⟩⟩)=>match P.underlying dst with
  | some (.slice e)=>bif Q8 P src && (QaZ P e && (Nat.beq e u8T && Nat.ble l.length maxLen)) then some (.h (.slice (some ⟨n,0,none⟩) l.length l.length) (XZ H n ⟨e,1,l.map fun b=>.int .u8 (b.toNat : Int)⟩) (n + 1)) else none
  | _=>none
 | some (.slice none k c)=>match P.underlying src with
  | some (.slice e)=>bif Q8 P dst && (QaZ P e && Nat.beq k 0) then some (.q (.string (bs []))) else none
  | _=>none
 | some (.slice (some ⟨p,i,q⟩) k c)=>match P.underlying src,Yl H p with
  | some (.slice e),some r=>bif Q8 P dst && (QaZ P e && (Nat.ble (i + k) r.cs.length && ((cut r.cs i k).all QhJ && Xe (cut r.cs i k)))) then some (.q (.string (bs ((cut r.cs i k).map Qa2)))) else (match q with
   | none=>bif Nat.beq src dst && (QaZ P e && Nat.beq r.ty u8T) then some (.h (.slice (some ⟨p,i,none⟩) k c) H n) else none
   | _=>none)
  | _,_=>none
 | some (.pointer (some ⟨_,_,some _⟩))=>match P.underlying src with
  | some (.slice e)=>bif Q8 P dst && QaZ P e then some (.q (.string (bs []))) else none
  | _=>none
 | _=>none
def Qut (t : Nat) : Option Ans:=match QL P t with
 | some z=>bif Xe z then some (.h (.pointer (some ⟨n,0,none⟩)) (XZ H n ⟨t,0,z⟩) (n + 1)) else none
 | none=>none
def Quo (t : Nat) : Option Value → Option Ans
 | some v=>bif Zw v then some (.h (.pointer (some ⟨n,0,none⟩)) (XZ H n ⟨t,0,v.cells.toList⟩) (n + 1)) else none
 | none=>none
def Qpr (z : List Value) (k : Nat) : List Value:=(List.range k).map fun i=>z.getD (i % z.length) default
def Zf (t len : Nat) (parts : List (Nat × Operand)) : Option Ans:=match QcN L parts,tsl P t with
 | some vs,some (e,sz,_)=>match QL P e with
  | some z=>match Y8 (fun i=>some (i * sz,sz)) (Qpr z (len * sz)) vs with
   | some cs=>bif Xe z && (Nat.ble (len * sz) 16777216 && (Nat.blt 0 (len * sz) && Xe (Qpr z (len * sz)))) then some (.h (.slice (some ⟨n,0,none⟩) len len) (XZ H n ⟨e,sz,cs⟩) (n + 1)) else none
   | none=>none
  | none=>none
 | _,_=>none
def QaK (t : Nat) (x y : Operand) : Option Ans:=match opd L x,opd L y,tsl P t with
 | some (.int .i64 (.ofNat k)),some (.int .i64 (.ofNat k')),some (e,sz,by')=>match QL P e with
  | some z=>bif Nat.ble k k' && (Nat.ble (k' * by') 281474976710656 && (Nat.ble k' 16777216 && Xe (Xv z (k' * sz)))) then some (.h (.slice (some ⟨n,0,none⟩) k k') (XZ H n ⟨e,sz,Xv z (k' * sz)⟩) (n + 1)) else none
  | none=>none
 | _,_,_=>none
def Qhs (t xt : Nat) (s y : Operand) : Option Ans:=match opd L s,opd L y,tsl P t with
 | some (.slice a k c),some vy,some (e,sz,by')=>match vy with
  | .int .i64 (.ofNat m)=>match a,QL P e with
   | none,some z=>bif (Nat.beq k 0 && (Nat.beq c 0 && (Nat.beq z.length sz && (Nat.blt 0 sz && Xe (Xv z (m * sz)))))) && ((match tki P xt with | some .i64=>true | _=>false) && (Nat.ble ((0 + m) * by') 140737488355328 && (Nat.ble (0 + m) maxLen && Nat.blt 0 m))) then some (.h (.slice (some ⟨n,0,none⟩) (0 + m) (0 + m)) (XZ H n ⟨e,sz,[] ++ Xv z (m * sz)⟩) (n + 1)) else none
   | _,_=>none
  | _=>match QjY P H xt sz vy with
   | some (m,cs)=>match a with
    | none=>bif Nat.beq k 0 && Nat.beq c 0 then (bif Nat.beq m 0 then some (.h (.slice none 0 0) H n) else match QL P e with
     | some z=>bif Nat.beq z.length sz && (Nat.ble ((0 + m) * by') 140737488355328 && (Nat.ble (0 + m) maxLen && Nat.blt 0 (0 + m))) then some (.h (.slice (some ⟨n,0,none⟩) (0 + m) (0 + m)) (XZ H n ⟨e,sz,[] ++ cs⟩) (n + 1)) else none
     | none=>none) else none
    | some ⟨p,off,q⟩=>bif Nat.beq off 0 then (match Yl H p with
     | some r=>bif Nat.ble (k + m) c then (bif Nat.ble (k * sz + cs.length) r.cs.length then some (.h (.slice (some ⟨p,0,q⟩) (k + m) c) (XZ H p { r with cs:=Qe r.cs (k * sz) cs }) n) else none)
      else (match q,QL P e with
       | none,some z=>bif (Nat.beq z.length sz && (Nat.beq r.ty e && (Nat.beq r.sz sz && (Nat.beq r.cs.length (c * sz) && Nat.blt 0 sz)))) && ((Nat.ble k c && Nat.ble c maxLen) && (Nat.ble ((k + m) * by') 140737488355328 && (Nat.ble (k + m) maxLen && Nat.blt 0 (k + m)))) then some (.h (.slice (some ⟨n,0,none⟩) (k + m) (k + m)) (XZ (QgU H p) n ⟨e,sz,r.cs.take (k * sz) ++ cs⟩) (n + 1)) else none
       | _,_=>none)
     | none=>none) else none
   | none=>none
 | _,_,_=>none
def Qn2 (dt : Nat) (d s : Operand) : Option Ans:=match opd L d,opd L s,tsl P dt with
 | some (.slice (some ⟨p,i,_⟩) k _),some (.slice (some ⟨p2,i2,_⟩) k2 _),some (_,sz,_)=>match Yl H p,Yl H p2 with
  | some r,some r2=>bif Nat.ble (i + min k2 k * sz) r.cs.length && Nat.ble (i2 + min k2 k * sz) r2.cs.length then some (.h (.int .i64 ((min k2 k : Nat) : Int)) (XZ H p { r with cs:=Qe r.cs i (cut r2.cs i2 (min k2 k * sz)) }) n) else none
  | _,_=>none
 | some (.slice (some ⟨p,i,_⟩) k _),some (.string ⟨⟨l⟩⟩),some (_,sz,_)=>match Yl H p with
  | some r=>bif Nat.beq sz 1 && Nat.ble (i + min l.length k) r.cs.length then some (.h (.int .i64 ((min l.length k : Nat) : Int)) (XZ H p { r with cs:=Qe r.cs i ((l.take (min l.length k)).map fun b=>Value.int .u8 (b.toNat : Int)) }) n) else none
  | none=>none
 | _,_,_=>none
def QjB (t : Nat) (x : Operand) : Option Ans:=match opd L x,tsl P t with
 | some (.slice (some ⟨p,i,_⟩) k _),some (e,sz,_)=>match Yl H p,QL P e with
  | some r,some z=>bif Nat.beq z.length sz && (z.all (·.oneCell') && (Nat.blt 0 z.length && (Xe (Xv z (k * sz)) && Nat.ble (i + k * sz) r.cs.length))) then some (.h (.tuple #[]) (XZ H p { r with cs:=Qe r.cs i (Xv z (k * sz)) }) n) else none
  | _,_=>none
 | _,_=>none
def Qdk (b : Builtin) (args : List Operand) (ts : List TypeId) : Option Ans:=match b,args,ts with
 | .len,[x],[t]=>match opd L x with
  | some (.string ⟨⟨l⟩⟩)=>bif Q8 P t then some (.p (.int .i64 (l.length : Int))) else none
  | some (.slice _ k _)=>bif Xf P t then some (.p (.int .i64 (k : Int))) else none
  | some (.pointer (some ⟨_,_,some _⟩))=>bif Xf P t then some (.p (.int .i64 0)) else none
  | _=>none
 | .cap,[x],[t]=>match opd L x with
  | some (.slice none _ c)=>bif Xf P t then some (.p (.int .i64 (c : Int))) else none
  | _=>none
 | .min,[x,y],_=>match opd L x,opd L y with
  | some (.int k a),some (.int k' b)=>bif kEq k k' then some (.p (.int k (if b < a then b else a))) else none
  | _,_=>none
 | .max,[x,y],_=>match opd L x,opd L y with
  | some (.int k a),some (.int k' b)=>bif kEq k k' then some (.p (.int k (if b > a then b else a))) else none
  | _,_=>none
 | .append,[s,y],[t,xt]=>Qhs P L H n t xt s y
 | .copy,[d,s],[dt,_]=>Qn2 P L H n dt d s
 | .clear,[x],[t]=>QjB P L H n t x
 | _,_,_=>none
def QdM (F : CallF) (f : Option Value) (vs : Option (List Value)) : Option Ans:=match f,vs with
 | some (.func (.func g) first cap),some vs=>bif QM P g then (match F.f F.y g (first.toList ++ vs ++ cap.toList) H n with
  | some (v,H',n')=>some (.h v H' n')
  | none=>none) else none
 | some (.func (.yield k) ⟨[]⟩ ⟨[]⟩),some vs=>match F.y k vs H n with
  | some (v,H',n')=>some (.h v H' n')
  | none=>none
 | _,_=>none
def ZZ (t : Nat) : Option Value → Option Value → Option Ans
 | some (.map (some r)),some (.int .i64 a)=>match P.underlying t,Qe6 H r with
  | some (.map kt et),some ks=>match tzv P et,tki P kt with
   | some (.bool false),some .i64=>some (.q (.bool (QhO a ks)))
   | _,_=>none
  | _,_=>none
 | _,_=>none
def Qcv (t : Nat) : Option Value → Option Value → Option Value → Option Ans
 | some (.map (some r)),some (.int .i64 a),some (.bool true)=>match P.underlying t,Qe6 H r with
  | some (.map kt et),some ks=>match tki P kt with
   | some .i64=>some (.h (.tuple #[]) (Yy H r (.mp (bif QhO a ks then ks else ks ++ [a]))) n)
   | _=>none
  | _,_=>none
 | _,_,_=>none
def Xs (F : CallF) : Op → Option Ans
 | .move x=>Qdi (opd L x)
 | .assign x=>Qdi (opd L x)
 | .pick c a b=>match opd L c,opd L a,opd L b with
  | some (.bool t),some x,some y=>some (.p (if t then x else y))
  | _,_,_=>none
 | .binOp op t x y _=>match opd L x,opd L y with
  | some a,some b=>Qdi (Zt P op t a b)
  | _,_=>none
 | .unOp op _ x=>match opd L x with
  | some a=>Qdi (QdG op a)
  | none=>none
 | .convert src dst x=>match opd L x with
  | some a=>match Qa0 P src dst a with
   | some v=>some (.p v)
   | none=>QeN P H n src dst (some a)
  | none=>none
 | .extract x i=>match opd L x with
  | some (.tuple vs)=>Qdi (vs.toList[i]?)
  | _=>none
 | .makeFunc (.func f) first cap=>match Qcx L first.toList,Qcx L cap.toList with
  | some a,some b=>bif a.all Qj3 && b.all Qj3 then some (.p (.func (.func f) a.toArray b.toArray)) else none
  | _,_=>none
 | .nilCheck x=>match opd L x with
  | some (.pointer (some ⟨m,i,none⟩))=>some (.p (.pointer (some ⟨m,i,none⟩)))
  | some (.func (.func f) a b)=>some (.p (.func (.func f) a b))
  | _=>none
 | .field st x f=>Qdi (QeQ P st f (opd L x))
 | .index t x y=>Qdi (QeX P t (opd L x) (vN (opd L y)))
 | .slice t x lo hi none=>Qdi (Qj1 P L t lo hi (opd L x))
 | .slice t x lo (some hi) (some mx)=>Qdi (Qhi P L t lo hi mx (opd L x))
 | .fieldAddr st x f=>Qdi (QaQ P st f (opd L x))
 | .indexAddr t x y=>Qdi (ZJ P t (opd L x) (vN (opd L y)))
 | .build t parts=>Qdi (Qkr P L t parts.toList)
 | .load t (.tmp x)=>match Qfm P L H t x with
  | some v=>some (.q v)
  | none=>none
 | .store t (.tmp x) y=>QgO P L H n t x y
 | .alloc t=>Qut P H n t
 | .box t x=>Quo H n t (opd L x)
 | .buildSlice t 0 ⟨[]⟩=>match tsl P t with
  | some (e,sz,_)=>some (.h (.slice (some ⟨n,0,none⟩) 0 0) (XZ H n ⟨e,sz,[]⟩) (n + 1))
  | none=>none
 | .buildSlice t len parts=>Zf P L H n t len parts.toList
 | .makeSlice t x y=>QaK P L H n t x y
 | .call ⟨.builtin b,args,ts⟩=>Qdk P L H n b args.toList ts.toList
 | .call ⟨.value (.func g),args,_⟩=>match Qcx L args.toList with
  | some vs=>match F.e g vs with
   | some v=>some (.q v)
   | none=>QdM P H n F (some (.func (.func g) #[] #[])) (some vs)
  | none=>none
 | .call ⟨.value f,args,_⟩=>QdM P H n F (opd L f) (Qcx L args.toList)
 | .makeMap t none=>some (.h (.map (some n)) (Yy H n (.mp [])) (n + 1))
 | .lookup t m x false=>ZZ P H t (opd L m) (opd L x)
 | .mapUpdate t m x y=>Qcv P H n t (opd L m) (opd L x) (opd L y)
 | _=>none
end
end Ev
namespace Ev
open Go Go.RowKit
theorem Qq {α : Type} {c : Bool} {x a : α} (h : (bif c then some x else none) = some a) : c = true ∧ x = a:=by grind
theorem Qab {α : Type} {c : Bool} {x : Option α} {a : α} (h : (bif c then x else none) = some a) : c = true ∧ x = some a:=by grind
theorem QcZ {α : Type} {a : Array α} {x : α} (h : a.toList = [x]) : a = #[x]:=by grind
theorem QcM {α : Type} {a : Array α} {x y : α} (h : a.toList = [x,y]) : a = #[x,y]:=by grind
def QlM (w0 : World) (ρ : Rho) (v : Value) (H' : Hp) (n' : Nat) (e : Ending) (w' : World) : Prop:=
 ∃ ρ' As' u,ρ.le ρ' ∧ QN ρ' n' ∧ den ρ' v = some u ∧ HM ρ' H' As' ∧ e = .returned u ∧ HS w0 [] As' w'
def QiO (P : Program) (r0 : Rho) (F : Qjo) : Prop:=∀ f vs H n v H' n',F f vs H n = some (v,H',n') → ∀ (w0 : World) (ρ : Rho) (us : List Value) (As : List HA),r0.le ρ → Qt (den ρ) vs = some us → HM ρ H As → QN ρ n → ∀ w,HS w0 [] As w → Calls P f us.toArray w (QlM w0 ρ v H' n')
def QiQ (P : Program) (E : FuncId → List Value → Option Value) : Prop:=∀ f vs v,E f vs = some v → ∀ (w0 : World) (ρ : Rho) (us : List Value) (As : List HA),Qt (den ρ) vs = some us → ∀ (o : Oper) (L' : Qb) (args : Array Operand) (ts : Array TypeId),o.op = .call { callee:=.value (.func f),args:=args,argTypes:=ts } → evs L' args.toList = some us → ∃ u,den ρ v = some u ∧ OpQ P o L' (HS w0 [] As) u
def YOk (P : Program) (r0 : Rho) (Y : Qnl) : Prop:=∀ k vs H n v H' n',Y k vs H n = some (v,H',n') → ∀ (w0 : World) (ρ : Rho) (us : List Value) (As : List HA),r0.le ρ → Qt (den ρ) vs = some us → HM ρ H As → QN ρ n → ∃ x,ρ k = some x ∧ ∀ w,HS w0 [] As w → Qhl P x.1 us.toArray w (QlM w0 ρ v H' n')
structure CallOk (P : Program) (r0 : Rho) (F : CallF) : Prop where
 f : ∀ r1 Y,YOk P r1 Y → QiO P r1 (F.f Y)
 e : QiQ P F.e
 y : YOk P r0 F.y
def Z5 (P : Program) (o : Oper) (L' : Qb) (w0 : World) (ρ : Rho) (H : Hp) (n : Nat) (As : List HA) : Ans → Prop
 | .p v=>∃ u,OpP P o L' u ∧ den ρ v = some u
 | .q v=>∃ u,OpQ P o L' (HS w0 [] As) u ∧ den ρ v = some u
 | .h v H' n'=>OpT P o L' (HS w0 [] As) (Out w0 ρ v H' n')
section
variable {P : Program} {o : Oper} {L' : Qb} {w0 : World} {ρ : Rho} {L : Env} {H : Hp} {n : Nat} {As : List HA} {F : CallF} {a : Ans}
theorem Qd8 {x : Option Value} (h : Qdi x = some a) (hx : ∀ v,x = some v → ∃ u,OpP P o L' u ∧ den ρ v = some u) : Z5 P o L' w0 ρ H n As a:=by
 cases x with
 | none=>cases h
 | some v=>
  injection h with h
  subst h;exact hx v rfl
theorem Qnd {st f : Nat} {x : Operand} {v : Value} (ho : o.op = .field st x f) (hs : SR ρ L L') (h : QeQ P st f (opd L x) = some v) : ∃ u,OpP P o L' u ∧ den ρ v = some u:=by
 unfold QeQ at h
 grind [QqD]
theorem QmU {t : Nat} {x y : Operand} {v : Value} (ho : o.op = .index t x y) (hs : SR ρ L L') (h : QeX P t (opd L x) (vN (opd L y)) = some v) : ∃ u,OpP P o L' u ∧ den ρ v = some u:=by
 unfold QeX at h;split at h
 ·rename_i l j hx hy;obtain ⟨hc,rfl⟩:=Qq h;simp only [Bool.and_eq_true] at hc;exact QnR ho hs hx hy hc.1 (by simpa [Nat.blt_eq] using hc.2)
 ·rename_i cs j hx hy;split at h
  ·rename_i len e sz h1;split at h
   ·rename_i k ag h2;obtain ⟨hc,h3⟩:=Qab h;exact QrJ ho hs hx hy h1 h2 (by simpa [Nat.blt_eq] using hc) h3
   ·cases h
  ·cases h
 ·cases h
theorem Ql9 {t : Nat} {x : Operand} {lo hi : Option Operand} {v : Value} (ho : o.op = .slice t x lo hi none) (hs : SR ρ L L') (h : Qj1 P L t lo hi (opd L x) = some v) : ∃ u,OpP P o L' u ∧ den ρ v = some u:=by
 unfold Qj1 at h;split at h
 ·rename_i l hx;split at h
  ·rename_i i j h1 h2;obtain ⟨hc,rfl⟩:=Qq h;simp only [Bool.and_eq_true] at hc;exact QpW ho hs hx hc.1 h1 h2 (Nat.le_of_ble_eq_true hc.2.1) (Nat.le_of_ble_eq_true hc.2.2)
  ·cases h
 ·rename_i m off l c hx;split at h
  ·rename_i e sz by' i j h1 h2 h3;cases hb : Nat.ble i j && (Nat.ble j c && (Nat.beq i 0 || Nat.blt i c)) with
   | true=>
    rw [hb] at h;injection h with h
    subst h;simp only [Bool.and_eq_true,Bool.or_eq_true] at hb;exact QrD ho hs hx h1 h2 h3 (Nat.le_of_ble_eq_true hb.1) (Nat.le_of_ble_eq_true hb.2.1) (hb.2.2.imp Nat.eq_of_beq_eq_true (fun h=>by simpa [Nat.blt_eq] using h))
   | false=>
    rw [hb] at h;obtain ⟨hc,rfl⟩:=Qq h;simp only [Bool.and_eq_true] at hc;have e1:=Nat.eq_of_beq_eq_true hc.1;have e2:=Nat.eq_of_beq_eq_true hc.2
    grind [Qok]
  ·cases h
 ·rename_i m off q l c hx;split at h
  ·rename_i e sz by' i j h1 h2 h3;obtain ⟨hc,rfl⟩:=Qq h;simp only [Bool.and_eq_true] at hc;exact Qp7 ho hs hx h1 h2 h3 (Nat.le_of_ble_eq_true hc.1) (Nat.le_of_ble_eq_true hc.2)
  ·cases h
 ·rename_i l c hx;split at h
  ·rename_i y i j h1 h2 h3;obtain ⟨e,sz,by'⟩:=y;obtain ⟨hc,rfl⟩:=Qq h;simp only [Bool.and_eq_true] at hc;exact QoC ho hs hx h1 h2 h3 (Nat.le_of_ble_eq_true hc.1) (Nat.le_of_ble_eq_true hc.2)
  ·cases h
 ·cases h
theorem QjZ {t : Nat} {x hi mx : Operand} {lo : Option Operand} {v : Value} (ho : o.op = .slice t x lo (some hi) (some mx)) (hs : SR ρ L L') (h : Qhi P L t lo hi mx (opd L x) = some v) : ∃ u,OpP P o L' u ∧ den ρ v = some u:=by
 unfold Qhi at h;split at h
 ·rename_i m off q l c hx;split at h
  ·rename_i e sz by' i j k h1 h2 h3 h4;obtain ⟨hc,rfl⟩:=Qq h;simp only [Bool.and_eq_true] at hc;exact QnC ho hs hx h1 h2 h3 h4 (Nat.le_of_ble_eq_true hc.1) (Nat.le_of_ble_eq_true hc.2.1) (Nat.le_of_ble_eq_true hc.2.2)
  ·cases h
 ·rename_i l c hx;split at h
  ·rename_i y i j k h1 h2 h3 h4;obtain ⟨e,sz,by'⟩:=y;obtain ⟨hc,rfl⟩:=Qq h;simp only [Bool.and_eq_true] at hc;exact Qm2 ho hs hx h1 h2 h3 h4 (Nat.le_of_ble_eq_true hc.1) (Nat.le_of_ble_eq_true hc.2.1) (Nat.le_of_ble_eq_true hc.2.2)
  ·cases h
 ·cases h
theorem QfS {st f : Nat} {x : Operand} {v : Value} (ho : o.op = .fieldAddr st x f) (hs : SR ρ L L') (h : QaQ P st f (opd L x) = some v) : ∃ u,OpP P o L' u ∧ den ρ v = some u:=by
 unfold QaQ at h;split at h
 ·rename_i m i hx;split at h
  ·rename_i off ft h1;split at h
   ·rename_i sz ag h2;obtain ⟨hc,rfl⟩:=Qq h
    grind [QiI]
   ·cases h
  ·cases h
 ·cases h
theorem QfU {t : Nat} {x y : Operand} {v : Value} (ho : o.op = .indexAddr t x y) (hs : SR ρ L L') (h : ZJ P t (opd L x) (vN (opd L y)) = some v) : ∃ u,OpP P o L' u ∧ den ρ v = some u:=by
 unfold ZJ at h;split at h
 ·rename_i m off q l c j hx hy;split at h
  ·rename_i e sz by' h1;obtain ⟨hc,rfl⟩:=Qq h;cases q with
   | none=>exact Qij ho hs hx hy h1 (by simpa [Nat.blt_eq] using hc)
   | some q=>exact Qg1 ho hs hx hy h1 (by simpa [Nat.blt_eq] using hc)
  ·cases h
 ·rename_i m i j hx hy;split at h
  ·rename_i len e sz h1;obtain ⟨hc,rfl⟩:=Qq h;exact QhQ ho hs hx hy h1 (by simpa [Nat.blt_eq] using hc)
  ·cases h
 ·cases h
theorem QmE {t : Nat} {parts : Array (Nat × Operand)} {v : Value} (ho : o.op = .build t parts) (hs : SR ρ L L') (h : Qkr P L t parts.toList = some v) : ∃ u,OpP P o L' u ∧ den ρ v = some u:=by
 unfold Qkr at h;split at h
 ·rename_i vs z h1 h2;obtain ⟨hc,h⟩:=Qab h
  grind [QqM,Qqq]
 ·cases h
theorem QoS {t x : Nat} {v : Value} (ho : o.op = .load t (.tmp x)) (hs : SR ρ L L') (hH : HM ρ H As) (h : Qfm P L H t x = some v) : ∃ u,OpQ P o L' (HS w0 [] As) u ∧ den ρ v = some u:=by
 unfold Qfm at h;split at h
 ·rename_i m i hx;split at h
  ·rename_i r sz ag h1 h2;exact QuG ho hs hH hx h1 h2 h
  ·cases h
 ·cases h
theorem Qmb {t x : Nat} {y : Operand} (ho : o.op = .store t (.tmp x) y) (hs : SR ρ L L') (hH : HM ρ H As) (hf : QN ρ n) (h : QgO P L H n t x y = some a) : Z5 P o L' w0 ρ H n As a:=by
 unfold QgO at h;split at h
 ·rename_i m i v sz ag hx hy hz;split at h
  ·rename_i r hg;obtain ⟨hc,rfl⟩:=Qq h;simp only [Bool.and_eq_true] at hc;exact Qq5 ho hs hH hf hx hy hc.1 hg hz (Nat.eq_of_beq_eq_true hc.2.1) (Nat.le_of_ble_eq_true hc.2.2)
  ·cases h
 ·cases h
theorem Qbv {t : Nat} (h : QaZ P t = true) : P.underlying t = some (.int .u8):=by grind [QaZ]
theorem Qqh {src dst : Nat} {x : Operand} {v : Value} (ho : o.op = .convert src dst x) (hs : SR ρ L L') (hH : HM ρ H As) (hf : QN ρ n) (hx : opd L x = some v) (h : QeN P H n src dst (some v) = some a) : Z5 P o L' w0 ρ H n As a:=by
 unfold QeN at h;split at h
 ·rename_i l hv;injection hv with hv
  subst hv;split at h
  ·rename_i e h1;obtain ⟨hc,rfl⟩:=Qq h;simp only [Bool.and_eq_true] at hc;exact Qq6 ho hs hx (X4 hc.1) h1 (Qbv hc.2.1) (Nat.eq_of_beq_eq_true hc.2.2.1) (Nat.le_of_ble_eq_true hc.2.2.2) hH hf
  ·cases h
 ·rename_i k c hv;injection hv with hv
  subst hv;split at h
  ·rename_i e h1;obtain ⟨hc,rfl⟩:=Qq h;simp only [Bool.and_eq_true] at hc;have hk:=Nat.eq_of_beq_eq_true hc.2.2;subst hk;exact QmN (k:=0) ho hs hx h1 hc.1 (Qbv hc.2.1)
  ·cases h
 ·rename_i p i q k c hv;injection hv with hv
  subst hv;split at h
  ·rename_i e r h1 h2;cases hb : Q8 P dst && (QaZ P e && (Nat.ble (i + k) r.cs.length && ((cut r.cs i k).all QhJ && Xe (cut r.cs i k)))) with
   | true=>
    rw [hb] at h;injection h with h
    subst h;simp only [Bool.and_eq_true] at hb;exact Qme ho hs hH hx h1 hb.1 (Qbv hb.2.1) h2 (Nat.le_of_ble_eq_true hb.2.2.1) hb.2.2.2.1 hb.2.2.2.2
   | false=>
    rw [hb] at h;simp only [cond_false] at h;split at h
    ·obtain ⟨hc,rfl⟩:=Qq h;simp only [Bool.and_eq_true] at hc;have e1:=Nat.eq_of_beq_eq_true hc.1;subst e1;exact Qrq ho hs hH hf hx h1 (Qbv hc.2.1) h2 (Nat.eq_of_beq_eq_true hc.2.2)
    ·cases h
  ·cases h
 ·rename_i p i q hv;injection hv with hv
  subst hv;split at h
  ·rename_i e h1;obtain ⟨hc,rfl⟩:=Qq h;simp only [Bool.and_eq_true] at hc;exact Qm6 ho hs hx h1 hc.1 (Qbv hc.2)
  ·cases h
 ·cases h
theorem Qe1 {t len : Nat} {parts : Array (Nat × Operand)} (ho : o.op = .buildSlice t len parts) (hs : SR ρ L L') (hH : HM ρ H As) (hf : QN ρ n) (h : Zf P L H n t len parts.toList = some a) : Z5 P o L' w0 ρ H n As a:=by
 unfold Zf at h;split at h
 ·rename_i vs e sz by' h1 h2;split at h
  ·rename_i z h3;split at h
   ·rename_i cs h4;obtain ⟨hc,rfl⟩:=Qq h;simp only [Bool.and_eq_true] at hc;exact Qho ho hs h1 h2 h3 hc.1 hc.2.1 hc.2.2.1 h4 hc.2.2.2 hH hf
   ·cases h
  ·cases h
 ·cases h
theorem Qf3 {t : Nat} {x y : Operand} (ho : o.op = .makeSlice t x y) (hs : SR ρ L L') (hH : HM ρ H As) (hf : QN ρ n) (h : QaK P L H n t x y = some a) : Z5 P o L' w0 ρ H n As a:=by
 unfold QaK at h;split at h
 ·rename_i k k' e sz by' hx hy ht;split at h
  ·rename_i z hz;obtain ⟨hc,rfl⟩:=Qq h;simp only [Bool.and_eq_true] at hc;exact Qic ho hs hx hy (Nat.le_of_ble_eq_true hc.1) ht hz (Nat.le_of_ble_eq_true hc.2.1) (Nat.le_of_ble_eq_true hc.2.2.1) hc.2.2.2 hH hf
  ·cases h
 ·cases h
theorem QjC {t xt : Nat} {s y : Operand} (ho : o.op = .call { callee:=.builtin .append,args:=#[s,y],argTypes:=#[t,xt] }) (hs : SR ρ L L') (hH : HM ρ H As) (hf : QN ρ n) (h : Qhs P L H n t xt s y = some a) : Z5 P o L' w0 ρ H n As a:=by
 unfold Qhs at h;split at h
 ·rename_i a0 k c vy e sz by' hx hy ht;split at h
  ·rename_i m;split at h
   ·rename_i z hz;obtain ⟨hc,rfl⟩:=Qq h;simp only [Bool.and_eq_true] at hc;obtain ⟨⟨c1,c2,c3,c4,c5⟩,c6,c7,c8,c9⟩:=hc;have hk:=Nat.eq_of_beq_eq_true c1;have hc0:=Nat.eq_of_beq_eq_true c2;subst hk hc0;refine Qmh ho hs hH hf hx hy ?_ ht hz (Nat.eq_of_beq_eq_true c3) (by simpa [Nat.blt_eq] using c4) c5 (Nat.le_of_ble_eq_true c7) (Nat.le_of_ble_eq_true c8) (by simpa [Nat.blt_eq] using c9)
    grind
   ·cases h
  ·split at h
   ·rename_i m cs hsrc;split at h
    ·obtain ⟨hc,h⟩:=Qab h;simp only [Bool.and_eq_true] at hc;have hk:=Nat.eq_of_beq_eq_true hc.1;have hc0:=Nat.eq_of_beq_eq_true hc.2;subst hk hc0;cases hm : Nat.beq m 0 with
     | true=>
      rw [hm] at h;have hm:=Nat.eq_of_beq_eq_true hm;subst hm;injection h with h
      subst h;exact Qmx ho hs hH hf hx hy ht hsrc
     | false=>
      rw [hm] at h;simp only [cond_false] at h;split at h
      ·rename_i z hz;obtain ⟨hc,rfl⟩:=Qq h;simp only [Bool.and_eq_true] at hc;exact Qmy ho hs hH hf hx hy ht hz (Nat.eq_of_beq_eq_true hc.1) hsrc (Nat.le_of_ble_eq_true hc.2.1) (Nat.le_of_ble_eq_true hc.2.2.1) (by simpa [Nat.blt_eq] using hc.2.2.2)
      ·cases h
    ·rename_i p off q;obtain ⟨hc,h⟩:=Qab h;have ho0:=Nat.eq_of_beq_eq_true hc;subst ho0;split at h
     ·rename_i r hg;cases hfit : Nat.ble (k + m) c with
      | true=>
       rw [hfit] at h;obtain ⟨hc,rfl⟩:=Qq h;exact Qnb ho hs hH hf hx hy ht hsrc hg (Nat.le_of_ble_eq_true hfit) (Nat.le_of_ble_eq_true hc)
      | false=>
       rw [hfit] at h;simp only [cond_false] at h;split at h
       ·rename_i z hz _;obtain ⟨hc,rfl⟩:=Qq h;simp only [Bool.and_eq_true] at hc;obtain ⟨⟨c1,c2,c3,c4,c5⟩,⟨c6,c7⟩,c8,c9,c10⟩:=hc;exact Qmm ho hs hH hf hx hy ht hz (Nat.eq_of_beq_eq_true c1) hsrc hg (Nat.eq_of_beq_eq_true c2) (Nat.eq_of_beq_eq_true c3) (Nat.eq_of_beq_eq_true c4) (by simpa [Nat.blt_eq] using c5) (Nat.le_of_ble_eq_true c6) (Nat.le_of_ble_eq_true c7) (Nat.le_of_ble_eq_true c8) (Nat.le_of_ble_eq_true c9) (by simpa [Nat.blt_eq] using c10)
       ·cases h
     ·cases h
   ·cases h
 ·cases h
theorem QpH {dt st : Nat} {d s : Operand} (ho : o.op = .call { callee:=.builtin .copy,args:=#[d,s],argTypes:=#[dt,st] }) (hs : SR ρ L L') (hH : HM ρ H As) (hf : QN ρ n) (h : Qn2 P L H n dt d s = some a) : Z5 P o L' w0 ρ H n As a:=by
 unfold Qn2 at h;split at h
 ·rename_i p i q k c p2 i2 q2 k2 c2 e sz by' hd hx ht;split at h
  ·rename_i r r2 hg hg2;obtain ⟨hc,rfl⟩:=Qq h;simp only [Bool.and_eq_true] at hc;exact QuV ho hs hH hf hd hx ht hg hg2 (Nat.le_of_ble_eq_true hc.1) (Nat.le_of_ble_eq_true hc.2)
  ·cases h
 ·rename_i p i q k c l e sz by' hd hx ht;split at h
  ·rename_i r hg;obtain ⟨hc,rfl⟩:=Qq h;simp only [Bool.and_eq_true] at hc;have h1:=Nat.eq_of_beq_eq_true hc.1;subst h1;exact Qrn ho hs hH hf hd hx ht hg (Nat.le_of_ble_eq_true hc.2)
  ·cases h
 ·cases h
theorem Qm1 {t : Nat} {x : Operand} (ho : o.op = .call { callee:=.builtin .clear,args:=#[x],argTypes:=#[t] }) (hs : SR ρ L L') (hH : HM ρ H As) (hf : QN ρ n) (h : QjB P L H n t x = some a) : Z5 P o L' w0 ρ H n As a:=by
 unfold QjB at h;split at h
 ·rename_i p i q k c e sz by' hx ht;split at h
  ·rename_i r z hg hz;obtain ⟨hc,rfl⟩:=Qq h;simp only [Bool.and_eq_true] at hc;obtain ⟨c1,c2,c3,c4,c5⟩:=hc;exact QqB ho hs hH hf hx ht hz (Nat.eq_of_beq_eq_true c1) c2 c3 c4 hg (Nat.le_of_ble_eq_true c5)
  ·cases h
 ·cases h
theorem QpD {vs us : List Value} (h : Qt (XJ ρ) vs = some us) : Qt (den ρ) vs = some us:=Xi (fun a b e=>Qb0 (QaC (Qo2 e))) h
theorem Qi8 {f : Operand} {args : Array Operand} {ts : Array TypeId} {r0 : Rho} (hF : CallOk P r0 F) (h0 : r0.le ρ) (ho : o.op = .call { callee:=.value f,args:=args,argTypes:=ts }) (hs : SR ρ L L') (hH : HM ρ H As) (hf : QN ρ n) (h : QdM P H n F (opd L f) (Qcx L args.toList) = some a) : Z5 P o L' w0 ρ H n As a:=by
 unfold QdM at h;split at h
 ·rename_i g first cap vs hx hvs
  obtain ⟨hc,h⟩:=Qab h;split at h
  ·rename_i v H' n' hr;injection h with h
   subst h;obtain ⟨u,e1,e2⟩:=YJ hs hx;simp only [den,Xq,QP,Qb5] at e2;split at e2
   ·rename_i f' a' b' g1 g2 g3;injection g1 with g1
    subst g1;injection e2 with e2
    subst e2;obtain ⟨us,e3,e4⟩:=Qdv hs hvs;have hall:=Zl (Zl (QpD g2) e4) (QpD g3);refine ⟨{ x : Rho × List HA × Value // ρ.le x.1 ∧ QN x.1 n' ∧ den x.1 v = some x.2.2 ∧ HM x.1 H' x.2.1 },fun x=>x.1.2.2,fun _=>True,fun x=>HS w0 [] x.1.2.1,fun ag w hρ hw=>?_,fun x _=>⟨x.1.1,x.1.2.1,x.2.1,x.2.2.1,x.2.2.2.1,x.2.2.2.2,fun _ h=>h⟩⟩;rw [Qan ho hρ e1 hc e3];have hcall:=hF.f r0 F.y hF.y _ _ _ _ _ _ _ hr w0 ρ _ As h0 hall hH hf w hw;have hargs : (a' ++ us ++ b').toArray = a'.toArray ++ us.toArray ++ b'.toArray:=by simp
    rw [hargs] at hcall;exact Calls.mono hcall fun e w' ⟨ρ',As',u',h1,h2,h3,h4,h5,h6⟩=>⟨u',h5,⟨(ρ',As',u'),h1,h2,h3,h4⟩,rfl,trivial,h6⟩
   ·cases e2
  ·cases h
 ·rename_i k vs hx hvs;split at h
  ·rename_i v H' n' hr;injection h with h
   subst h;obtain ⟨u,e1,e2⟩:=YJ hs hx;obtain ⟨us,e3,e4⟩:=Qdv hs hvs;obtain ⟨x,hk,hy⟩:=hF.y _ _ _ _ _ _ _ hr w0 ρ us As h0 e4 hH hf;simp only [den,Xq,QP,Qb5,hk,Qt,Option.some.injEq] at e2;subst e2;refine ⟨{ x : Rho × List HA × Value // ρ.le x.1 ∧ QN x.1 n' ∧ den x.1 v = some x.2.2 ∧ HM x.1 H' x.2.1 },fun x=>x.1.2.2,fun _=>True,fun x=>HS w0 [] x.1.2.1,?_,fun x _=>⟨x.1.1,x.1.2.1,x.2.1,x.2.2.1,x.2.2.2.1,x.2.2.2.2,fun _ h=>h⟩⟩;refine Qrb (l:=x.1) ho e1 e3 fun w hw=>?_;obtain ⟨f,tmps,assign,body,y1,y2⟩:=hy w hw;exact ⟨f,tmps,assign,body,y1,RoundIn.mono y2 fun e w' ⟨ρ',As',u',h1,h2,h3,h4,h5,h6⟩=>⟨⟨(ρ',As',u'),h1,h2,h3,h4⟩,h5,trivial,h6⟩⟩
  ·cases h
 ·cases h
theorem QiT {b : Builtin} {args : Array Operand} {ts : Array TypeId} (ho : o.op = .call { callee:=.builtin b,args:=args,argTypes:=ts }) (hs : SR ρ L L') (hH : HM ρ H As) (hf : QN ρ n) (h : Qdk P L H n b args.toList ts.toList = some a) : Z5 P o L' w0 ρ H n As a:=by
 unfold Qdk at h;split at h
 ·rename_i x t h1 h2;rw [QcZ h1,QcZ h2] at ho;split at h
  ·rename_i l hx;obtain ⟨hc,rfl⟩:=Qq h;exact QuN ho hs hx hc
  ·rename_i p k c hx;obtain ⟨hc,rfl⟩:=Qq h;exact Quy ho hs hx hc
  ·rename_i p i q hx;obtain ⟨hc,rfl⟩:=Qq h;exact QuX ho hs hx hc
  ·cases h
 ·rename_i x t h1 h2;rw [QcZ h1,QcZ h2] at ho;split at h
  ·rename_i k c hx;obtain ⟨hc,rfl⟩:=Qq h;exact Qug ho hs hx hc
  ·cases h
 ·rename_i x y h1;rw [QcM h1] at ho;split at h
  ·rename_i k p k' q hx hy;obtain ⟨hc,rfl⟩:=Qq h;exact QtX ho hs hx hy hc
  ·cases h
 ·rename_i x y h1;rw [QcM h1] at ho;split at h
  ·rename_i k p k' q hx hy;obtain ⟨hc,rfl⟩:=Qq h;exact Qs6 ho hs hx hy hc
  ·cases h
 ·grind [QcM,QjC]
 ·grind [QcM,QpH]
 ·grind [QcZ,Qm1]
 ·cases h
theorem Qkh {t : Nat} {m x : Operand} (ho : o.op = .lookup t m x false) (hs : SR ρ L L') (hH : HM ρ H As) (h : ZZ P H t (opd L m) (opd L x) = some a) : Z5 P o L' w0 ρ H n As a:=by
 unfold ZZ at h;split at h
 ·rename_i r k h1 h2;split at h
  ·rename_i kt et ks h3 h4;split at h
   ·rename_i h5 h6;injection h with h
    subst h;exact QpU ho hs hH h1 h2 h3 h5 h6 h4
   ·cases h
  ·cases h
 ·cases h
theorem Qf2 {t : Nat} {m x y : Operand} (ho : o.op = .mapUpdate t m x y) (hs : SR ρ L L') (hH : HM ρ H As) (hf : QN ρ n) (h : Qcv P H n t (opd L m) (opd L x) (opd L y) = some a) : Z5 P o L' w0 ρ H n As a:=by
 unfold Qcv at h;split at h
 ·rename_i r k h1 h2 h2';split at h
  ·rename_i kt et ks h3 h4;split at h
   ·rename_i h6;injection h with h
    subst h;exact Qjj (.inl ho) hs hH hf h1 h2 h2' h3 h6 h4
   ·cases h
  ·cases h
 ·cases h
theorem Z1 {op : Op} {r0 : Rho} (hF : CallOk P r0 F) (h0 : r0.le ρ) (ho : o.op = op) (hs : SR ρ L L') (hH : HM ρ H As) (hf : QN ρ n) (h : Xs P L H n F op = some a) : Z5 P o L' w0 ρ H n As a:=by
 unfold Xs at h;split at h
 ·exact Qd8 h fun v hv=>QnL (.inl ho) hs hv
 ·exact Qd8 h fun v hv=>QnL (.inr ho) hs hv
 ·split at h
  ·rename_i t x y h1 h2 h3;injection h with h
   subst h;exact QuF ho hs h1 h2 h3
  ·cases h
 ·grind [Qd8,Qva]
 ·split at h
  ·rename_i x h1;exact Qd8 h fun v hv=>un_R ho hs h1 hv
  ·cases h
 ·split at h
  ·rename_i x h1;split at h
   ·rename_i v hv;injection h with h
    subst h;exact QsO ho hs h1 hv
   grind [Qqh]
  ·cases h
 ·split at h
  ·rename_i vs h1;exact Qd8 h fun v hv=>Qmq ho hs h1 hv
  ·cases h
 ·split at h
  ·rename_i x y h1 h2;obtain ⟨hc,rfl⟩:=Qq h;simp only [Bool.and_eq_true] at hc;exact Qj8 ho hs h1 h2 hc.1 hc.2
  ·cases h
 ·split at h
  ·rename_i m i h1;injection h with h
   subst h;exact Qkc ho hs h1
  ·rename_i f x y h1;injection h with h
   subst h;exact QhV ho hs h1
  ·cases h
 ·grind [Qd8,Qnd]
 ·grind [Qd8,QmU]
 ·grind [Qd8,Ql9]
 ·grind [Qd8,QjZ]
 ·grind [Qd8,QfS]
 ·grind [Qd8,QfU]
 ·grind [Qd8,QmE]
 ·split at h
  ·rename_i v hv;injection h with h
   subst h;exact QoS ho hs hH hv
  ·cases h
 ·exact Qmb ho hs hH hf h
 ·unfold Qut at h;split at h
  ·rename_i z hz;obtain ⟨hc,rfl⟩:=Qq h;exact QrY ho hz hc hH hf
  ·cases h
 ·unfold Quo at h;split at h
  ·rename_i v hv;obtain ⟨hc,rfl⟩:=Qq h;exact Qvl ho hs hv hc hH hf
  ·cases h
 ·split at h
  ·rename_i e sz by' ht;injection h with h
   subst h;exact QfZ ho ht hH hf
  ·cases h
 ·exact Qe1 ho hs hH hf h
 ·exact Qf3 ho hs hH hf h
 ·exact QiT ho hs hH hf h
 ·rename_i g args ts;split at h
  ·rename_i vs hvs;split at h
   ·rename_i v hv;injection h with h
    subst h;obtain ⟨us,e3,e4⟩:=Qdv hs hvs;obtain ⟨u,e5,e6⟩:=hF.e _ _ _ hv w0 ρ us As e4 o L' args ts ho e3;exact ⟨u,e6,e5⟩
   ·exact Qi8 hF h0 ho hs hH hf (by rw [hvs];exact h)
  ·cases h
 ·grind [Qi8]
 ·injection h with h
  subst h;exact Ql5 ho hH hf
 ·exact Qkh ho hs hH h
 ·exact Qf2 ho hs hH hf h
 ·cases h
end
end Ev
namespace Ev
open Go Go.RowKit
structure Clo (α : Type) where
 run : α
noncomputable def en (T : Tr Value) : Env:=fun t=>Yx (pth t) t T
inductive An where
 | no
 | p (v : Value)
 | q (m : Option Nat) (v : Value)
 | new (v : Value) (x : HX)
 | h (v : Value) (H : Hp) (n : Nat)
abbrev VF:=Tr Value → Option Value
abbrev OpF:=CallF → Tr Value → Hp → Nat → An
def Qs4 (P : Program) (op : Op) (F : CallF) (T : Tr Value) (H : Hp) (n : Nat) : An → Prop
 | .no=>True
 | .p v=>Xs P (en T) H n F op = some (.p v)
 | .q m v=>(∀ H2,(∀ k,m = some k → Yd H2 k = Yd H k) → Xs P (en T) H2 n F op = some (.q v)) ∧ ∀ k,m = some k → ∃ r,Yd H k = some r
 | .new v x=>Xs P (en T) H n F op = some (.h v (Yy H n x) (n + 1))
 | .h v H' n'=>Xs P (en T) H n F op = some (.h v H' n')
def ZS (P : Program) (op : Op) (f : OpF) : Prop:=∀ F,True → ∀ T H n,Qs4 P op F T H n (f F T H n)
noncomputable def anP : Option Value → An:=fun x=>Option.rec .no (fun v=>.p v) x
theorem QjX {P : Program} {op : Op} {F : CallF} {T : Tr Value} {H : Hp} {n : Nat} {x : Option Value} (h : ∀ v,x = some v → Xs P (en T) H n F op = some (.p v)) : Qs4 P op F T H n (anP x):=by
 cases x with
 | none=>trivial
 | some v=>exact h v rfl
noncomputable def fbF (P : Program) (op : Op) : OpF:=fun F T H n=>match Xs P (en T) H n F op with
 | some (.p v)=>.p v
 | some (.h v H n)=>.h v H n
 | _=>.no
theorem Qqs (P : Program) (op : Op) : ZS P op (fbF P op):=by
 intro F hF T H n;unfold fbF;split <;> first | assumption | trivial
noncomputable def QrQ (l : List Value) : Nat → Option Value:=List.rec (fun _=>none) (fun a _ ih i=>Nat.rec (some a) (fun j _=>ih j) i) l
theorem Qey : ∀ (l : List Value) (i : Nat),QrQ l i = l[i]?
 | [],i=>by cases i <;> rfl
 | a :: l,0=>rfl
 | a :: l,i + 1=>Qey l i
noncomputable def Qjk (l : List Value) : Nat → Option (List Value):=
 List.rec (fun n=>Nat.rec (some []) (fun _ _=>none) n) (fun a _ ih n=>Nat.rec (some []) (fun j _=>Option.rec none (fun m=>some (a :: m)) (ih j)) n) l
theorem Qfc : ∀ (l : List Value) (n : Nat) {c : List Value},Qjk l n = some c → n ≤ l.length ∧ c = l.take n
 | [],0,c,h=>by cases h;exact ⟨Nat.le_refl _,rfl⟩
 | [],n + 1,c,h=>by cases h
 | a :: l,0,c,h=>by cases h;exact ⟨Nat.zero_le _,rfl⟩
 | a :: l,n + 1,c,h=>by
  have h' : (Option.rec none (fun m=>some (a :: m)) (Qjk l n) : Option (List Value)) = some c:=h;cases hm : Qjk l n with
  | none=>rw [hm] at h';cases h'
  | some m=>
   rw [hm] at h';injection h' with h'
   obtain ⟨h1,h2⟩:=Qfc l n hm
   grind
noncomputable def QqR (l : List Value) : Nat → Nat → Option (List Value):=
 List.rec (fun i n=>Nat.rec (Qjk [] n) (fun _ _=>none) i) (fun a t ih i n=>Nat.rec (Qjk (a :: t) n) (fun j _=>ih j n) i) l
theorem Qeu : ∀ (l : List Value) (i n : Nat) {c : List Value},QqR l i n = some c → i + n ≤ l.length ∧ c = cut l i n
 | [],0,n,c,h=>by
  obtain ⟨h1,h2⟩:=Qfc [] n h;exact ⟨by omega,h2⟩
 | [],i + 1,n,c,h=>by cases h
 | a :: l,0,n,c,h=>by
  obtain ⟨h1,h2⟩:=Qfc (a :: l) n h;exact ⟨by omega,h2⟩
 | a :: l,i + 1,n,c,h=>by
  obtain ⟨h1,h2⟩:=Qeu l i n h
  grind [cut]
noncomputable def QoU (vs : List Value) : List Value → Option (List Value):=
 List.rec (fun l=>some l) (fun v _ ih l=>List.rec none (fun _ l' _=>Option.rec none (fun m=>some (v :: m)) (ih l')) l) vs
noncomputable def setO (l : List Value) : Nat → List Value → Option (List Value):=
 List.rec (fun i vs=>Nat.rec (QoU vs []) (fun _ _=>none) i) (fun a t ih i vs=>Nat.rec (QoU vs (a :: t)) (fun j _=>Option.rec none (fun m=>some (a :: m)) (ih j vs)) i) l
theorem YM (a : Value) : ∀ (vs l : List Value) (i : Nat),Qe (a :: l) (i + 1) vs = a :: Qe l i vs
 | [],l,i=>rfl
 | v :: vs,l,i=>by simp_all [Qe,YM]
theorem QhP : ∀ (vs l : List Value) {m : List Value},QoU vs l = some m → vs.length ≤ l.length ∧ m = Qe l 0 vs
 | [],l,m,h=>by cases h;exact ⟨Nat.zero_le _,rfl⟩
 | v :: vs,[],m,h=>by cases h
 | v :: vs,a :: l,m,h=>by
  have h' : (Option.rec none (fun m=>some (v :: m)) (QoU vs l) : Option (List Value)) = some m:=h;cases hm : QoU vs l with
  | none=>rw [hm] at h';cases h'
  | some x=>
   rw [hm] at h';injection h' with h'
   obtain ⟨h1,h2⟩:=QhP vs l hm
   grind [Qe,YM]
theorem Qkw : ∀ (l : List Value) (i : Nat) (vs : List Value) {m : List Value},setO l i vs = some m → i + vs.length ≤ l.length ∧ m = Qe l i vs
 | [],0,vs,m,h=>by
  obtain ⟨h1,h2⟩:=QhP vs [] h
  grind
 | [],i + 1,vs,m,h=>by cases h
 | a :: l,0,vs,m,h=>by
  obtain ⟨h1,h2⟩:=QhP vs (a :: l) h
  grind
 | a :: l,i + 1,vs,m,h=>by
  have h' : (Option.rec none (fun m=>some (a :: m)) (setO l i vs) : Option (List Value)) = some m:=h;cases hm : setO l i vs with
  | none=>rw [hm] at h';cases h'
  | some x=>
   rw [hm] at h';injection h' with h'
   obtain ⟨h1,h2⟩:=Qkw l i vs hm
   grind [YM]
def Qd3 : IntKind → Nat
 | .i8=>128
 | .i16=>32768
 | .i32=>2147483648
 | .i64=>9223372036854775808
 | .u8=>256
 | .u16=>65536
 | .u32=>4294967296
 | .u64=>18446744073709551616
def fw (k : IntKind) (z : Nat) : Int:=bif Nat.blt z (Qd3 k) then .ofNat z else k.wrap (.ofNat z)
theorem QeF {k : IntKind} {z : Nat} (h : z < Qd3 k) : k.wrap (z : Int) = (z : Int):=by
 cases k <;> simp only [Qd3] at h <;> (simp only [IntKind.wrap,IntKind.signed,IntKind.bits];simp;omega)
theorem Qgs (k : IntKind) (z : Nat) : fw k z = k.wrap (z : Int):=by
 unfold fw;cases hb : Nat.blt z (Qd3 k) with
 | true=>exact (QeF (by simpa [Nat.blt_eq] using hb)).symm
 | false=>rfl
end Ev
namespace Ev
open Go Go.RowKit
theorem QeH {op : BinOp} {k : IntKind} {x y : Nat} (hx : x < Qd3 k) (hy : y < Qd3 k) : bits .and k (x : Int) (y : Int) = ((x &&& y : Nat) : Int) ∧ bits .or k (x : Int) (y : Int) = k.wrap ((x ||| y : Nat) : Int):=by
 have hb : Qd3 k ≤ 2 ^ k.bits:=by cases k <;> simp [Qd3,IntKind.bits]
 have ex : (BitVec.ofInt k.bits (x : Int)).toNat = x:=YC _ _ (by omega);have ey : (BitVec.ofInt k.bits (y : Int)).toNat = y:=YC _ _ (by omega);constructor
 ·show k.wrap (((BitVec.ofInt k.bits (x : Int)) &&& (BitVec.ofInt k.bits (y : Int)) : BitVec k.bits).toNat : Int) = _;rw [BitVec.toNat_and,ex,ey];exact QeF (Nat.lt_of_le_of_lt Nat.and_le_left hx)
 ·show k.wrap (((BitVec.ofInt k.bits (x : Int)) ||| (BitVec.ofInt k.bits (y : Int)) : BitVec k.bits).toNat : Int) = _
  grind
theorem d_eq (x y : Nat) : decide (Int.ofNat x = Int.ofNat y) = Nat.beq x y:=by
 rw [Bool.eq_iff_iff,decide_eq_true_eq,Nat.beq_eq];constructor
 ·intro h;injection h
 ·intro h;rw [h]
abbrev IF:=IntKind → Nat → Nat → Option Value
noncomputable def Qix : BinOp → Option (Clo IF)
 | .add=>some ⟨fun k x y=>some (.int k (fw k (Nat.add x y)))⟩
 | .sub=>some ⟨fun k x y=>bif Nat.ble y x then some (.int k (fw k (Nat.sub x y))) else some (.int k (k.wrap (Int.subNatNat x y)))⟩
 | .mul=>some ⟨fun k x y=>some (.int k (fw k (Nat.mul x y)))⟩
 | .eql=>some ⟨fun _ x y=>some (.bool (Nat.beq x y))⟩
 | .neq=>some ⟨fun _ x y=>some (.bool (Bool.not (Nat.beq x y)))⟩
 | .lss=>some ⟨fun _ x y=>some (.bool (Nat.blt x y))⟩
 | .leq=>some ⟨fun _ x y=>some (.bool (Nat.ble x y))⟩
 | .gtr=>some ⟨fun _ x y=>some (.bool (Nat.blt y x))⟩
 | .geq=>some ⟨fun _ x y=>some (.bool (Nat.ble y x))⟩
 | .and=>some ⟨fun k x y=>bif Nat.blt x (Qd3 k) && Nat.blt y (Qd3 k) then some (.int k (.ofNat (Nat.land x y))) else none⟩
 | .or=>some ⟨fun k x y=>bif Nat.blt x (Qd3 k) && Nat.blt y (Qd3 k) then some (.int k (fw k (Nat.lor x y))) else none⟩
 | .quo=>some ⟨fun k x y=>bif Nat.beq y 0 then none else some (.int k (fw k (Nat.div x y)))⟩
 | .rem=>some ⟨fun k x y=>bif Nat.beq y 0 then none else some (.int k (.ofNat (Nat.mod x y)))⟩
 | _=>none
theorem Qoq {op : BinOp} {c : Clo IF} {k : IntKind} {x y : Nat} {v : Value} (P : Program) (t : TypeId) (h : Qix op = some c) (hv : c.run k x y = some v) : Zt P op t (.int k (.ofNat x)) (.int k (.ofNat y)) = some v:=by
 have hk : kEq k k = true:=by cases k <;> rfl
 unfold Qix at h;split at h <;> first | (injection h with h;subst h) | cases h
 ·grind [Zt,Xb,XK,Qgs]
 ·cases hb : Nat.ble y x with
  | true=>
   simp only [hb,cond_true] at hv;injection hv with hv;subst hv
   simp only [Zt,Xb,hk,cond_true,XK];rw [Qgs];have:=Nat.le_of_ble_eq_true hb
   grind
  | false=>grind [Zt,Xb,XK]
 ·grind [Zt,Xb,XK,Qgs]
 ·grind [Zt,Xb,XK,d_eq]
 ·grind [Zt,Xb,XK,d_eq]
 ·injection hv with hv;subst hv
  simp only [Zt,Xb,hk,cond_true,XK];congr 2;rw [Bool.eq_iff_iff];simp [Nat.blt_eq]
 ·injection hv with hv;subst hv
  simp only [Zt,Xb,hk,cond_true,XK];congr 2;rw [Bool.eq_iff_iff];simp [Nat.ble_eq]
 ·injection hv with hv;subst hv
  simp only [Zt,Xb,hk,cond_true,XK];congr 2;rw [Bool.eq_iff_iff];simp [Nat.blt_eq]
 ·injection hv with hv;subst hv
  simp only [Zt,Xb,hk,cond_true,XK];congr 2;rw [Bool.eq_iff_iff];simp [Nat.ble_eq]
 ·obtain ⟨hc,rfl⟩:=Qq hv;simp only [Bool.and_eq_true,Nat.blt_eq] at hc;simp only [Zt,Xb,hk,cond_true,XK];rw [show bits .and k (Int.ofNat x) (Int.ofNat y) = _ from (QeH (op:=.and) hc.1 hc.2).1];rfl
 ·obtain ⟨hc,rfl⟩:=Qq hv;simp only [Bool.and_eq_true,Nat.blt_eq] at hc;simp only [Zt,Xb,hk,cond_true,XK];rw [show bits .or k (Int.ofNat x) (Int.ofNat y) = _ from (QeH (op:=.or) hc.1 hc.2).2,Qgs];rfl
 ·cases hb : Nat.beq y 0 with
  | true=>simp only [hb,cond_true] at hv;cases hv
  | false=>
   simp only [hb,cond_false] at hv;injection hv with hv;subst hv
   have hy : y ≠ 0:=fun e=>by subst e;cases hb
   have h0 : decide ((Int.ofNat y) = 0) = false:=by simpa using hy
   simp only [Zt,Xb,hk,cond_true,XK,h0,Bool.not_false,Bool.and_true];rw [Qgs];rfl
 ·cases hb : Nat.beq y 0 with
  | true=>simp only [hb,cond_true] at hv;cases hv
  | false=>
   simp only [hb,cond_false] at hv;injection hv with hv;subst hv
   have hy : y ≠ 0:=fun e=>by subst e;cases hb
   have h0 : decide ((Int.ofNat y) = 0) = false:=by simpa using hy
   simp only [Zt,Xb,hk,cond_true,XK,h0,Bool.not_false,Bool.and_true];rfl
end Ev
end Gx
