/- Contracts of the program's functions, proved by walking them with the rules of the Gx texts; without conditions beyond those that each contract names. -/
import Derived.WalkKit
import Derived.Deep.Draws
import Derived.TacticsIn
import Derived.OrdersIn
import Derived.RangeFuncLeaves
import Derived.Lib.Strings
import Derived.Laws.BytesArg
import Derived.Laws.IdiomStrings
import Derived.Deep.Quiet
import Derived.ProofKit
import Derived.OpenShut
import Derived.Laws.StructEq
import Derived.ChangeKeysEq
import Derived.Laws.Externs
import Derived.Lib.Overlaps
import Derived.Carry
import Derived.Laws.Small
import Derived.Lib.Bytealg
import Derived.Lib.Builder
import Derived.Laws.Pointers
import Derived.RangeFuncRecord
import Derived.Test.YtpkhkcchibbhmaaGreatDoorProg
import Derived.KernelRfl
import Derived.SizedLaws
import Derived.ChangeSame
import Derived.Handed
import Derived.Test.YtpkhkcchibbhmaaGreatDoorTie
import Derived.Test.YtpkhkcchibbhmaaGreatDoorCards
import Derived.SevenTiedAt
import Derived.LaidMore
import Derived.Lay
import Derived.Stop.Joined
import Derived.Test.YtpkhkcchibbhmaaGreatDoorP4
set_option linter.unusedSimpArgs false
set_option maxHeartbeats 1000000
set_option linter.unusedVariables false
set_option linter.unusedSectionVars false
set_option linter.unnecessarySimpa false
namespace Go.Proofs
open Go Go.RowKit Gx
attribute [local irreducible] Go.Calls Gx.S Gx.O Gx.D Gx.OpP Gx.OpQ Gx.OpH
set_option maxRecDepth 20000
instance : TFd Tryz.prog 108 0 0 23:=⟨by kernel_rfl⟩
theorem Qgh : tsz Tryz.prog 23 = some (3,true):=by kernel_rfl
instance : TSz Tryz.prog 23 3 true:=⟨Qgh⟩
instance : TFd Tryz.prog 23 1 1 9:=⟨by kernel_rfl⟩
theorem ZT : tsz Tryz.prog 108 = some (7,true):=by kernel_rfl
instance : TSz Tryz.prog 108 7 true:=⟨ZT⟩
instance : TFn Tryz.prog 113:=⟨by kernel_rfl⟩
instance : TFd Tryz.prog 23 2 2 9:=⟨by kernel_rfl⟩
theorem c78 (w : World)  : Calls Tryz.prog 78 #[] w fun en w'=>en = .returned (.string (bs Qhc)) ∧ Below w.heap.size w w':=by
 refine eN0 Tryz.func78 Tryz.ntmps78 ?_
 refine aU6 ?_
 refine o_h (Qe4 (n:=512) rfl rfl rfl QA Z4 (by omega) (by omega)) rfl (fun b1 _=>?_)
 refine o_q (Yp rfl rfl Tryz.underlying139 Tryz.underlying9 Tryz.underlying5 aPk (by simp [QE]) (by intro v hv;rw [QdY] at hv;exact Zd _ v hv)) rfl ?_
 refine aU2 ?_
 exact rT rfl rfl (fun w' h'=>⟨by rw [QdY,YJ];rfl,h'.below⟩)
theorem Qv8 (w : World) (x : Ixs) (co mo rm : Int) (ra : Option Addr) (rn rc : Nat) (hl : x.al.length ≤ 1000000000) : Calls Tryz.prog 113 #[.agg #[.string (bs x.ro),.string (bs x.al),.string (bs x.bm),.int .i64 co,.int .i64 mo,.int .i64 rm,.slice ra rn rc]] w fun en w'=>en = .returned (.int .i64 ((x.n : Nat) : Int)) ∧ Below w.heap.size w w':=by
 refine eN1 Tryz.func113 Tryz.ntmps113 ?_
 refine aU2 ?_
 refine oBx fun b1 _=>?_
 refine aU7 ?_
 refine o_p (Qg rfl rfl Tryz.underlying9) rfl ?_
 refine o_p (XD rfl rfl rfl (by omega) (by omega) (by omega)) rfl ?_
 refine aU2 ?_
 exact rT rfl rfl (fun w' h'=>⟨by rfl,h'.below⟩)
theorem c64 (w : World) (x : Ixs) (co mo rm : Int) (ra : Option Addr) (rn rc : Nat) (i : Nat) (hl : x.al.length ≤ 1000000000) (hi : 1 ≤ i ∧ i * 512 ≤ x.al.length) : Calls Tryz.prog 64 #[.agg #[.string (bs x.ro),.string (bs x.al),.string (bs x.bm),.int .i64 co,.int .i64 mo,.int .i64 rm,.slice ra rn rc],.int .i64 (i : Int)] w fun en w'=>en = .returned (.string (bs (x.blk i))) ∧ Below w.heap.size w w':=by
 refine eN2 Tryz.func64 Tryz.ntmps64 ?_
 refine aU2 ?_
 refine oBx fun b1 _=>?_
 refine aT9 ?_
 refine aT ?_
 refine aT2 ?_
 refine o_p (Xh _ _ ((i - 1) * 512) (i * 512) rfl rfl Tryz.underlying9 ⟨_,_,rfl,(by omega)⟩ ⟨_,_,rfl,(by omega)⟩ (by omega) (by omega)) rfl ?_
 refine aU2 ?_
 exact rT rfl rfl (fun w' h'=>⟨by rw [QaH (n:=512) (by omega)];rfl,h'.below⟩)
theorem c66 (w : World) (x : Ixs) (hl : x.al.length ≤ 1000000000) : Calls Tryz.prog 66 #[.agg #[.string (bs x.ro),.string (bs x.al),.string (bs x.bm)]] w fun en w'=>en = .returned (.int .i64 ((x.n : Nat) : Int)) ∧ Below w.heap.size w w':=by
 refine eN1 Tryz.func66 Tryz.ntmps66 ?_
 refine aU2 ?_
 refine oBx fun b1 _=>?_
 refine aU6 ?_
 refine o_p (Qg rfl rfl Tryz.underlying9) rfl ?_
 refine o_p (XD rfl rfl rfl (by omega) (by omega) (by omega)) rfl ?_
 refine aU2 ?_
 exact rT rfl rfl (fun w' h'=>⟨by rfl,h'.below⟩)
theorem c69 (w : World) (x : Ixs) (i : Nat) (hl : x.al.length ≤ 1000000000) (hi : 1 ≤ i ∧ i * 512 ≤ x.al.length) : Calls Tryz.prog 69 #[.agg #[.string (bs x.ro),.string (bs x.al),.string (bs x.bm)],.int .i64 (i : Int)] w fun en w'=>en = .returned (.string (bs (x.blk i))) ∧ Below w.heap.size w w':=by
 refine eN2 Tryz.func69 Tryz.ntmps69 ?_
 refine aU2 ?_
 refine oBx fun b1 _=>?_
 refine aT8 ?_
 refine aT ?_
 refine aT2 ?_
 refine o_p (Xh _ _ ((i - 1) * 512) (i * 512) rfl rfl Tryz.underlying9 ⟨_,_,rfl,(by omega)⟩ ⟨_,_,rfl,(by omega)⟩ (by omega) (by omega)) rfl ?_
 refine aU2 ?_
 exact rT rfl rfl (fun w' h'=>⟨by rw [QaH (n:=512) (by omega)];rfl,h'.below⟩)
theorem c135 (w : World) (m : Nat) (hm : m ≤ 8) : Calls Tryz.prog 135 #[.int .i64 (m : Int)] w fun en w'=>en = .returned (.int .i64 ((2 ^ m : Nat) : Int)) ∧ Below w.heap.size w w':=by
 refine eN1 Tryz.func135 Tryz.ntmps135 ?_
 refine aU7 ?_
 refine o_p (Qfh rfl rfl rfl (by omega) m (by show min _ 64 = _;omega)) rfl ?_
 refine aU2 ?_
 exact rT rfl rfl (fun w' h'=>⟨by have h9 : m = 0 ∨ m = 1 ∨ m = 2 ∨ m = 3 ∨ m = 4 ∨ m = 5 ∨ m = 6 ∨ m = 7 ∨ m = 8:=(by omega);rcases h9 with rfl | rfl | rfl | rfl | rfl | rfl | rfl | rfl | rfl <;> rfl,h'.below⟩)
theorem c61 (w : World) (x : Ixs) (co mo rm : Int) (ra : Option Addr) (rn rc : Nat) (i : Nat) (hl : x.al.length ≤ 1000000000) (hb : x.n ≤ 8 * x.bm.length) : Calls Tryz.prog 61 #[.agg #[.string (bs x.ro),.string (bs x.al),.string (bs x.bm),.int .i64 co,.int .i64 mo,.int .i64 rm,.slice ra rn rc],.int .i64 (i : Int)] w fun en w'=>en = .returned (.bool (Qa9 x i)) ∧ Below w.heap.size w w':=by
 have hn9 : x.n ≤ x.al.length:=Nat.div_le_self _ _
 refine eN2 Tryz.func61 Tryz.ntmps61 ?_
 refine aU2 ?_
 refine oBx fun b1 _=>?_
 refine aU6 ?_
 refine oCq rfl (fun w1 h1=>Qv8 w1 x co mo rm ra rn rc hl) ?_
 refine oCq rfl (fun w1 h1=>c87 w1 _ _ _) ?_
 refine aU ?_
 refine Yq 14 9 23 rfl
  (fun hg2 _=>by
   refine QlS ?_
   refine aU ?_
   refine o_p (XD rfl rfl rfl (by omega) (by omega) (by omega)) rfl ?_
   refine aU ?_
   refine o_p (Xi rfl rfl rfl Tryz.underlying9 ((i - 1) / 8) (by omega) (by omega)) rfl ?_
   refine Qk (show _ = Value.int .u8 ((ub1 x.bm ((i - 1) / 8) : Nat) : Int) from rfl) ?_
   refine aT4 ?_
   refine aU ?_
   refine o_p (Ze rfl rfl rfl (by omega) (by omega)) rfl ?_
   refine aU ?_
   refine o_p (Qep rfl rfl rfl (by omega) ((i - 1) % 8) (by show min _ 8 = _;omega)) rfl ?_
   refine aU4 ?_
   exact oJt 14 23)
  (fun hg4 _=>by
   refine Qcb ?_
   exact oJf 14 23) ?_
 refine aU2 ?_
 exact rT rfl rfl (fun w' h'=>⟨by simp only [QW,Qa9];rw [QgE];congr 3;rw [← Bool.decide_and];exact decide_eq_decide.2 (by omega),h'.below⟩)
instance : TFn Tryz.prog 135:=⟨by kernel_rfl⟩
theorem Qwm (i : Nat) : 1 ≤ 2 ^ (i % 8) ∧ 2 ^ (i % 8) ≤ 128:=by
  have h : i % 8 = 0 ∨ i % 8 = 1 ∨ i % 8 = 2 ∨ i % 8 = 3 ∨ i % 8 = 4 ∨ i % 8 = 5 ∨ i % 8 = 6 ∨ i % 8 = 7:=by omega
  rcases h with h | h | h | h | h | h | h | h <;> rw [h] <;> decide
theorem c67 (w : World) (x : Ixs) (i : Nat) (hi : 1 ≤ i ∧ i ≤ 1000000) (hb : x.bm.length ≤ 1000000) : Calls Tryz.prog 67 #[.agg #[.string (bs x.ro),.string (bs x.al),.string (bs x.bm)],.int .i64 (i : Int)] w fun en w'=>en = .returned (.bool (ZM x.bm (i - 1))) ∧ Below w.heap.size w w':=by
 have hpw:=Qwm (i - 1)
 have hbl:=Yi x.bm ((i - 1) / 8)
 have hdv : ub1 x.bm ((i - 1) / 8) / 2 ^ ((i - 1) % 8) ≤ ub1 x.bm ((i - 1) / 8):=Nat.div_le_self _ _
 refine eN2 Tryz.func67 Tryz.ntmps67 ?_
 refine aU2 ?_
 refine oBx fun b1 _=>?_
 refine aT6 ?_
 refine Qk (show _ = Value.int .i64 ((i - 1 : Nat) : Int) from congrArg (Value.int .i64) (by omega)) ?_
 refine aU5 ?_
 refine o_p (XD rfl rfl rfl (by omega) (by omega) (by omega)) rfl ?_
 refine Qk (show _ = Value.int .i64 (((i - 1) / 8 : Nat) : Int) from congrArg (Value.int .i64) (by omega)) ?_
 refine aU2 ?_
 refine o_p (Qg rfl rfl Tryz.underlying9) rfl ?_
 refine aU2 ?_
 refine Yq 12 14 26 rfl
  (fun hg2 _=>by
   refine aU7 ?_
   refine o_p (XD rfl rfl rfl (by omega) (by omega) (by omega)) rfl ?_
   refine Qk (show _ = Value.int .i64 (((i - 1) / 8 : Nat) : Int) from congrArg (Value.int .i64) (by omega)) ?_
   refine aU ?_
   refine oCq rfl (fun w1 h1=>by have h9:=c72 w1 x.bm ((i - 1) / 8) 1 (by omega) (by omega) (by omega);rw [QdJ,QkB] at h9;exact h9) ?_
   refine aU3 ?_
   refine o_p (Ze rfl rfl rfl (by omega) (by omega)) rfl ?_
   refine Qk (show _ = Value.int .i64 (((i - 1) % 8 : Nat) : Int) from congrArg (Value.int .i64) (by omega)) ?_
   refine aU ?_
   refine oCq rfl (fun w1 h1=>c135 w1 ((i - 1) % 8) (by omega)) ?_
   refine aU ?_
   refine o_p (XD rfl rfl rfl (by omega) (by omega) (by omega)) rfl ?_
   refine Qk (show _ = Value.int .i64 ((ub1 x.bm ((i - 1) / 8) / 2 ^ ((i - 1) % 8) : Nat) : Int) from congrArg (Value.int .i64) (Int.natCast_ediv _ _).symm) ?_
   refine aU ?_
   refine o_p (Qnq rfl rfl rfl (by decide)) rfl ?_
   refine aU2 ?_
   exact oJt 12 26)
  (fun hg4 _=>by
   refine QdM ?_
   exact oJf 12 26) ?_
 refine aU2 ?_
 exact rT rfl rfl (fun w' h'=>⟨by simp only [QW];congr 2;by_cases hq9 : (i - 1) / 8 < x.bm.length;rw [show decide ((((i - 1) / 8 : Nat) : Int) < (x.bm.length : Int)) = true from decide_eq_true (by omega),Bool.true_and,← Qtk];rfl;rw [show decide ((((i - 1) / 8 : Nat) : Int) < (x.bm.length : Int)) = false from decide_eq_false (by omega),Bool.false_and,Qqv (by omega)],h'.below⟩)
end Go.Proofs
namespace Gx
open Go Go.RowKit
section
variable {x : Ixs}
theorem QjW (h : ¬ (x.al.length ≤ 61440 ∧ x.ro.length ≤ 200000)) : ixE x = 8:=by unfold ixE;rw [if_neg h]
theorem QjM (h : x.al.length ≤ 61440 ∧ x.ro.length ≤ 200000) (h2 : ¬ (x.al.length % 512 = 0 ∧ x.bm.length = QF ((x.n + 7) / 8))) : ixE x = 10:=by unfold ixE;rw [if_pos h,if_neg h2]
theorem QnD (h : x.al.length ≤ 61440 ∧ x.ro.length ≤ 200000) (h2 : x.al.length % 512 = 0 ∧ x.bm.length = QF ((x.n + 7) / 8)) (h3 : ¬ (Qd x.ro).2 = 0) : ixE x = (Qd x.ro).2:=by unfold ixE;rw [if_pos h,if_pos h2,if_neg h3]
theorem QmH (h : x.al.length ≤ 61440 ∧ x.ro.length ≤ 200000) (h2 : x.al.length % 512 = 0 ∧ x.bm.length = QF ((x.n + 7) / 8)) (h3 : (Qd x.ro).2 = 0) (h4 : Qdh x = true) : ixE x = 3:=by unfold ixE;rw [if_pos h,if_pos h2,if_pos h3,if_pos h4]
theorem QmN (h : x.al.length ≤ 61440 ∧ x.ro.length ≤ 200000) (h2 : x.al.length % 512 = 0 ∧ x.bm.length = QF ((x.n + 7) / 8)) (h3 : (Qd x.ro).2 = 0) (h4 : Qdh x = false) : ixE x = if x.n = 0 ∨ ZM x.bm (x.n - 1) = true then 0 else 3:=by grind [ixE]
theorem Qj6 {j : Nat} (h : x.n ≤ j) (h2 : j < 8 * x.bm.length) (h3 : ZM x.bm j = true) : Qdh x = true:=by grind [Qdh]
theorem Qnf (h : ∀ j,x.n ≤ j → j < 8 * x.bm.length → ZM x.bm j = false) : Qdh x = false:=by grind [Qdh]
end
end Gx
namespace Go.Proofs
open Go Go.RowKit Gx
attribute [local irreducible] Go.Calls Gx.S Gx.O Gx.D Gx.OpP Gx.OpQ Gx.OpH
set_option maxRecDepth 20000
instance : TFd Tryz.prog 23 0 0 9:=⟨by kernel_rfl⟩
theorem QuI : QK Tryz.prog 66 = true:=by kernel_rfl
instance : TFn Tryz.prog 66:=⟨QuI⟩
instance : TFn Tryz.prog 67:=⟨by kernel_rfl⟩
theorem c49 (w : World) (x : Ixs) (hl : x.al.length ≤ 900000) (hr : x.ro.length ≤ 1000000) (hb : x.bm.length ≤ 100000) : Calls Tryz.prog 49 #[.agg #[.string (bs x.ro),.string (bs x.al),.string (bs x.bm)]] w fun en w'=>en = .returned (.int .i64 (ixE x)) ∧ Below w.heap.size w w':=by
 have hn9 : x.n ≤ x.al.length:=Nat.div_le_self _ _
 refine eN1 Tryz.func49 Tryz.ntmps49 ?_
 refine aU2 ?_
 refine oBx fun b1 _=>?_
 refine aU7 ?_
 refine o_p (Qg rfl rfl Tryz.underlying9) rfl ?_
 refine aU2 ?_
 refine oOr 5 11 16 rfl
  (fun hg2 _=>by
   refine aU5 ?_
   refine o_p (Qg rfl rfl Tryz.underlying9) rfl ?_
   refine aU2 ?_
   exact oJf 5 16)
  (fun hg4 _=>by
   refine aU4 ?_
   exact oJt 5 16) ?_
 refine aU ?_
 refine sCd rfl (fun h6=>?_) fun h6=>?_
 ·have hE:=QjW (x:=x) (by have hq:=h6;omega)
  refine aU4 ?_
  exact rT rfl rfl (fun w' h'=>⟨by rw [hE];rfl,h'.below⟩)
 have hA : x.al.length ≤ 61440 ∧ x.ro.length ≤ 200000:=by have hq:=h6;omega
 refine aU3 ?_
 refine Qi7 (α:=Bool) [17,18,19,20,21,22,23,24,25,26,27,28,29,30,31] (fun b=>[(31,.bool b)]) (fun b=>(b = true → ¬ (x.al.length % 512 = 0 ∧ x.bm.length = QF ((x.n + 7) / 8))) ∧ (b = false → x.al.length % 512 = 0 ∧ x.bm.length = QF ((x.n + 7) / 8))) ?_ ?_
 ·skip
  refine Qz [] QN ?_
  refine dFa 0 ?_
  refine dLd 1 [] ?_
  refine dV 2 rfl (Qg rfl rfl Tryz.underlying9) ?_
  refine dV 3 rfl (Ze rfl rfl rfl (by omega) (by omega)) ?_
  refine dP 4 ?_
  refine dP 5 ?_
  apply Xx 22
  ·exact rfl
  ·intro hg7
   have hs8:=hg7;try simp only [Bool.not_eq_true',decide_eq_false_iff_not] at hs8
   refine dOf 6 22 hg7 ?_
   refine dOf 7 22 hg7 ?_
   refine dOf 8 22 hg7 ?_
   refine dOf 9 22 hg7 ?_
   refine dOf 10 22 hg7 ?_
   refine dOf 11 22 hg7 ?_
   refine dOf 12 22 hg7 ?_
   refine dOf 13 22 hg7 ?_
   refine dV 14 rfl (Xu rfl rfl hg7 rfl) ?_
   refine dNi ?_
   exact Qt true ⟨fun _ h9=>by grind,fun h9=>by cases h9⟩ aSx (fun w h=>h.ent aEt)
  intro hg9
  have hs10:=hg9;try simp only [Bool.not_eq_false',decide_eq_true_eq] at hs10
  refine dFo 6 22 hg9 ?_
  refine dQo 7 22 [] hg9 rfl rfl rfl (YB rfl rfl Zq aPk rfl) ?_
  refine dVo 8 22 hg9 rfl rfl rfl (Qg rfl rfl Tryz.underlying9) ?_
  refine dQo 9 22 [] hg9 rfl rfl rfl (Z5 rfl rfl Qgh aPk rfl) ?_
  refine dQo 10 22 [] hg9 rfl rfl rfl (Qq rfl QuI rfl (fun w1 h1=>c66 w1 x (by omega))) ?_
  refine dQo 11 22 [] hg9 rfl rfl rfl (Qq rfl Qsl rfl (fun w1 h1=>c121 w1 (x.n : Int) (by omega))) ?_
  refine Qy (show _ = Value.int .i64 (((x.n + 7) / 8 : Nat) : Int) from congrArg (Value.int .i64) (by omega)) ?_
  refine dQo 12 22 [] hg9 rfl rfl rfl (Qq rfl QnN rfl (fun w1 h1=>c95 w1 ((x.n + 7) / 8) (by omega))) ?_
  refine dPo 13 22 hg9 ?_
  refine dV 14 rfl (Xn rfl rfl hg9 rfl) ?_
  refine dNi ?_
  exact Qt (!decide ((x.bm.length : Int) = ((QF ((x.n + 7) / 8) : Nat) : Int))) ⟨fun h8 h9=>by grind,fun h8=>by grind⟩ aSx (fun w h=>h.ent aEt)
 intro b9 hb9
 refine sCd rfl (fun h11=>?_) fun h11=>?_
 ·have hE:=QjM hA (hb9.1 h11)
  refine aU4 ?_
  exact rT rfl rfl (fun w' h'=>⟨by rw [hE];rfl,h'.below⟩)
 have hB:=hb9.2 h11
 refine aU6 ?_
 refine oCh rfl (fun w1 h1=>c31 w1 x.ro hr) (fun ⟨⟨ra,rc⟩,RL⟩ hRL=>?_)
 refine aU3 ?_
 refine oAl (fun b12 _=>?_) XL
 refine aU8 ?_
 refine sCd rfl (fun h13=>?_) fun h13=>?_
 ·have hE:=QnD hA hB h13
  refine aU5 ?_
  exact rT rfl rfl (fun w' h'=>⟨by rw [hE];rfl,h'.below⟩)
 have hC : (Qd x.ro).2 = 0:=h13
 refine aU5 ?_
 refine oCq rfl (fun w1 h1=>c66 w1 x (by omega)) ?_
 refine aT ?_
 refine aU3 ?_
 refine Ql (L':=[(1,_),(2,_),(5,_)]) aSx (fun _ h=>h) ?_
 refine Qr (α:=Nat) [2,5,44,45,46,47,48,49,50,51,52,53,54] (fun i=>[(5,.int .i64 ((i : Int) + 1))]) (fun _=>HS w [] [.blk b1 23 3 [.string (bs x.ro),.string (bs x.al),.string (bs x.bm)]]) (fun i=>x.n ≤ i ∧ i ≤ x.n + 8 * x.bm.length ∧ ∀ j,x.n ≤ j → j < i → ZM x.bm j = false) (fun i=>8 * x.bm.length - i) x.n ⟨Nat.le_refl _,by omega,fun j h1 h2=>by omega⟩ aSx (fun w h=>h.ent aEt) (fun i hii=>?_)
 obtain ⟨hi1,hi2,hi3⟩:=hii
 refine aU6 ?_
 refine o_p (Qg rfl rfl Tryz.underlying9) rfl ?_
 refine aT ?_
 refine aU2 ?_
 refine sCd rfl (fun h14=>?_) fun h14=>?_
 ·have hi : i + 1 ≤ 8 * x.bm.length:=by have hq:=h14;omega
  refine aU7 ?_
  refine oCq rfl (fun w1 h1=>c67 w1 x (i + 1) (by omega) (by omega)) ?_
  refine aU ?_
  refine sCd rfl (fun h15=>?_) fun h15=>?_
  ·have hE:=QmH hA hB hC (Qj6 hi1 (by omega) (by have hq:=h15;exact hq))
   refine aU4 ?_
   exact rT rfl rfl (fun w' h'=>⟨by rw [hE];rfl,h'.below⟩)
  have hZ : ZM x.bm i = false:=by have hq:=h15;simpa using hq
  refine aT5 ?_
  refine aU2 ?_
  exact sBk (i + 1) (by omega) ⟨by omega,by omega,fun j h1 h2=>(Nat.lt_or_ge j i).elim (hi3 j h1) (fun h=>by obtain rfl : j = i:=(by omega);exact hZ)⟩
 have hi : 8 * x.bm.length ≤ i:=by have hq:=h14;omega
 have hO:=Qnf (x:=x) (fun j h1 h2=>hi3 j h1 (by omega))
 have hE:=QmN hA hB hC hO
 refine Qi rfl ?_
 refine aU4 ?_
 refine oCq rfl (fun w1 h1=>c66 w1 x (by omega)) ?_
 refine aU7 ?_
 refine Yq 5 59 64 rfl
  (fun hg16 _=>by
   refine aU5 ?_
   refine oCq rfl (fun w1 h1=>c67 w1 x x.n (by omega) (by omega)) ?_
   refine aU2 ?_
   exact oJt 5 64)
  (fun hg18 _=>by
   refine aU4 ?_
   exact oJf 5 64) ?_
 refine aU ?_
 refine sCd rfl (fun h20=>?_) fun h20=>?_
 ·have hE2 : ixE x = 3:=by rw [hE,if_neg];have hq:=h20;intro h9;rcases h9 with h9 | h9;omega;rw [h9] at hq;simp at hq
  refine aU4 ?_
  exact rT rfl rfl (fun w' h'=>⟨by rw [hE2];rfl,h'.below⟩)
 have hE2 : ixE x = 0:=by rw [hE,if_pos];have hq:=h20;by_cases h9 : x.n = 0;exact .inl h9;exact .inr (by simp at hq;grind)
 refine aU5 ?_
 exact rT rfl rfl (fun w' h'=>⟨by rw [hE2];rfl,h'.below⟩)
end Go.Proofs
namespace Gx
open Go Go.RowKit
def bmO (ns : List Nd) (g : Nat) : List UInt8:=(List.range g).map fun j=>by8 ((ZY ns j 8 : Nat) : Int)
theorem QkM (ns : List Nd) (g : Nat) : bmO ns (g + 1) = bmO ns g ++ [by8 ((ZY ns g 8 : Nat) : Int)]:=by
 unfold bmO;rw [List.range_succ,List.map_append];rfl
theorem QtV (ns : List Nd) (g : Nat) : (bmO ns g).length = g:=by simp [bmO]
theorem QeR {ns : List Nd} {g i : Nat} (h : ns.length ≤ 8 * g + i + 1) : ∀ j,ZY ns g (i + j) = ZY ns g i
 | 0=>rfl
 | j + 1=>by
  rw [← Nat.add_assoc,ZY,QeR h j,if_neg (by omega)];rfl
theorem Qqu {ns : List Nd} {g : Nat} (h : ns.length ≤ 8 * g + 1) : ZY ns g 8 = 0:=by
 have:=QeR (ns:=ns) (g:=g) (i:=0) (by omega) 8
 rwa [Nat.zero_add] at this
theorem Qtp {ns : List Nd} {r : Nat} (h : r = (ns.length - 1 + 7) / 8) : bmO ns r ++ List.replicate (QF r - r) 0 = bmB ns:=by
 subst h;have hp:=XU ((ns.length - 1 + 7) / 8)
 have hz : ∀ k,bmO ns ((ns.length - 1 + 7) / 8 + k) = bmO ns ((ns.length - 1 + 7) / 8) ++ List.replicate k 0:=by
  intro k
  induction k with
  | zero=>simp
  | succ k ih=>
   rw [← Nat.add_assoc,QkM,ih,Qqu (by omega),List.append_assoc];congr 1;exact (List.replicate_succ' ..).symm
 have h9:=hz (QF ((ns.length - 1 + 7) / 8) - (ns.length - 1 + 7) / 8);rw [← h9,show (ns.length - 1 + 7) / 8 + (QF ((ns.length - 1 + 7) / 8) - (ns.length - 1 + 7) / 8) = YS ns by unfold YS;omega];rfl
def Zb (ns : List Nd) (K g : Nat) : Nat → Nat
 | 0=>0
 | i + 1=>Zb ns K g i + (if (nth ns (8 * g + i + 1)).us = true ∧ 8 * g + i + 1 < K then 2 ^ i else 0)
theorem Qno (ns : List Nd) (K g : Nat) : ∀ i,Zb ns K g i < 2 ^ i
 | 0=>by simp [Zb]
 | i + 1=>by
  have:=Qno ns K g i
  grind [Zb]
theorem Qr8 (ns : List Nd) (g : Nat) : ∀ i,Zb ns 1 g i = 0
 | 0=>rfl
 | i + 1=>by rw [Zb,Qr8 ns g i,if_neg (by omega)]
theorem QmZ {ns : List Nd} {k g : Nat} (h : (nth ns (k + 1)).us = false) : ∀ i,Zb ns (k + 2) g i = Zb ns (k + 1) g i
 | 0=>rfl
 | i + 1=>by
  rw [Zb,Zb,QmZ h i]
  grind
theorem QmX {ns : List Nd} {k g : Nat} (hg : g ≠ k / 8) : ∀ i,i ≤ 8 → Zb ns (k + 2) g i = Zb ns (k + 1) g i
 | 0,_=>rfl
 | i + 1,hi=>by
  rw [Zb,Zb,QmX hg i (by omega)]
  grind
theorem Qlc {ns : List Nd} {k : Nat} (h : (nth ns (k + 1)).us = true) : ∀ i,i ≤ 8 → Zb ns (k + 2) (k / 8) i = Zb ns (k + 1) (k / 8) i + (if k % 8 < i then 2 ^ (k % 8) else 0)
 | 0,_=>rfl
 | i + 1,hi=>by
  have e1 : (if (nth ns (8 * (k / 8) + i + 1)).us = true ∧ 8 * (k / 8) + i + 1 < k + 2 then 2 ^ i else 0) = (if (nth ns (8 * (k / 8) + i + 1)).us = true ∧ 8 * (k / 8) + i + 1 < k + 1 then 2 ^ i else 0) + (if i = k % 8 then 2 ^ (k % 8) else 0):=by grind
  have e2 : (if k % 8 < i + 1 then 2 ^ (k % 8) else 0) = (if k % 8 < i then 2 ^ (k % 8) else 0) + (if i = k % 8 then 2 ^ (k % 8) else 0):=by grind
  rw [Zb,Zb,Qlc h i (by omega),e1,e2]
  ac_rfl
theorem QjK (ns : List Nd) (k : Nat) : ∀ j,Zb ns (k + 1) (k / 8) (k % 8 + j) < 2 ^ (k % 8)
 | 0=>Qno ns (k + 1) (k / 8) (k % 8)
 | j + 1=>by
  rw [← Nat.add_assoc,Zb,if_neg (by omega)];exact QjK ns k j
theorem QvO : ∀ m < 8,∀ n < 2 ^ m,bits .or .u8 ((n : Nat) : Int) (IntKind.u8.wrap (1 * 2 ^ m)) = ((n + 2 ^ m : Nat) : Int):=by decide +kernel
def bmW (ns : List Nd) (r K : Nat) : List UInt8:=(List.range r).map fun g=>by8 ((Zb ns K g 8 : Nat) : Int)
theorem QfH (ns : List Nd) (r K : Nat) : (bmW ns r K).length = r:=by simp [bmW]
theorem Qw1 (ns : List Nd) (r : Nat) : bmW ns r 1 = List.replicate r 0:=by
 unfold bmW;rw [List.eq_replicate_iff];refine ⟨by simp,fun b hb=>?_⟩;obtain ⟨g,_,rfl⟩:=List.mem_map.1 hb;rw [Qr8]
 try rfl
theorem Qtb {ns : List Nd} : bmW ns (YS ns) ns.length = bmB ns:=by
 unfold bmW bmB;congr 1
theorem QuY {ns : List Nd} {r k : Nat} (h : (nth ns (k + 1)).us = false) : bmW ns r (k + 2) = bmW ns r (k + 1):=by grind [bmW,QmZ]
theorem Qmv {ns : List Nd} {r K g : Nat} (h : g < r) : (bmW ns r K)[g]? = some (by8 ((Zb ns K g 8 : Nat) : Int)):=by grind [bmW]
theorem QsI {ns : List Nd} {r k : Nat} (h : (nth ns (k + 1)).us = true) (hk : k / 8 < r) : bmW ns r (k + 2) = (bmW ns r (k + 1)).set (k / 8) (by8 ((Zb ns (k + 1) (k / 8) 8 + 2 ^ (k % 8) : Nat) : Int)):=by
 apply List.ext_getElem?
 grind [QfH,Qmv,Qlc,QmX]
end Gx
namespace Go.Proofs
open Go Go.RowKit Gx
attribute [local irreducible] Go.Calls Gx.S Gx.O Gx.D Gx.OpP Gx.OpQ Gx.OpH
set_option maxRecDepth 20000
theorem c85 (w : World) (co mo rm : Int) (a : Option Addr) (cap : Nat) (L : List LNd) (hs : Nt w [] a L) (hl : L.length ≤ 1000) : Calls Tryz.prog 85 #[.agg #[.int .i64 co,.int .i64 mo,.int .i64 rm,.slice a L.length cap]] w fun en w'=>en = .returned (.string (bs (bmB (pln L)))) ∧ Below w.heap.size w w':=by
 refine eN1 Tryz.func85 Tryz.ntmps85 ?_
 refine aU2 ?_
 refine oBx fun b1 _=>?_
 refine Qbn ?_
 refine Qr (α:=Nat) [3,4,5,6,7,8,9,10,11,12,13,14,15,16,17,18,19,20,21,22,23,24,25,26,27,28,29,30,31,32,33,34,35,36,37,38,39,40,41,42,43,44] (fun g=>[(4,.int .i64 (8 * (g : Int) + 1)),(3,.string (bs (bmO (pln L) g)))]) (fun _=>HS w [] [.blk b1 37 4 [.int .i64 co,.int .i64 mo,.int .i64 rm,.slice a L.length cap]]) (fun g=>g ≤ ((L.length - 1 + 7) / 8)) (fun g=>L.length - 8 * g) 0 (Nat.zero_le _) aSx (fun w h=>h.ent aEt) (fun g hg=>?_)
 have hol:=QtV (pln L) g
 refine aU9 ?_
 refine sCd rfl (fun h2=>?_) fun h2=>?_
 ·have hk : 8 * g + 1 < L.length:=by have hq:=h2;omega
  refine Qcb ?_
  refine Qr (α:=Nat) [5,6,14,15,16,17,18,19,20,21,22,23,24,25,26,27,28,29,30,31,32,33,34,35,36,37,38,39,40] (fun i=>[(6,.int .i64 (i : Int)),(5,.int .i64 ((ZY (pln L) g i : Nat) : Int))]) (fun _=>HS w [] [.blk b1 37 4 [.int .i64 co,.int .i64 mo,.int .i64 rm,.slice a L.length cap]]) (fun i=>i ≤ 8) (fun i=>8 - i) 0 (Nat.zero_le _) aSx (fun w h=>h.ent aEt) (fun i hi8=>?_)
  have hbl:=QfX (pln L) g i
  refine aU6 ?_
  refine Yq 8 16 24 rfl
   (fun hg3 _=>by
    refine aT6 ?_
    refine aU8 ?_
    exact oJt 8 24)
   (fun hg5 _=>by
    refine aU7 ?_
    exact oJf 8 24) ?_
  refine aU ?_
  refine sCd rfl (fun h7=>?_) fun h7=>?_
  ·have hi7 : i < 8 ∧ 8 * g + i + 1 < L.length:=by have hq:=h7;omega
   have hpw : 2 ^ i ≤ 2 ^ 7:=Nat.pow_le_pow_right (by decide) (by omega)
   have hst : ZY (pln L) g (i + 1) = ZY (pln L) g i + cond (nth L (8 * g + i + 1)).us (2 ^ i) 0:=by (rw [ZY];congr 1;rw [QL,Qe];cases hu : (nth L (8 * g + i + 1)).us;rw [if_neg (fun h9=>absurd (show false = true from hu ▸ h9.1) Bool.false_ne_true)];rfl;rw [if_pos ⟨hu,hi7.2⟩];rfl)
   refine QlS ?_
   refine o_p (Qa rfl rfl rfl Q3 (8 * g + i + 1) (by omega) (by omega) (Rw.some hs.1 (by omega))) rfl ?_
   refine aU ?_
   refine o_q (Qb rfl rfl QeZ ((hs.1.rdj (i:=(8 * g + i + 1)) 0 (by omega) rfl))) rfl ?_
   refine oCq rfl (fun w1 h1=>Qsz w1 (nth L (8 * g + i + 1)).us) ?_
   refine aU ?_
   refine oCq rfl (fun w1 h1=>c135 w1 i (by omega)) ?_
   refine aT ?_
   refine Qk (show _ = Value.int .i64 ((cond (nth L (8 * g + i + 1)).us (2 ^ i) 0 : Nat) : Int) from by (cases (nth L (8 * g + i + 1)).us <;> simp only [Bool.false_eq_true,if_false,if_true,cond,Int.zero_mul,Int.one_mul] <;> first | rfl | exact QeX (by omega) (by omega))) ?_
   have hcb : cond (nth L (8 * g + i + 1)).us (2 ^ i) 0 ≤ 128:=by cases (nth L (8 * g + i + 1)).us;exact Nat.zero_le _;exact hpw
   refine aT ?_
   refine Qk (show _ = Value.int .i64 ((ZY (pln L) g (i + 1) : Nat) : Int) from congrArg (Value.int .i64) (by rw [hst];rfl)) ?_
   refine aU3 ?_
   refine Ql (L':=[(0,_),(1,_),(2,_),(3,_),(4,_),(5,_),(6,_),(7,_),(8,_),(9,_),(10,_),(11,_)]) aSx (fun _ h=>h) ?_
   refine aT3 ?_
   refine aU2 ?_
   exact sBk (i + 1)
  have hb8 : ZY (pln L) g 8 = ZY (pln L) g i:=by (by_cases h8 : i = 8;rw [h8];have h9:=QeR (ns:=(pln L)) (g:=g) (i:=i) (by rw [Qe];have hq:=h7;omega) (8 - i);rwa [show i + (8 - i) = 8 by omega] at h9)
  refine Qi rfl ?_
  refine aU3 ?_
  refine oCq rfl (fun w1 h1=>by have h9:=c94 w1 ((ZY (pln L) g i : Nat) : Int) 1 (by have:=Nat.pow_le_pow_right (n:=2) (by decide) hi8;omega) (by omega);rw [QlQ] at h9;exact h9) ?_
  refine o_p (QC rfl rfl rfl (by (try simp only [List.length_append,List.length_cons,List.length_nil,List.length_replicate,List.length_take,List.length_drop]);omega)) rfl ?_
  refine aT6 ?_
  refine Qk (show _ = Value.int .i64 (8 * ((g + 1 : Nat) : Int) + 1) from congrArg (Value.int .i64) (by omega)) ?_
  refine aU2 ?_
  exact sBk (g + 1) (by omega) (by omega) (by rw [QkM,hb8];exact aSx)
 have hk : g = ((L.length - 1 + 7) / 8):=by have hq:=h2;omega
 subst hk
 have hend:=Qtp (ns:=(pln L)) (r:=((L.length - 1 + 7) / 8)) (by rw [Qe])
 have hp8:=XU ((L.length - 1 + 7) / 8)
 refine Qi rfl ?_
 refine aU4 ?_
 refine o_p (Qg rfl rfl Tryz.underlying9) rfl ?_
 refine oCq rfl (fun w1 h1=>by have h9:=c95 w1 (bmO (pln L) ((L.length - 1 + 7) / 8)).length (by omega);rw [hol] at h9;rw [hol];exact h9) ?_
 refine aU ?_
 refine o_p (Qg rfl rfl Tryz.underlying9) rfl ?_
 refine aT ?_
 refine Qk (show _ = Value.int .i64 ((QF ((L.length - 1 + 7) / 8) - ((L.length - 1 + 7) / 8) : Nat) : Int) from congrArg (Value.int .i64) (by rw [hol];omega)) ?_
 refine oCq rfl (fun w1 h1=>c86 w1 (QF ((L.length - 1 + 7) / 8) - ((L.length - 1 + 7) / 8)) (by omega)) ?_
 refine o_p (QC rfl rfl rfl (by (try simp only [List.length_append,List.length_cons,List.length_nil,List.length_replicate,List.length_take,List.length_drop]);omega)) rfl ?_
 refine aU2 ?_
 exact rT rfl rfl (fun w' h'=>⟨by rw [← hend];rfl,h'.below⟩)
theorem Qvt {w0 w : World} {M : List Nat} {As As' : List HA} {a : Option Addr} {n cap t sz : Nat} {xs : List Value} (h : HS w0 M As w) (hp : QM As (.own (.slice a n cap) t sz n xs) As') (hn : 0 < n) : ∃ gg,a = some ⟨gg,0,none⟩ ∧ n ≤ cap ∧ cap ≤ maxLen:=by
  obtain ⟨gg,e,_,h1,h2,_⟩:=h.own_blk hn hp;exact ⟨gg,e,h1,h2⟩
theorem QvW {w0 w : World} {M : List Nat} {As As' : List HA} {gg n cap t sz : Nat} {xs : List Value} (h : HS w0 M As w) (hp : QM As (.own (.slice (some ⟨gg,0,none⟩) n cap) t sz n xs) As') (hn : 0 < n) : HS w0 M (.blk gg t (cap * sz) xs :: As') w:=by
  obtain ⟨g',e,_,_,_,_,h1⟩:=h.own_blk hn hp;injection e with e
  injection e with e
  subst e;exact h1
theorem QhB {α : Type} [Inhabited α] (l : List α) (k : Nat) : nth (l.drop 1) k = nth l (k + 1):=by
  unfold nth;rw [List.getD_eq_getElem?_getD,List.getD_eq_getElem?_getD,List.getElem?_drop,Nat.add_comm]
theorem QhW {n : Nat} (h : n < 256) : bv (by8 ((n : Nat) : Int)) = .int .u8 ((n : Nat) : Int):=by
  unfold bv;rw [QG];congr 1;omega
theorem c145 (w : World) (a : Option Addr) (cap : Nat) (L : List LNd) (hs : Rw LNd.vals 3 w [] a L) (h0 : 0 < L.length) (hl : L.length ≤ 1000) (hcap : L.length ≤ cap) (hc9 : cap ≤ maxLen) : Calls Tryz.prog 145 #[.slice a L.length cap] w fun en w'=>en = .returned (.string (bs (bmB (pln L)))) ∧ Below w.heap.size w w':=by
 have hs2:=hs.cut (i:=1) hcap
 obtain ⟨a2,ha2⟩ : ∃ z,z = XV a cap 1 3:=⟨_,rfl⟩
 rw [← ha2] at hs2
 have hdl : (L.drop 1).length = L.length - 1:=List.length_drop
 have hp8:=XU ((L.length - 1 + 7) / 8)
 have hbm : (YS (pln L)) = QF ((L.length - 1 + 7) / 8):=by unfold YS;rw [Qe]
 have hz9 : (List.replicate ((L.length - 1 + 7) / 8) (0 : UInt8)) ++ List.replicate (QF (List.replicate ((L.length - 1 + 7) / 8) (0 : UInt8)).length - (List.replicate ((L.length - 1 + 7) / 8) (0 : UInt8)).length) 0 = bmW (pln L) (YS (pln L)) 1:=by rw [Qw1,List.length_replicate,List.replicate_append_replicate,hbm];congr 1;omega
 refine eN1 Tryz.func145 Tryz.ntmps145 ?_
 refine aT9 ?_
 refine aT6 ?_
 refine aT ?_
 refine o_p (XD rfl rfl rfl (by omega) (by omega) (by omega)) rfl ?_
 refine Qk (show _ = Value.int .i64 ((((L.length - 1 + 7) / 8) : Nat) : Int) from congrArg (Value.int .i64) (by omega)) ?_
 refine o_h (Qe4 (n:=((L.length - 1 + 7) / 8)) rfl rfl rfl QA Z4 (by omega) (by omega)) rfl (fun b1 _=>?_)
 refine XA (C':=HS w [] [.byz (some ⟨b1,0,none⟩) ((L.length - 1 + 7) / 8) ((List.replicate ((L.length - 1 + 7) / 8) (0 : UInt8)))]) (fun w9 h=>by have h9:=h.ent (Bs:=[.blk b1 u8T (((L.length - 1 + 7) / 8) * 1) (XK [.int .u8 0] (((L.length - 1 + 7) / 8) * 1))]) aEt;rw [QdY,Nat.mul_one] at h9;exact HS.byz_blk (l:=(List.replicate ((L.length - 1 + 7) / 8) (0 : UInt8))) (cap:=((L.length - 1 + 7) / 8)) .here h9 (by rw [List.length_replicate];exact Nat.le_refl _) (by simp only [maxLen];omega) (by rw [Qe5,List.length_replicate,Nat.sub_self,List.replicate_zero,List.append_nil])) ?_
 refine Qk (show _ = Value.slice (some ⟨b1,0,none⟩) (List.replicate ((L.length - 1 + 7) / 8) (0 : UInt8)).length ((L.length - 1 + 7) / 8) from by rw [List.length_replicate]) ?_
 refine o_h (QX (Cs:=[.byz (some ⟨b1,0,none⟩) ((L.length - 1 + 7) / 8) ((List.replicate ((L.length - 1 + 7) / 8) (0 : UInt8)))]) rfl Qp2 rfl aPs (fun w1 h1 hf=>c154 w1 (some ⟨b1,0,none⟩) ((L.length - 1 + 7) / 8) (List.replicate ((L.length - 1 + 7) / 8) (0 : UInt8)) hf (by rw [List.length_replicate];omega))) rfl (fun ⟨b2,c3⟩ hz4=>?_)
 rw [hz9]
 refine XA (fun w9 h=>h.byz_own .here) ?_
 rw [QfH]
 refine aU6 ?_
 refine o_p (Qx _ _ 1 L.length rfl rfl Q3 ⟨_,_,rfl,rfl⟩ rfl (by omega) (by omega)) rfl ?_
 refine Qk (show _ = Value.slice a2 (L.length - 1) (cap - 1) from by rw [ha2]) ?_
 refine aU4 ?_
 refine Ql (L':=[(2,_),(4,_),(17,_),(18,_),(19,_)]) aSx (fun _ h=>h) ?_
 refine Qr (α:=Nat) [5,6,19,20,21,22,23,24,25,26,27,28,29,30,31,32,33,34,35,36] (fun k=>[(19,.int .i64 (k : Int))]) (fun k=>HS w [] [.own (.slice b2 (YS (pln L)) c3) u8T 1 (YS (pln L)) ((bmW (pln L) (YS (pln L)) (k + 1)).map bv)]) (fun k=>k ≤ L.length - 1) (fun k=>L.length - 1 - k) 0 (Nat.zero_le _) aSx (fun w h=>h.ent aEt) (fun k hk1=>?_)
 refine aU5 ?_
 refine sCd rfl (fun h5=>?_) fun h5=>?_
 ·have hk : k < L.length - 1:=by have hq:=h5;omega
  have hbwl:=QfH (pln L) (YS (pln L)) (k + 1)
  have hpw : 2 ^ (k % 8) ≤ 2 ^ 7:=Nat.pow_le_pow_right (by decide) (by omega)
  have hlow : (Zb (pln L) (k + 1) (k / 8) 8) < 2 ^ (k % 8):=by have h9:=QjK (pln L) k (8 - k % 8);rwa [show k % 8 + (8 - k % 8) = 8 by omega] at h9
  refine aU6 ?_
  refine o_p (Qa rfl rfl rfl Q3 (k) (by omega) (by omega) (Rw.some hs2 (by omega))) rfl ?_
  refine o_q (Qw _ rfl rfl XC rfl (Rw.rd hs2 (by omega))) rfl ?_
  refine oAl (fun b6 _=>?_) Xq
  refine aU8 ?_
  refine sCd rfl (fun h7=>?_) fun h7=>?_
  ·have hus : (nth (pln L) (k + 1)).us = true:=by rw [QL,← QhB];exact h7
   refine Qiq (fun w9 h=>Qvt (a:=b2) (n:=(YS (pln L))) (cap:=c3) h aPk (by omega)) fun hB9=>?_
   obtain ⟨gg,rfl,hc1,hc2⟩:=hB9
   refine Qio (fun w9 h=>QvW (gg:=gg) (n:=(YS (pln L))) (cap:=c3) h aPk (by omega)) ?_
   refine Qz [10] QN ?_
   refine dP 0 ?_
   refine dP 1 ?_
   refine dV 2 rfl (XD rfl rfl rfl (by omega) (by omega) (by omega)) ?_
   refine dV 3 rfl (Qa rfl rfl rfl QA (k / 8) (by omega) (by omega) rfl) ?_
   refine dQ 4 [[]] rfl (XZ rfl rfl Qed (fun w9 h=>by rw [Nat.zero_add];exact h.rd_blk (Mc:=[]) aPk (by rw [Nat.mul_one,List.getElem?_map,Qmv (by omega)];rfl) (by simp))) ?_
   refine Qy (show _ = Value.int .u8 (((Zb (pln L) (k + 1) (k / 8) 8) : Nat) : Int) from QhW (n:=(Zb (pln L) (k + 1) (k / 8) 8)) (by omega)) ?_
   refine dP 5 ?_
   refine dV 6 rfl (Ze rfl rfl rfl (by omega) (by omega)) ?_
   refine dV 7 rfl (Qfh rfl rfl rfl (by omega) (k % 8) (by show min _ 8 = _;omega)) ?_
   refine dP 8 ?_
   refine Qy (show _ = bv (by8 (((Zb (pln L) (k + 1) (k / 8) 8) + 2 ^ (k % 8) : Nat) : Int)) from by rw [QvO (k % 8) (Nat.mod_lt _ (by decide)) (Zb (pln L) (k + 1) (k / 8) 8) hlow,QhW (by omega)]) ?_
   refine dV 9 rfl (Qa rfl rfl rfl QA (k / 8) (by omega) (by omega) rfl) ?_
   refine dSt 10 ?_ (hl:=(by simp only [Qf,List.length_set,List.length_cons,List.length_nil,List.length_map];omega))
   refine dTu [] ?_
   refine dNi ?_
   refine aT3 ?_
   refine aU2 ?_
   exact QP (k + 1) (by omega) (by omega) aSx (fun w h=>by have hx : (bmW (pln L) (YS (pln L)) (k + 2)).map bv = (((bmW (pln L) (YS (pln L)) (k + 1)).map bv).set (0 + k / 8 * 1) (bv (by8 ((Zb (pln L) (k + 1) (k / 8) 8 + 2 ^ (k % 8) : Nat) : Int)))):=(by rw [Nat.zero_add,Nat.mul_one,QsI hus (by omega),List.map_set]);have h8:=HS.own_shut (g:=gg) (cap:=c3) (n:=(YS (pln L))) (sz:=1) (t:=u8T) (xs:=(((bmW (pln L) (YS (pln L)) (k + 1)).map bv).set (0 + k / 8 * 1) (bv (by8 ((Zb (pln L) (k + 1) (k / 8) 8 + 2 ^ (k % 8) : Nat) : Int))))) (As:=[]) (h.ent aEt) (by rw [List.length_set,List.length_map,QfH,Nat.mul_one]) (by omega) (by omega);rw [← hx] at h8;exact h8.ent aEt)
  have hus : (nth (pln L) (k + 1)).us = false:=by rw [QL,← QhB];have hq:=h7;first | exact hq | exact Bool.eq_false_iff.2 hq | (simp only [Bool.not_eq_true] at hq;exact hq)
  refine aT4 ?_
  refine aU2 ?_
  exact QP (k + 1) (by omega) (by omega) aSx (fun w h=>by rw [QuY hus];exact h.ent aEt)
 obtain rfl : k = L.length - 1:=by have hq:=h5;omega
 have hend : bmW (pln L) (YS (pln L)) (L.length - 1 + 1) = bmB (pln L):=by rw [show L.length - 1 + 1 = (pln L).length by rw [Qe];omega];exact Qtb
 refine Qi rfl ?_
 refine aU3 ?_
 refine o_q (Z0 rfl rfl Tryz.underlying139 Tryz.underlying9 Tryz.underlying5 aPk (Zd _)) rfl ?_
 refine aU2 ?_
 exact rT rfl rfl (fun w' h'=>⟨by rw [YJ,hend];rfl,h'.below⟩)
theorem Qdt : QS Tryz.prog 23 = some [.string (bs []),.string (bs []),.string (bs [])]:=by kernel_rfl
theorem QxC : QK Tryz.prog 85 = true:=by kernel_rfl
theorem QnH : YY Tryz.prog 23 = some [(0,1),(1,1),(2,1)]:=by kernel_rfl
theorem c25 (w : World) (co mo rm : Int) (a : Option Addr) (cap : Nat) (L : List LNd) (hs : Nt w [] a L) (hi : YM (⟨co,mo,rm,pln L⟩ : Tre) = 0) : Calls Tryz.prog 25 #[.agg #[.int .i64 co,.int .i64 mo,.int .i64 rm,.slice a L.length cap]] w fun en w'=>en = .returned (.agg #[.string (bs (wrI (⟨co,mo,rm,pln L⟩ : Tre)).ro),.string (bs (wrI (⟨co,mo,rm,pln L⟩ : Tre)).al),.string (bs (wrI (⟨co,mo,rm,pln L⟩ : Tre)).bm)]) ∧ Below w.heap.size w w':=by
 have hr9:=Qbe hi
 have h09 : 0 < L.length:=by have:=hr9.1;rwa [show (⟨co,mo,rm,pln L⟩ : Tre).ns = pln L from rfl,Qe] at this
 have hn9:=QaQ hi hr9.1 hr9.2.1
 have hp9 : NdP (nth L 0).pl:=by have hq:=hn9.1.ndp (by have:=hn9.2.1;omega);rwa [show (⟨co,mo,rm,pln L⟩ : Tre).ns = pln L from rfl,QL] at hq
 have hbb : (0 ≤ co ∧ co < 256) ∧ (0 ≤ mo ∧ mo < 256) ∧ 0 ≤ rm ∧ rm < 256:=by have h1:=hr9.2.2.1;have h2:=hr9.2.2.2.1;have h3 : Qs co = 0:=h1;have h4 : XG mo rm = 0:=h2;unfold Qs at h3;unfold XG at h4;split at h3;(split at h4;omega;cases h4);cases h3
 have hL120 : L.length ≤ 120:=by have:=hn9.2.2.2.2;rwa [show (⟨co,mo,rm,pln L⟩ : Tre).ns = pln L from rfl,Qe] at this
 refine eN1 Tryz.func25 Tryz.ntmps25 ?_
 refine aU2 ?_
 refine oBx fun b1 _=>?_
 refine oAl (fun b2 _=>?_) Qdt
 refine aU2 ?_
 refine Qz [6] QN ?_
 refine dLn 0 [[]] ?_
 refine dQ 1 [[]] rfl (Qq rfl Qw7 rfl (fun w1 h1=>c32 w1 co mo rm a cap L (hs.later h1.nil) h09 hp9 hbb)) ?_
 refine dLn 2 [[]] ?_
 refine dQ 3 [[]] rfl (Qq rfl QxC rfl (fun w1 h1=>c85 w1 co mo rm a cap L (hs.later h1.nil) (by omega))) ?_
 refine dV 4 rfl (QD (cs:=[_,_,_]) rfl rfl QnH Qdt rfl) ?_
 refine dH 5 rfl (Qbt rfl Qdt) (fun b3 _=>?_)
 refine dBa ?_
 refine dSt 6 ?_ (hl:=(by simp only [Qf,List.length_set,List.length_cons,List.length_nil,List.length_map];omega))
 refine dTu [] ?_
 refine dNi ?_
 refine aU6 ?_
 refine Qr (α:=Nat) [4,10,11,12,13,14,15,16,17,18,19,20,21,22,23,24,25,26,27,28,29,30,31,32,33,34] (fun k=>[(4,.int .i64 ((k + 1 : Nat) : Int))]) (fun k=>HS w [] [.blk b3 23 3 [.string (bs (Qao (⟨co,mo,rm,pln L⟩ : Tre))),.string (bs (YL (ZK (⟨co,mo,rm,pln L⟩ : Tre)) k)),.string (bs (bmB (pln L)))],.blk b1 37 4 [.int .i64 co,.int .i64 mo,.int .i64 rm,.slice a L.length cap],.blk b2 23 3 [.string (bs []),.string (bs []),.string (bs [])]]) (fun k=>k + 1 ≤ L.length ∧ (YL (ZK (⟨co,mo,rm,pln L⟩ : Tre)) k).length = 512 * k) (fun k=>L.length - k) 0 ⟨by omega,rfl⟩ aSx (fun w h=>h.ent aEt) (fun k hkk=>?_)
 obtain ⟨hk0,hbl⟩:=hkk
 refine aU9 ?_
 refine sCd rfl (fun h4=>?_) fun h4=>?_
 ·have hk : k + 1 < L.length:=by have hq:=h4;omega
  refine aU8 ?_
  refine o_p (Qa rfl rfl rfl Q3 ((k + 1)) (by omega) (by omega) (Rw.some hs.1 (by omega))) rfl ?_
  refine aU ?_
  refine o_q (Qb rfl rfl QeZ ((hs.1.rdj (i:=k + 1) 0 (by omega) rfl))) rfl ?_
  refine aU ?_
  refine sCd rfl (fun h5=>?_) fun h5=>?_
  ·have hk1 : k + 1 < L.length:=by omega
   have hu1 : (nth (pln L) (k + 1)).us = true:=by rw [QL];exact h5
   have hn1:=QaQ hi (i:=k + 1) (by rw [show (⟨co,mo,rm,pln L⟩ : Tre).ns = pln L from rfl,Qe];omega) hu1
   have hq1 : NdP (nth L (k + 1)).pl:=by have hq:=hn1.1.ndp (by have:=hn1.2.1;omega);rwa [show (⟨co,mo,rm,pln L⟩ : Tre).ns = pln L from rfl,QL] at hq
   have hcb1 : (Q7 (nth L (k + 1)).pl).length ≤ 448:=by have hq:=hn1.2.2.1;rw [show (⟨co,mo,rm,pln L⟩ : Tre).ns = pln L from rfl,QL] at hq;omega
   have hnw : (ZK (⟨co,mo,rm,pln L⟩ : Tre) (k + 1)) = Qb8 (nth L (k + 1)).pl ((k + 1 : Nat) : Int) 0 1:=by unfold ZK;rw [if_pos hu1,← QL]
   have hnl : (ZK (⟨co,mo,rm,pln L⟩ : Tre) (k + 1)).length = 512:=by rw [hnw];exact QgN hcb1
   have hblk:=QgN (num:=((k + 1 : Nat) : Int)) (lsn:=0) (usn:=1) hcb1
   refine Qz [7] QN ?_
   refine dFa 0 ?_
   refine dLd 1 [[]] ?_
   refine dLn 2 [[]] ?_
   refine dP 3 ?_
   refine dQ 4 [[]] rfl (Qq rfl Qw4 rfl (fun w1 h1=>c41 w1 co mo rm a cap L ((k + 1 : Nat) : Int) 0 1 (hs.later h1.nil) (by omega) hk1 hq1 hcb1 (by decide) (by decide))) ?_
   refine Qy (show _ = Value.string (bs (Qb8 (nth L (k + 1)).pl ((k + 1 : Nat) : Int) 0 1)) from rfl) ?_
   refine dV 5 rfl (QC rfl rfl rfl (by (try simp only [List.length_append,List.length_cons,List.length_nil,List.length_replicate,List.length_take,List.length_drop]);omega)) ?_
   refine dFa 6 ?_
   refine dSt 7 ?_ (hl:=(by simp only [Qf,List.length_set,List.length_cons,List.length_nil,List.length_map];omega))
   refine dTu [] ?_
   refine dNi ?_
   refine aT4 ?_
   refine Qk (show _ = Value.int .i64 ((k + 1 + 1 : Nat) : Int) from congrArg (Value.int .i64) (by omega)) ?_
   refine aU2 ?_
   exact QP (k + 1) (by omega) ⟨by omega,by rw [YL,List.length_append,hbl,hnl];omega⟩ aSx (fun w h=>by rw [YL,hnw];exact h.ent aEt)
  have hu1 : ¬ (nth (pln L) (k + 1)).us = true:=by rw [QL];have hq:=h5;first | exact hq | (intro h9;have h8 : (nth L (k + 1)).us = true:=h9;rw [h8] at hq;cases hq)
  have hnw : (ZK (⟨co,mo,rm,pln L⟩ : Tre) (k + 1)) = Qhc:=by unfold ZK;rw [if_neg hu1]
  have hnl : (ZK (⟨co,mo,rm,pln L⟩ : Tre) (k + 1)).length = 512:=by rw [hnw];exact Qa2
  have hzl : Qhc.length = 512:=Qa2
  refine Qz [5] QN ?_
  refine dFa 0 ?_
  refine dLd 1 [[]] ?_
  refine dQ 2 [[]] rfl (Qq rfl Qko rfl (fun w1 h1=>c86 w1 512 (by decide))) ?_
  refine dV 3 rfl (QC rfl rfl rfl (by (try simp only [List.length_append,List.length_cons,List.length_nil,List.length_replicate,List.length_take,List.length_drop]);omega)) ?_
  refine dFa 4 ?_
  refine dSt 5 ?_ (hl:=(by simp only [Qf,List.length_set,List.length_cons,List.length_nil,List.length_map];omega))
  refine dTu [] ?_
  refine dNi ?_
  refine aT4 ?_
  refine Qk (show _ = Value.int .i64 ((k + 1 + 1 : Nat) : Int) from congrArg (Value.int .i64) (by omega)) ?_
  refine aU2 ?_
  exact QP (k + 1) (by omega) ⟨by omega,by rw [YL,List.length_append,hbl,hnl];omega⟩ aSx (fun w h=>by rw [YL,hnw];exact h.ent aEt)
 obtain rfl : k = L.length - 1:=by have hq:=h4;omega
 refine Qi rfl ?_
 refine aU5 ?_
 exact Qj (rs:=[.cell 2 23]) rfl (.cell rfl Qgh aPk rfl (.nil)) (fun w' h'=>⟨by rw [wrI,show (⟨co,mo,rm,pln L⟩ : Tre).ns = pln L from rfl,Qe];rfl,h'.below⟩)
theorem Qxf : QK Tryz.prog 77 = true:=by kernel_rfl
instance : TFn Tryz.prog 78:=⟨by kernel_rfl⟩
theorem Qwh : QK Tryz.prog 145 = true:=by kernel_rfl
instance : TFn Tryz.prog 76:=⟨by kernel_rfl⟩
def wfI (t : Tre) : Ixs:=if YM t = 0 then wrI t else ⟨[],[],[]⟩
theorem c77 (w : World) (b : Nat) (co mo rm : Int) (a : Option Addr) (cap : Nat) (L : List LNd) (k : Nat) (hb : Rd w [] b 3 (.slice a L.length cap)) (hs : Nt w [] a L) (hi : YM (⟨co,mo,rm,pln L⟩ : Tre) = 0) (hkk : k + 1 < L.length) : Calls Tryz.prog 77 #[.int .i64 ((k + 1 : Nat) : Int),.pointer (some ⟨b,0,none⟩)] w fun en w'=>en = .returned (.string (bs (ZK (⟨co,mo,rm,pln L⟩ : Tre) (k + 1)))) ∧ Below w.heap.size w w':=by
 have hr9:=Qbe hi
 have h09 : 0 < L.length:=by have:=hr9.1;rwa [show (⟨co,mo,rm,pln L⟩ : Tre).ns = pln L from rfl,Qe] at this
 have hn9:=QaQ hi hr9.1 hr9.2.1
 have hp9 : NdP (nth L 0).pl:=by have hq:=hn9.1.ndp (by have:=hn9.2.1;omega);rwa [show (⟨co,mo,rm,pln L⟩ : Tre).ns = pln L from rfl,QL] at hq
 have hbb : (0 ≤ co ∧ co < 256) ∧ (0 ≤ mo ∧ mo < 256) ∧ 0 ≤ rm ∧ rm < 256:=by have h1:=hr9.2.2.1;have h2:=hr9.2.2.2.1;have h3 : Qs co = 0:=h1;have h4 : XG mo rm = 0:=h2;unfold Qs at h3;unfold XG at h4;split at h3;(split at h4;omega;cases h4);cases h3
 have hL120 : L.length ≤ 120:=by have:=hn9.2.2.2.2;rwa [show (⟨co,mo,rm,pln L⟩ : Tre).ns = pln L from rfl,Qe] at this
 refine eN2 Tryz.func77 Tryz.ntmps77 ?_
 refine aU8 ?_
 refine o_q (Qb rfl rfl Qb4 (hb)) rfl ?_
 refine aU ?_
 refine o_p (Qa rfl rfl rfl Q3 ((k + 1)) (by omega) (by omega) (Rw.some hs.1 (by omega))) rfl ?_
 refine aU ?_
 refine o_q (Qb rfl rfl QeZ ((hs.1.rdj (i:=k + 1) 0 (by omega) rfl))) rfl ?_
 refine aU2 ?_
 refine sCd rfl (fun h1=>?_) fun h1=>?_
 ·have hu1 : ¬ (nth (pln L) (k + 1)).us = true:=by rw [QL];have hq:=h1;first | exact hq | (intro h9;have h8 : (nth L (k + 1)).us = true:=h9;rw [h8] at hq;cases hq)
  have hnw : (ZK (⟨co,mo,rm,pln L⟩ : Tre) (k + 1)) = Qhc:=by unfold ZK;rw [if_neg hu1]
  have hnl : (ZK (⟨co,mo,rm,pln L⟩ : Tre) (k + 1)).length = 512:=by rw [hnw];exact Qa2
  refine aU2 ?_
  refine oCq rfl (fun w1 h1=>c78 w1) ?_
  refine aU2 ?_
  exact rT rfl rfl (fun w' h'=>⟨by rw [hnw];rfl,h'.below⟩)
 have hk1 : k + 1 < L.length:=by omega
 have hu1 : (nth (pln L) (k + 1)).us = true:=by rw [QL];have hq:=h1;first | exact hq | simpa using hq
 have hn1:=QaQ hi (i:=k + 1) (by rw [show (⟨co,mo,rm,pln L⟩ : Tre).ns = pln L from rfl,Qe];omega) hu1
 have hq1 : NdP (nth L (k + 1)).pl:=by have hq:=hn1.1.ndp (by have:=hn1.2.1;omega);rwa [show (⟨co,mo,rm,pln L⟩ : Tre).ns = pln L from rfl,QL] at hq
 have hcb1 : (Q7 (nth L (k + 1)).pl).length ≤ 448:=by have hq:=hn1.2.2.1;rw [show (⟨co,mo,rm,pln L⟩ : Tre).ns = pln L from rfl,QL] at hq;omega
 have hnw : (ZK (⟨co,mo,rm,pln L⟩ : Tre) (k + 1)) = Qb8 (nth L (k + 1)).pl ((k + 1 : Nat) : Int) 0 1:=by unfold ZK;rw [if_pos hu1,← QL]
 have hnl : (ZK (⟨co,mo,rm,pln L⟩ : Tre) (k + 1)).length = 512:=by rw [hnw];exact QgN hcb1
 refine aU4 ?_
 refine o_q (Qb rfl rfl Qb4 (hb)) rfl ?_
 refine aU ?_
 refine o_p (Qa rfl rfl rfl Q3 ((k + 1)) (by omega) (by omega) (Rw.some hs.1 (by omega))) rfl ?_
 refine o_q (Qw _ rfl rfl XC rfl (Rw.rd hs.1 (by omega))) rfl ?_
 refine o_p (QD (cs:=[_,_,_,_,_]) rfl rfl Qfd QbU rfl) rfl ?_
 refine aU ?_
 refine oCq rfl (fun w1 h1=>c79 w1 (nth L (k + 1)) ((k + 1 : Nat) : Int) 0 1 ((hs.es hk1).later h1) ((hs.cs hk1).later h1) hq1 hcb1 (by omega) (by decide) (by decide)) ?_
 refine aU2 ?_
 exact rT rfl rfl (fun w' h'=>⟨by rw [hnw];rfl,h'.below⟩)
theorem c76 (w : World) (co mo rm : Int) (a : Option Addr) (cap : Nat) (L : List LNd) (q : Nat) (cv : Array Value) (blk : Nat → List UInt8) (hs : Nt w [] a L) (h0 : 0 < L.length) (hl : L.length ≤ 1000) (hp : NdP (nth L 0).pl) (hcap : L.length ≤ cap) (hc9 : cap ≤ maxLen) (hbk : ∀ i,(blk i).length ≤ 512) (hq : QK Tryz.prog q = true) (hc : ∀ k w1,k + 1 < L.length → HS w [] [] w1 → Calls Tryz.prog q (#[] ++ [.int .i64 ((k + 1 : Nat) : Int)].toArray ++ cv) w1 fun en w2=>en = .returned (.string (bs (blk (k + 1)))) ∧ Below w1.heap.size w1 w2) : Calls Tryz.prog 76 #[.agg #[.int .i64 co,.int .i64 mo,.int .i64 rm,.slice a L.length cap],.func (.func q) #[] cv] w fun en w'=>en = .returned (.agg #[.string (bs (Qao (⟨co,mo,rm,pln L⟩ : Tre))),.string (bs (YL blk (L.length - 1))),.string (bs (bmB (pln L)))]) ∧ Below w.heap.size w w':=by
 refine eN2 Tryz.func76 Tryz.ntmps76 ?_
 refine aU2 ?_
 refine oBx fun b1 _=>?_
 refine oAl (fun b2 _=>?_) Qdt
 refine QdM ?_
 refine Qr (α:=Nat × Option Addr × Nat) [5,6,7,8,9,10,11,12,13,14,15,16,17,18] (fun x=>[(6,.int .i64 ((x.1 + 1 : Nat) : Int)),(5,.slice x.2.1 (YL blk x.1).length x.2.2)]) (fun x=>HS w [] [.byz x.2.1 x.2.2 (YL blk x.1),.blk b1 37 4 [.int .i64 co,.int .i64 mo,.int .i64 rm,.slice a L.length cap],.blk b2 23 3 [.string (bs []),.string (bs []),.string (bs [])]]) (fun x=>x.1 + 1 ≤ L.length ∧ (YL blk x.1).length ≤ 512 * x.1) (fun x=>L.length - x.1) (0,none,0) ⟨by (try simp only []);omega,Nat.le_refl _⟩ aSx (fun w h=>(h.byz_nil.ent aEt)) (fun ⟨k,ga,gc⟩ hkk=>?_)
 dsimp only
 simp only [] at hkk
 obtain ⟨hk0,hbl⟩:=hkk
 have hb1:=hbk (k + 1)
 refine aU9 ?_
 refine sCd rfl (fun h3=>?_) fun h3=>?_
 ·have hk : k + 1 < L.length:=by have hq:=h3;omega
  refine aU7 ?_
  refine o_q (YO rfl rfl hq rfl (fun w1 h1=>hc k w1 (by omega) (h1.ent aEt))) rfl ?_
  refine o_h (QaV rfl rfl rfl QA Tryz.underlying9 Z4 aPk (by omega) (by simp only [maxLen];omega)) rfl (fun ⟨b4,c5⟩ h6=>?_)
  refine aT6 ?_
  refine Qk (show _ = Value.int .i64 ((k + 1 + 1 : Nat) : Int) from congrArg (Value.int .i64) (by omega)) ?_
  refine aU2 ?_
  exact sBk (k + 1,b4,c5) (by (try simp only []);omega) ⟨by (try simp only []);omega,by (try simp only []);rw [YL,List.length_append];omega⟩
 obtain rfl : k = L.length - 1:=by have hq:=h3;omega
 refine Qi rfl ?_
 refine aU ?_
 refine Qio (fun w9 h=>h.byz_own aPk) ?_
 refine Qz [8] QN ?_
 refine dLn 0 [[]] ?_
 refine dQ 1 [[]] rfl (Qq rfl Qux rfl (fun w1 h1=>c90 w1 co mo rm a cap L (hs.later h1.nil) h0 hp)) ?_
 refine dP 2 ?_
 refine dQ 3 [[]] rfl (Z0 rfl rfl Tryz.underlying139 Tryz.underlying9 Tryz.underlying5 aPk (Zd _)) ?_
 refine dFa 4 ?_
 refine dLd 5 [[]] ?_
 refine dQ 6 [[]] rfl (Qq rfl Qwh rfl (fun w1 h1=>c145 w1 a cap L (hs.1.later h1.nil) h0 hl hcap hc9)) ?_
 refine dV 7 rfl (QD (cs:=[_,_,_]) rfl rfl QnH Qdt rfl) ?_
 refine dSt 8 ?_ (hl:=(by simp only [Qf,List.length_set,List.length_cons,List.length_nil,List.length_map];omega))
 refine dTu [] ?_
 refine dNi ?_
 exact Qj (rs:=[.cell 4 23]) rfl (.cell rfl Qgh aPk rfl (.nil)) (fun w' h'=>⟨by rw [YJ];rfl,h'.below⟩)
theorem c20 (w : World) (co mo rm : Int) (a : Option Addr) (cap : Nat) (L : List LNd) (hs : Nt w [] a L) (hB : Bd (pln L)) (hcap : L.length ≤ cap) (hc9 : cap ≤ maxLen) (hkl : ∀ i,i < L.length → ∀ x ∈ (nth L i).es,x.key.length ≤ 1000000 ∧ x.val.length ≤ 1000000) : Calls Tryz.prog 20 #[.agg #[.int .i64 co,.int .i64 mo,.int .i64 rm,.slice a L.length cap]] w fun en w'=>en = .returned (.tuple #[.agg #[.string (bs (wfI (⟨co,mo,rm,pln L⟩ : Tre)).ro),.string (bs (wfI (⟨co,mo,rm,pln L⟩ : Tre)).al),.string (bs (wfI (⟨co,mo,rm,pln L⟩ : Tre)).bm)],.int .i64 (YM (⟨co,mo,rm,pln L⟩ : Tre))]) ∧ Below w.heap.size w w':=by
 refine eN1 Tryz.func20 Tryz.ntmps20 ?_
 refine aU2 ?_
 refine oBx fun b1 _=>?_
 refine oAl (fun b2 _=>?_) Qdt
 refine aU6 ?_
 refine oCq rfl (fun w1 h1=>c75 w1 co mo rm a cap L (hs.later h1.nil) hB hkl) ?_
 refine aU7 ?_
 refine sCd rfl (fun h3=>?_) fun h3=>?_
 ·have hE : ¬ YM (⟨co,mo,rm,pln L⟩ : Tre) = 0:=h3
  have hW : wfI (⟨co,mo,rm,pln L⟩ : Tre) = ⟨[],[],[]⟩:=if_neg hE
  refine aU2 ?_
  refine o_p (QD (cs:=[_,_,_]) rfl rfl QnH Qdt rfl) rfl ?_
  refine aU4 ?_
  exact Qj (rs:=[.cell 2 23,.tmp 3]) rfl (.cell rfl Qgh aPk rfl (.tmp rfl (.nil))) (fun w' h'=>⟨by rw [hW];rfl,h'.below⟩)
 have hi : YM (⟨co,mo,rm,pln L⟩ : Tre) = 0:=h3
 have hW : wfI (⟨co,mo,rm,pln L⟩ : Tre) = wrI (⟨co,mo,rm,pln L⟩ : Tre):=if_pos hi
 have hr9:=Qbe hi
 have h09 : 0 < L.length:=by have:=hr9.1;rwa [show (⟨co,mo,rm,pln L⟩ : Tre).ns = pln L from rfl,Qe] at this
 have hn9:=QaQ hi hr9.1 hr9.2.1
 have hp9 : NdP (nth L 0).pl:=by have hq:=hn9.1.ndp (by have:=hn9.2.1;omega);rwa [show (⟨co,mo,rm,pln L⟩ : Tre).ns = pln L from rfl,QL] at hq
 have hbb : (0 ≤ co ∧ co < 256) ∧ (0 ≤ mo ∧ mo < 256) ∧ 0 ≤ rm ∧ rm < 256:=by have h1:=hr9.2.2.1;have h2:=hr9.2.2.2.1;have h3 : Qs co = 0:=h1;have h4 : XG mo rm = 0:=h2;unfold Qs at h3;unfold XG at h4;split at h3;(split at h4;omega;cases h4);cases h3
 have hL120 : L.length ≤ 120:=by have:=hn9.2.2.2.2;rwa [show (⟨co,mo,rm,pln L⟩ : Tre).ns = pln L from rfl,Qe] at this
 have hbk9 : ∀ i,(ZK (⟨co,mo,rm,pln L⟩ : Tre) i).length ≤ 512:=fun i=>Nat.le_of_eq ((QcA hi).1.len i)
 refine aU5 ?_
 refine oCq rfl (fun w1 h1=>c76 w1 co mo rm a cap L 77 _ (ZK (⟨co,mo,rm,pln L⟩ : Tre)) (hs.later h1.nil) h09 (by omega) hp9 hcap hc9 hbk9 Qxf (fun k w2 hk h2=>c77 w2 b1 co mo rm a cap L k ((h1.call h2).rd_blk (Mc:=[]) aPk rfl (by simp)) (hs.later (h1.call h2).nil) hi hk)) ?_
 refine aU3 ?_
 exact Qj (rs:=[.cell 2 23,.tmp 3]) rfl (.cell rfl Qgh aPk rfl (.tmp rfl (.nil))) (fun w' h'=>⟨by rw [hW,hi,wrI,show (⟨co,mo,rm,pln L⟩ : Tre).ns = pln L from rfl,Qe];rfl,h'.below⟩)
theorem QeS : QS Tryz.prog 108 = some [.string (bs []),.string (bs []),.string (bs []),.int .i64 0,.int .i64 0,.int .i64 0,.slice none 0 0]:=by kernel_rfl
theorem Qwn : YY Tryz.prog 108 = some [(0,3),(3,4)]:=by kernel_rfl
instance : TFd Tryz.prog 108 1 3 37:=⟨by kernel_rfl⟩
theorem Qub : QK Tryz.prog 61 = true:=by kernel_rfl
instance : TFn Tryz.prog 61:=⟨Qub⟩
theorem QfJ {x : Ixs} {v : Bool} (hE : ixE x = if x.n = 0 ∨ ZM x.bm (x.n - 1) = true then 0 else 3) (hv : v = true ↔ (x.n = 0 ∨ ZM x.bm (x.n - 1) = true)) : ixE x = bif v then 0 else 3:=by
  rw [hE];cases v with
  | false=>rw [if_neg (fun h=>by cases hv.2 h)];rfl
  | true=>rw [if_pos (hv.1 rfl)];rfl
theorem QjS {x : Ixs} (h : ¬ x.n = 0) : Qa9 x x.n = true ↔ (x.n = 0 ∨ ZM x.bm (x.n - 1) = true):=by
  unfold Qa9;rw [decide_eq_true (show 1 ≤ x.n ∧ x.n ≤ x.n by omega),Bool.true_and];exact ⟨.inr,fun h9=>h9.elim (fun h8=>absurd h8 h) id⟩
theorem QdR {x : Ixs} {u v : Bool} (hu : u = true ↔ x.al.length ≤ 61440 ∧ x.ro.length ≤ 200000) (hv : v = true ↔ x.al.length % 512 = 0 ∧ x.bm.length = QF ((x.n + 7) / 8)) :
    (XN [.int .i64 (bif u then 0 else 8),.int .i64 (bif v then 0 else 10)] = 0 → (x.al.length ≤ 61440 ∧ x.ro.length ≤ 200000) ∧ x.al.length % 512 = 0 ∧ x.bm.length = QF ((x.n + 7) / 8)) ∧
    (¬ XN [.int .i64 (bif u then 0 else 8),.int .i64 (bif v then 0 else 10)] = 0 → ixE x = XN [.int .i64 (bif u then 0 else 8),.int .i64 (bif v then 0 else 10)]):=by
  cases u with
  | false=>exact ⟨fun h=>absurd (show (8 : Int) = 0 from h) (by decide),fun _=>QjW fun h9=>by cases hu.2 h9⟩
  | true=>
    cases v with
    | false=>exact ⟨fun h=>absurd (show (10 : Int) = 0 from h) (by decide),fun _=>QjM (hu.1 rfl) fun h9=>by cases hv.2 h9⟩
    | true=>exact ⟨fun _=>⟨hu.1 rfl,hv.1 rfl⟩,fun h=>absurd rfl h⟩
set_option maxHeartbeats 2000000 in
theorem c56 (w : World) (x : Ixs) (hl : x.al.length ≤ 900000) (hr : x.ro.length ≤ 1000000) (hb : x.bm.length ≤ 100000) : Calls Tryz.prog 56 #[.agg #[.string (bs x.ro),.string (bs x.al),.string (bs x.bm)]] w fun en w'=>∃ g : (Int × Int × Int) × (Option Addr × Nat) × List LNd,en = .returned (.tuple #[.agg #[.string (bs x.ro),.string (bs x.al),.string (bs x.bm),.int .i64 g.1.1,.int .i64 g.1.2.1,.int .i64 g.1.2.2,.slice g.2.1.1 g.2.2.length g.2.1.2],.int .i64 (ixE x)]) ∧ (ixE x = 0 → (⟨g.1.1,g.1.2.1,g.1.2.2,pln g.2.2⟩ : Tre) = (Qd x.ro).1) ∧ HS w [] [.nodes 27 69 g.2.1.1 g.2.1.2 g.2.2] w':=by
 have hn9 : x.n ≤ x.al.length:=Nat.div_le_self _ _
 have hpd : QF ((x.n + 7) / 8) = ((x.n + 7) / 8 + 7) / 8 * 8:=rfl
 refine eN1 Tryz.func56 Tryz.ntmps56 ?_
 refine aU2 ?_
 refine oBx fun b1 _=>?_
 refine oAl (fun b2 _=>?_) QeS
 refine aU5 ?_
 refine o_p (QD (cs:=[_,_,_,_,_,_,_]) rfl rfl Qwn QeS rfl) rfl ?_
 refine oAl (fun b3 _=>?_) QeS
 refine aU5 ?_
 refine oCq rfl (fun w1 h1=>Qv8 w1 x 0 0 0 none 0 0 (by omega)) ?_
 refine aT6 ?_
 refine aT ?_
 refine o_p (XD rfl rfl rfl (by omega) (by omega) (by omega)) rfl ?_
 refine aU3 ?_
 refine Qi7 (α:=Int) [7,17,18,19,20,21,22,23,24,25,26,27,28,29,30,31,32,33,34,35,36,37,38,39,40,41,42,43,44,45,46] (fun e=>[(7,.int .i64 e)]) (fun e=>(e = 0 → (x.al.length ≤ 61440 ∧ x.ro.length ≤ 200000) ∧ x.al.length % 512 = 0 ∧ x.bm.length = QF ((x.n + 7) / 8)) ∧ (¬ e = 0 → ixE x = e)) ?_ ?_
 ·skip
  refine Qz [] QN ?_
  refine dFa 0 ?_
  refine dLd 1 [] ?_
  refine dV 2 rfl (Qg rfl rfl Tryz.underlying9) ?_
  refine dP 3 ?_
  refine dP 4 ?_
  apply Xx 21
  ·exact rfl
  ·intro hg4
   have hs5:=hg4;try simp only [dT] at hs5
   refine dFo 5 21 hg4 ?_
   refine dQo 6 21 [] hg4 rfl rfl rfl (YB rfl rfl Zq aPk rfl) ?_
   refine dVo 7 21 hg4 rfl rfl rfl (Qg rfl rfl Tryz.underlying9) ?_
   refine dPo 8 21 hg4 ?_
   refine dV 9 rfl (Xu rfl rfl hg4 rfl) ?_
   refine dQ 10 [] rfl (Qq rfl Qd1 rfl (fun w1 h1=>c60 w1 _ _)) ?_
   refine dFa 11 ?_
   refine dLd 12 [] ?_
   refine dV 13 rfl (Qg rfl rfl Tryz.underlying9) ?_
   refine dV 14 rfl (Ze rfl rfl rfl (by omega) (by omega)) ?_
   refine dP 15 ?_
   refine dP 16 ?_
   apply Xx 33
   ·exact rfl
   ·intro hg6
    have hs7:=hg6;try simp only [dT] at hs7
    refine dFo 17 33 hg6 ?_
    refine dQo 18 33 [] hg6 rfl rfl rfl (YB rfl rfl Zq aPk rfl) ?_
    refine dVo 19 33 hg6 rfl rfl rfl (Qg rfl rfl Tryz.underlying9) ?_
    refine dPo 20 33 hg6 ?_
    refine dPo 21 33 hg6 ?_
    try refine dWr ?_
    refine dPo 22 33 hg6 ?_
    try refine dWr ?_
    refine dVo 23 33 hg6 rfl rfl rfl (XD rfl rfl rfl (by omega) (by omega) (by omega)) ?_
    refine dPo 24 33 hg6 ?_
    try refine dWr ?_
    refine dPo 25 33 hg6 ?_
    refine dV 26 rfl (Xu rfl rfl hg6 rfl) ?_
    refine dQ 27 [] rfl (Qq rfl Qd1 rfl (fun w1 h1=>c60 w1 _ _)) ?_
    refine dH 28 rfl (Qm (cs:=[_,_]) rfl rfl YK QaE rfl rfl rfl) (fun b8 _=>?_)
    refine dBa ?_
    refine dQ 29 [] rfl (Qq rfl Qki rfl (fun w1 h1=>f59 h1 aPk (by rfl) (by rfl) (by decide))) ?_
    refine dP 30 ?_
    refine dNi ?_
    exact Qt (XN [.int .i64 (bif decide ((x.ro.length : Int) ≤ 200000) then 0 else 8),.int .i64 (bif decide ((x.bm.length : Int) = (((x.n : Int) + 8 - 1) / 8 + 8 - 1) / 8 * 8) then 0 else 10)]) (QdR (x:=x) (by first | (simp only [decide_eq_true_eq];omega) | (simp;omega) | grind) (by first | (simp only [decide_eq_true_eq];omega) | (simp;omega) | grind)) aSx (fun w h=>h.ent aEt)
   intro hg9
   have hs10:=hg9;try simp only [dN] at hs10
   refine dOf 17 33 hg9 ?_
   refine dOf 18 33 hg9 ?_
   refine dOf 19 33 hg9 ?_
   refine dOf 20 33 hg9 ?_
   refine dOf 21 33 hg9 ?_
   refine dOf 22 33 hg9 ?_
   refine dOf 23 33 hg9 ?_
   refine dOf 24 33 hg9 ?_
   refine dOf 25 33 hg9 ?_
   refine dV 26 rfl (Xn rfl rfl hg9 rfl) ?_
   refine dQ 27 [] rfl (Qq rfl Qd1 rfl (fun w1 h1=>c60 w1 _ _)) ?_
   refine dH 28 rfl (Qm (cs:=[_,_]) rfl rfl YK QaE rfl rfl rfl) (fun b11 _=>?_)
   refine dBa ?_
   refine dQ 29 [] rfl (Qq rfl Qki rfl (fun w1 h1=>f59 h1 aPk (by rfl) (by rfl) (by decide))) ?_
   refine dP 30 ?_
   refine dNi ?_
   exact Qt (XN [.int .i64 (bif decide ((x.ro.length : Int) ≤ 200000) then 0 else 8),.int .i64 (bif false then 0 else 10)]) (QdR (x:=x) (by first | (simp only [decide_eq_true_eq];omega) | (simp;omega) | grind) (by first | (simp only [decide_eq_true_eq];omega) | (simp;omega) | grind)) aSx (fun w h=>h.ent aEt)
  intro hg12
  have hs13:=hg12;try simp only [dN] at hs13
  refine dOf 5 21 hg12 ?_
  refine dOf 6 21 hg12 ?_
  refine dOf 7 21 hg12 ?_
  refine dOf 8 21 hg12 ?_
  refine dV 9 rfl (Xn rfl rfl hg12 rfl) ?_
  refine dQ 10 [] rfl (Qq rfl Qd1 rfl (fun w1 h1=>c60 w1 _ _)) ?_
  refine dFa 11 ?_
  refine dLd 12 [] ?_
  refine dV 13 rfl (Qg rfl rfl Tryz.underlying9) ?_
  refine dV 14 rfl (Ze rfl rfl rfl (by omega) (by omega)) ?_
  refine dP 15 ?_
  refine dP 16 ?_
  apply Xx 33
  ·exact rfl
  ·intro hg14
   have hs15:=hg14;try simp only [dT] at hs15
   refine dFo 17 33 hg14 ?_
   refine dQo 18 33 [] hg14 rfl rfl rfl (YB rfl rfl Zq aPk rfl) ?_
   refine dVo 19 33 hg14 rfl rfl rfl (Qg rfl rfl Tryz.underlying9) ?_
   refine dPo 20 33 hg14 ?_
   refine dPo 21 33 hg14 ?_
   try refine dWr ?_
   refine dPo 22 33 hg14 ?_
   try refine dWr ?_
   refine dVo 23 33 hg14 rfl rfl rfl (XD rfl rfl rfl (by omega) (by omega) (by omega)) ?_
   refine dPo 24 33 hg14 ?_
   try refine dWr ?_
   refine dPo 25 33 hg14 ?_
   refine dV 26 rfl (Xu rfl rfl hg14 rfl) ?_
   refine dQ 27 [] rfl (Qq rfl Qd1 rfl (fun w1 h1=>c60 w1 _ _)) ?_
   refine dH 28 rfl (Qm (cs:=[_,_]) rfl rfl YK QaE rfl rfl rfl) (fun b16 _=>?_)
   refine dBa ?_
   refine dQ 29 [] rfl (Qq rfl Qki rfl (fun w1 h1=>f59 h1 aPk (by rfl) (by rfl) (by decide))) ?_
   refine dP 30 ?_
   refine dNi ?_
   exact Qt (XN [.int .i64 (bif false then 0 else 8),.int .i64 (bif decide ((x.bm.length : Int) = (((x.n : Int) + 8 - 1) / 8 + 8 - 1) / 8 * 8) then 0 else 10)]) (QdR (x:=x) (by first | (simp only [decide_eq_true_eq];omega) | (simp;omega) | grind) (by first | (simp only [decide_eq_true_eq];omega) | (simp;omega) | grind)) aSx (fun w h=>h.ent aEt)
  intro hg17
  have hs18:=hg17;try simp only [dN] at hs18
  refine dOf 17 33 hg17 ?_
  refine dOf 18 33 hg17 ?_
  refine dOf 19 33 hg17 ?_
  refine dOf 20 33 hg17 ?_
  refine dOf 21 33 hg17 ?_
  refine dOf 22 33 hg17 ?_
  refine dOf 23 33 hg17 ?_
  refine dOf 24 33 hg17 ?_
  refine dOf 25 33 hg17 ?_
  refine dV 26 rfl (Xn rfl rfl hg17 rfl) ?_
  refine dQ 27 [] rfl (Qq rfl Qd1 rfl (fun w1 h1=>c60 w1 _ _)) ?_
  refine dH 28 rfl (Qm (cs:=[_,_]) rfl rfl YK QaE rfl rfl rfl) (fun b19 _=>?_)
  refine dBa ?_
  refine dQ 29 [] rfl (Qq rfl Qki rfl (fun w1 h1=>f59 h1 aPk (by rfl) (by rfl) (by decide))) ?_
  refine dP 30 ?_
  refine dNi ?_
  exact Qt (XN [.int .i64 (bif false then 0 else 8),.int .i64 (bif false then 0 else 10)]) (QdR (x:=x) (by first | (simp only [decide_eq_true_eq];omega) | (simp;omega) | grind) (by first | (simp only [decide_eq_true_eq];omega) | (simp;omega) | grind)) aSx (fun w h=>h.ent aEt)
 intro e9 he9
 refine aU6 ?_
 refine sCd rfl (fun h20=>?_) fun h20=>?_
 ·have hR : ixE x = e9:=he9.2 h20
  refine aU7 ?_
  exact Qj (rs:=[.cell 2 108,.tmp 3]) rfl (.cell rfl ZT aPk rfl (.tmp rfl (.nil))) (fun w' h'=>⟨((0,0,0),(none,0),[]),by rw [hR];rfl,(fun h9=>by rw [hR] at h9;exact absurd h9 (by assumption)),(QV 27 69 h'.nil).ent aEt⟩)
 obtain ⟨hA,hBB⟩:=he9.1 h20
 refine aU6 ?_
 refine oCh rfl (fun w1 h1=>c28 w1 x.ro hr) (fun ⟨⟨ra,rc⟩,RL⟩ hRL=>?_)
 refine Qbn ?_
 refine sCd rfl (fun h21=>?_) fun h21=>?_
 ·have hR:=QnD hA hBB h21
  refine aU7 ?_
  exact Qj (rs:=[.cell 2 108,.tmp 3]) rfl (.cell rfl ZT aPk rfl (.tmp rfl (.nil))) (fun w' h'=>⟨(((Qd x.ro).1.co,(Qd x.ro).1.mo,(Qd x.ro).1.rm),(ra,rc),RL),by rw [hR];rfl,(fun h9=>by rw [hR] at h9;first | exact absurd h9 (by assumption) | cases h9),h'.ent aEt⟩)
 have hC : (Qd x.ro).2 = 0:=h21
 refine aU6 ?_
 refine o_p (Qg rfl rfl Tryz.underlying9) rfl ?_
 refine aT ?_
 refine aU3 ?_
 refine Ql (L':=[(1,_),(2,_),(3,_),(4,_),(5,_),(65,_),(66,_)]) aSx (fun _ h=>h) ?_
 refine Qr (α:=Nat) [3,8,66,67,68,69,70,71,72,73,74,75,76,77,78,79,80,81,82,83,84,85] (fun k=>[(66,.int .i64 (k : Int))]) (fun _=>HS w [] [.nodes 27 69 ra rc RL,.blk b3 108 7 [.string (bs x.ro),.string (bs x.al),.string (bs x.bm),.int .i64 (Qd x.ro).1.co,.int .i64 (Qd x.ro).1.mo,.int .i64 (Qd x.ro).1.rm,.slice ra RL.length rc],.blk b2 108 7 [.string (bs []),.string (bs []),.string (bs []),.int .i64 0,.int .i64 0,.int .i64 0,.slice none 0 0],.blk b1 23 3 [.string (bs x.ro),.string (bs x.al),.string (bs x.bm)]]) (fun k=>k ≤ 8 * x.bm.length ∧ ∀ j,j < k → x.n ≤ j → ZM x.bm j = false) (fun k=>8 * x.bm.length - k) 0 ⟨Nat.zero_le _,fun j h=>absurd h (Nat.not_lt_zero _)⟩ aSx (fun w h=>h.ent aEt) (fun k hkk=>?_)
 obtain ⟨hk1,hk2⟩:=hkk
 refine aU5 ?_
 refine sCd rfl (fun h22=>?_) fun h22=>?_
 ·have hk : k < 8 * x.bm.length:=by have hq:=h22;omega
  refine Qgs ?_
  refine Yq 11 72 83 rfl
   (fun hg23 _=>by
    refine aU7 ?_
    refine o_p (XD rfl rfl rfl (by omega) (by omega) (by omega)) rfl ?_
    refine aU ?_
    refine o_p (Xi rfl rfl rfl Tryz.underlying9 (k / 8) (by omega) (by omega)) rfl ?_
    refine Qk (show _ = Value.int .u8 ((ub1 x.bm (k / 8) : Nat) : Int) from rfl) ?_
    refine aU3 ?_
    refine o_p (Ze rfl rfl rfl (by omega) (by omega)) rfl ?_
    refine aU ?_
    refine o_p (Qep rfl rfl rfl (by omega) (k % 8) (by show min _ 8 = _;omega)) rfl ?_
    refine aU4 ?_
    exact oJt 11 83)
   (fun hg25 _=>by
    refine Zv ?_
    exact oJf 11 83) ?_
  refine aU ?_
  refine sCd rfl (fun h27=>?_) fun h27=>?_
  ·have hR:=QmH hA hBB hC (Qj6 (x:=x) (j:=k) (by have hq:=h27;omega) hk (by rw [← QgE];have hq:=h27;exact decide_eq_true hq.2))
   refine aU6 ?_
   exact Qj (rs:=[.cell 2 108,.tmp 3]) rfl (.cell rfl ZT aPk rfl (.tmp rfl (.nil))) (fun w' h'=>⟨(((Qd x.ro).1.co,(Qd x.ro).1.mo,(Qd x.ro).1.rm),(ra,rc),RL),by rw [hR];rfl,(fun h9=>by rw [hR] at h9;cases h9),h'.ent aEt⟩)
  have hZ : x.n ≤ k → ZM x.bm k = false:=fun h9=>by rw [← QgE];refine decide_eq_false fun h8=>?_;have hq:=h27;grind
  refine aT4 ?_
  refine aU2 ?_
  exact sBk (k + 1) (by omega) ⟨by omega,fun j hj hn=>(Nat.lt_or_ge j k).elim (fun h=>hk2 j h hn) (fun h=>by obtain rfl : j = k:=(by omega);exact hZ hn)⟩
 have hO:=Qnf (x:=x) (fun j h1 h2=>hk2 j (by have hq:=h22;omega) h1)
 have hE:=QmN hA hBB hC hO
 refine Qi rfl ?_
 refine aU ?_
 refine Qz [9] QN ?_
 refine dLn 0 [[]] ?_
 refine dP 1 ?_
 refine dP 2 ?_
 refine dP 3 ?_
 apply Xx 89
 ·exact rfl
 ·intro hg28
  have hs29:=hg28;try simp only [dT] at hs29
  refine dOf 4 89 hg28 ?_
  refine dOf 5 89 hg28 ?_
  refine dOf 6 89 hg28 ?_
  refine dV 7 rfl (Xu rfl rfl hg28 rfl) ?_
  refine dQ 8 [[]] rfl (Qq rfl Qd1 rfl (fun w1 h1=>c60 w1 _ _)) ?_
  refine dSt 9 ?_ (hl:=(by simp only [Qf,List.length_set,List.length_cons,List.length_nil,List.length_map];omega))
  refine dTu [] ?_
  refine dP 10 ?_
  refine dNi ?_
  exact Qj (rs:=[.cell 2 108,.tmp 3]) rfl (.cell rfl ZT aPk rfl (.tmp rfl (.nil))) (fun w' h'=>⟨(((Qd x.ro).1.co,(Qd x.ro).1.mo,(Qd x.ro).1.rm),(ra,rc),RL),(by first | (rw [QfJ hE (v:=true) ⟨fun _=>.inl (by grind),fun _=>rfl⟩];rfl) | (rw [QfJ hE (v:=Qa9 x x.n) (QjS (by grind))];rfl) | (exfalso;grind)),(fun _=>by rw [hRL]),h'.ent aEt⟩)
 intro hg30
 have hs31:=hg30;try simp only [dN] at hs31
 refine dQo 4 89 [[8,6]] hg30 rfl rfl rfl (Z5 rfl rfl ZT aPk rfl) ?_
 refine dPo 5 89 hg30 ?_
 refine dQo 6 89 [[8]] hg30 rfl rfl rfl (Qq rfl Qub rfl (fun w1 h1=>c61 w1 x (Qd x.ro).1.co (Qd x.ro).1.mo (Qd x.ro).1.rm ra RL.length rc x.n (by omega) (by omega))) ?_
 refine dV 7 rfl (Xn rfl rfl hg30 rfl) ?_
 refine dQ 8 [[]] rfl (Qq rfl Qd1 rfl (fun w1 h1=>c60 w1 _ _)) ?_
 refine dSt 9 ?_ (hl:=(by simp only [Qf,List.length_set,List.length_cons,List.length_nil,List.length_map];omega))
 refine dTu [] ?_
 refine dP 10 ?_
 refine dNi ?_
 exact Qj (rs:=[.cell 2 108,.tmp 3]) rfl (.cell rfl ZT aPk rfl (.tmp rfl (.nil))) (fun w' h'=>⟨(((Qd x.ro).1.co,(Qd x.ro).1.mo,(Qd x.ro).1.rm),(ra,rc),RL),(by first | (rw [QfJ hE (v:=true) ⟨fun _=>.inl (by grind),fun _=>rfl⟩];rfl) | (rw [QfJ hE (v:=Qa9 x x.n) (QjS (by grind))];rfl) | (exfalso;grind)),(fun _=>by rw [hRL]),h'.ent aEt⟩)
def QlO (x : Ixs) : Bool:=((decide ((x.al.length : Int) ≤ 10241) || (decide ((x.al.length : Int) > 61440) && decide ((x.al.length : Int) < 200000))) && decide ((x.ro.length : Int) ≤ 500)) && decide ((x.bm.length : Int) ≤ 40)
theorem QmL {x : Ixs} (h : QlO x = true) : x.al.length ≤ 200000 ∧ x.ro.length ≤ 500 ∧ x.bm.length ≤ 40:=by
  simp only [QlO,Bool.and_eq_true,Bool.or_eq_true,decide_eq_true_eq] at h;omega
theorem c12 (w : World) (x : Ixs) : Calls Tryz.prog 12 #[.agg #[.string (bs x.ro),.string (bs x.al),.string (bs x.bm)]] w fun en w'=>en = .returned (.bool (QlO x)) ∧ Below w.heap.size w w':=by
 refine eN1 Tryz.func12 Tryz.ntmps12 ?_
 refine aU2 ?_
 refine oBx fun b1 _=>?_
 refine aU6 ?_
 refine o_p (Qg rfl rfl Tryz.underlying9) rfl ?_
 refine aU2 ?_
 refine oOr 11 7 18 rfl
  (fun hg2 _=>by
   refine aU5 ?_
   refine o_p (Qg rfl rfl Tryz.underlying9) rfl ?_
   refine aU4 ?_
   refine Yq 5 12 17 rfl
    (fun hg4 _=>by
     refine aU5 ?_
     refine o_p (Qg rfl rfl Tryz.underlying9) rfl ?_
     refine aU3 ?_
     exact oJt 5 17)
    (fun hg6 _=>by
     refine aU5 ?_
     exact oJf 5 17) ?_
   exact oJf 7 18)
  (fun hg8 _=>by
   refine Zv ?_
   exact oJt 11 18) ?_
 refine aU ?_
 refine Yq 5 19 24 rfl
  (fun hg10 _=>by
   refine aU5 ?_
   refine o_p (Qg rfl rfl Tryz.underlying9) rfl ?_
   refine aU2 ?_
   exact oJt 5 24)
  (fun hg12 _=>by
   refine aU4 ?_
   exact oJf 5 24) ?_
 refine aU ?_
 refine Yq 5 25 30 rfl
  (fun hg14 _=>by
   refine aU5 ?_
   refine o_p (Qg rfl rfl Tryz.underlying9) rfl ?_
   refine aU2 ?_
   exact oJt 5 30)
  (fun hg16 _=>by
   refine aU4 ?_
   exact oJf 5 30) ?_
 refine aU2 ?_
 exact rT rfl rfl (fun w' h'=>⟨by rfl,h'.below⟩)
end Go.Proofs
namespace Gx
open Go Go.RowKit
section
variable {w0 w : World} {M : List Nat} {As As' : List HA} {a : Option Addr} {cap et nt' : Nat} {L : List LNd}
theorem HS.nodes_open (h : HS w0 M As w) (hp : QM As (.nodes et nt' a cap L) As') : HS w0 M (.own (.slice a L.length cap) nt' 3 L.length (L.flatMap LNd.vals) :: .star (L.map (Qar et)) :: As') w:=HS.row_open (h.pick hp)
theorem HS.nodes_app {n : LNd} (h : HS w0 M (.ents et n.ea n.ec n.es :: .kids n.ca n.cc n.cs :: .star (L.map (Qar et)) :: .own (.slice a (L.length + 1) cap) nt' 3 (L.length + 1) (L.flatMap LNd.vals ++ LNd.vals n) :: As) w) : HS w0 M (.nodes et nt' a cap (L ++ [n]) :: As) w:=by
 have h2 : HS w0 M (Qar et n :: .star (L.map (Qar et)) :: .own (.slice a (L.length + 1) cap) nt' 3 (L.length + 1) (L.flatMap LNd.vals ++ LNd.vals n) :: As) w:=HS.star_close (Bs:=[_,_]) h;have h3:=HS.sub_app h2;exact HS.row_shut (l:=L ++ [n]) (h3.perm (List.Perm.swap ..)) (by simp) (by simp [List.flatMap_append])
end
theorem QiH {x : Ixs} {i : Nat} (h : 1 ≤ i ∧ i * 512 ≤ x.al.length) : (x.blk i).length = 512:=QT (by omega)
theorem Qnu {x : Ixs} {i : Nat} (h : 1 ≤ i ∧ i * 512 ≤ x.al.length) : x.blk i = Qhc ↔ zer (x.blk i) = true:=by
 rw [QaJ,QiH h];rfl
theorem Qky {x : Ixs} {i : Nat} (h : Qa9 x i = false) : bkN x i = QqG:=by unfold bkN;rw [h];rfl
theorem QeC {x : Ixs} {i : Nat} (h : Qa9 x i = false) : bkE x i = if zer (x.blk i) = true then 0 else 3:=by unfold bkE;rw [h];rfl
theorem QhZ {x : Ixs} {i : Nat} (h : Qa9 x i = true) : bkN x i = (YC (x.blk i) i).n:=by unfold bkN;rw [h];rfl
theorem QcH {x : Ixs} {i : Nat} (h : Qa9 x i = true) : bkE x i = (YC (x.blk i) i).e:=by unfold bkE;rw [h];rfl
theorem QhN {x : Ixs} : ∀ (m f i : Nat),(∀ j,i ≤ j → j < i + m → bkE x j = 0) → m < f → ¬ bkE x (i + m) = 0 → Qhj x f i = some (i + m)
 | 0,0,_,_,h,_=>absurd h (Nat.lt_irrefl _)
 | 0,f + 1,i,_,_,hb=>by grind [Qhj]
 | m + 1,0,_,_,h,_=>absurd h (Nat.not_lt_zero _)
 | m + 1,f + 1,i,h,hf,hb=>by
  rw [Qhj,if_pos (h i (Nat.le_refl _) (by omega)),QhN m f (i + 1) (fun j h1 h2=>h j (by omega) (by omega)) (by omega) (by rw [show i + 1 + m = i + (m + 1) by omega];exact hb)];congr 1;omega
theorem Qls {x : Ixs} (h : ¬ ixE x = 0) : rdI x = ((noT,0),ixE x):=by unfold rdI;rw [if_neg h]
theorem Qip {x : Ixs} {k : Nat} (h : ixE x = 0) (hk : k < x.n) (h1 : ∀ j,j < k → bkE x (j + 1) = 0) (h2 : ¬ bkE x (k + 1) = 0) : rdI x = ((noT,((k + 1 : Nat) : Int)),bkE x (k + 1)):=by
 have e : Qhj x x.n 1 = some (k + 1):=by
  have h9:=QhN (x:=x) k x.n 1 (fun j a b=>by
   obtain ⟨j,rfl⟩ : ∃ q,j = q + 1:=⟨j - 1,by omega⟩;exact h1 j (by omega)) hk (by rw [Nat.add_comm];exact h2)
  grind
 grind [rdI]
theorem QqJ {x : Ixs} (h : ixE x = 0) (h1 : ∀ j,j < x.n → bkE x (j + 1) = 0) : rdI x = if (Yx (QbA x)).2 = 0 then ((QbA x,0),0) else ((noT,(Yx (QbA x)).1),(Yx (QbA x)).2):=by
 have e : Qhj x x.n 1 = none:=QeT fun j a b=>by
  obtain ⟨j,rfl⟩ : ∃ q,j = q + 1:=⟨j - 1,by omega⟩;exact h1 j (by omega)
 grind [rdI]
structure NdS (n : Nd) : Prop where
 es : n.es.length ≤ 255
 cs : n.cs.length ≤ 256
 ent : ∀ x ∈ n.es,x.key.length ≤ 1000000 ∧ x.val.length ≤ 1000000
theorem NdS.no : NdS QqG:=⟨Nat.zero_le _,Nat.zero_le _,fun x hx=>by cases hx⟩
theorem Qmg {x : TEnt} (h : X9 x 0 = true) : x.key.length ≤ 1000000 ∧ x.val.length ≤ 1000000:=by grind [X9]
theorem NdS.of (b : List UInt8) (num : Int) : NdS (YC b num).n:=by
 by_cases h1 : b.length = 512
 ·by_cases h2 : 1 ≤ num ∧ num ≤ 120
  ·cases h3 : XH b with
   | true=>rw [Qim h1 h2 h3];exact NdS.no
   | false=>
    cases h4 : rdB (QJ b) with
    | none=>rw [QfU h1 h2 h3 h4];exact NdS.no
    | some q=>
     obtain ⟨m,last⟩:=q;have e:=Qey h1 h2 h3 h4;obtain ⟨_,_,_,q4,q5,q6⟩:=Qd2 (Zu h1) h4;have hcl:=q6.cl;rw [e];split
     ·exact ⟨by show m.es.length ≤ _;omega,by show m.cs.length ≤ _;omega,fun x hx=>Qmg (q6.es x hx)⟩
     ·exact NdS.no
  ·rw [Qlx h1 h2];exact NdS.no
 ·rw [Qlw h1];exact NdS.no
theorem NdS.bk (x : Ixs) (i : Nat) : NdS (bkN x i):=by grind [bkN,NdS.of,NdS.no]
theorem QeG {x : Ixs} (h : (Qd x.ro).2 = 0) (k : Nat) : ∀ n ∈ Qae x k,NdS n:=by
 obtain ⟨n0,l0,hr,_,_,hrt,hl,_⟩:=QcV h;intro n hn;unfold Qae at hn;rw [List.mem_append,hrt] at hn;rcases hn with hn | hn
 ·have hn : n = n0:=by simpa using hn
  subst hn;obtain ⟨_,_,_,_,_,q6,q7,q8,_⟩:=Qi2 (by omega) hr;have:=Yi x.ro 7;exact ⟨by omega,by omega,fun y hy=>Qmg (q8 y hy)⟩
 grind [NdS.bk]
theorem QgK {x : Ixs} (h : (Qd x.ro).2 = 0) {k : Nat} (hk : k ≤ 900) : Bd (Qae x k):=by
 obtain ⟨n0,l0,_,_,_,hrt,_⟩:=QcV h;have hl:=Qfb (x:=x) (by rw [hrt];rfl) k;exact ⟨by omega,fun i hi=>by have:=(QeG h k _ (Qv hi)).es;omega,fun i hi=>by have:=(QeG h k _ (Qv hi)).cs;omega⟩
theorem Qkp {x : Ixs} (h : (Qd x.ro).2 = 0) {k : Nat} {L : List LNd} (hL : pln L = Qae x k) : ∀ i,i < L.length → ∀ y ∈ (nth L i).es,y.key.length ≤ 1000000 ∧ y.val.length ≤ 1000000:=fun i hi y hy=>by
 have h1:=(QeG h k (nth (pln L) i) (by rw [← hL];exact Qv (by rwa [Qe]))).ent y;rw [Q0 hi] at h1;exact h1 hy
end Gx
namespace Go.Proofs
open Go Go.RowKit Gx
attribute [local irreducible] Go.Calls Gx.S Gx.O Gx.D Gx.OpP Gx.OpQ Gx.OpH
set_option maxRecDepth 20000
instance : TFn Tryz.prog 49:=⟨by kernel_rfl⟩
instance : TFn Tryz.prog 69:=⟨by kernel_rfl⟩
set_option maxHeartbeats 4000000 in
theorem c16 (w : World) (x : Ixs) (hl : x.al.length ≤ 900000) (hr : x.ro.length ≤ 1000000) (hb : x.bm.length ≤ 100000) : Calls Tryz.prog 16 #[.agg #[.string (bs x.ro),.string (bs x.al),.string (bs x.bm)]] w fun en w'=>∃ g : (Option Addr × Nat) × List LNd,en = .returned (.tuple #[.agg #[.int .i64 (rdI x).1.1.co,.int .i64 (rdI x).1.1.mo,.int .i64 (rdI x).1.1.rm,.slice g.1.1 g.2.length g.1.2],.int .i64 (rdI x).1.2,.int .i64 (rdI x).2]) ∧ pln g.2 = (rdI x).1.1.ns ∧ HS w [] [.nodes 27 69 g.1.1 g.1.2 g.2] w':=by
 have hn9 : x.n ≤ x.al.length:=Nat.div_le_self _ _
 have hn8 : x.n = x.al.length / 512:=rfl
 refine eN1 Tryz.func16 Tryz.ntmps16 ?_
 refine aU2 ?_
 refine oBx fun b1 _=>?_
 refine oAl (fun b2 _=>?_) XL
 refine aU5 ?_
 refine o_p (QD (cs:=[_,_,_,_]) rfl rfl QaF XL rfl) rfl ?_
 refine oAl (fun b3 _=>?_) XL
 refine aU6 ?_
 refine oCq rfl (fun w1 h1=>c49 w1 x hl hr hb) ?_
 refine aU7 ?_
 refine sCd rfl (fun h4=>?_) fun h4=>?_
 ·have hR:=Qls (x:=x) h4
  refine aU8 ?_
  exact Qj (rs:=[.cell 2 37,.tmp 3,.tmp 4]) rfl (.cell rfl XR aPk rfl (.tmp rfl (.tmp rfl (.nil)))) (fun w' h'=>⟨((none,0),[]),by rw [hR];rfl,by rw [hR];rfl,(QV 27 69 h'.nil).ent aEt⟩)
 have hE : ixE x = 0:=h4
 obtain ⟨hA,hB,hC,hO,hLs⟩:=Qix hE
 obtain ⟨n0,l0,_,_,_,hrt,_⟩:=QcV hC
 have hL1 : (Qd x.ro).1.ns.length = 1:=by rw [hrt];rfl
 refine aU5 ?_
 refine oCh rfl (fun w1 h1=>c31 w1 x.ro hr) (fun ⟨⟨ra,rc⟩,RL⟩ hRL=>?_)
 refine aU3 ?_
 refine oAl (fun b5 _=>?_) XL
 refine aU9 ?_
 refine Ql (L':=[(1,_),(2,_),(3,_),(4,_),(5,_),(7,_),(9,_)]) aSx (fun _ h=>h) ?_
 refine Qr (α:=Nat × (Option Addr × Nat) × List LNd) [3,4,9,10,11,12,13,29,30,31,32,33,34,35,36,37,38,39,40,41,42,43,44,45,46,47,48,49,50,51,52,53,54,55,56,57,58,59,60,61,62,63,64,65,66,67,68,69,70,71,72] (fun x=>[(9,.int .i64 ((x.1 + 1 : Nat) : Int))]) (fun y=>HS w [] [.nodes 27 69 y.2.1.1 y.2.1.2 y.2.2,.blk b5 37 4 [.int .i64 (Qd x.ro).1.co,.int .i64 (Qd x.ro).1.mo,.int .i64 (Qd x.ro).1.rm,.slice y.2.1.1 y.2.2.length y.2.1.2],.blk b3 37 4 [.int .i64 0,.int .i64 0,.int .i64 0,.slice none 0 0],.blk b2 37 4 [.int .i64 0,.int .i64 0,.int .i64 0,.slice none 0 0],.blk b1 23 3 [.string (bs x.ro),.string (bs x.al),.string (bs x.bm)]]) (fun y=>y.1 ≤ x.n ∧ pln y.2.2 = Qae x y.1 ∧ ∀ j,j < y.1 → bkE x (j + 1) = 0) (fun y=>x.n - y.1) (0,(ra,rc),RL) ⟨Nat.zero_le _,by (try simp only []);rw [hRL];unfold Qae;simp,fun j h=>absurd h (Nat.not_lt_zero _)⟩ aSx (fun w h=>h.ent aEt) (fun ⟨k,⟨ga,gc⟩,L⟩ hkk=>?_)
 dsimp only
 simp only [] at hkk
 obtain ⟨hk1,hk2,hk3⟩:=hkk
 have hLl : L.length = k + 1:=by rw [← Qe,hk2,Qfb hL1]
 refine aU5 ?_
 refine oCq rfl (fun w1 h1=>c66 w1 x (by omega)) ?_
 refine aU2 ?_
 refine sCd rfl (fun h6=>?_) fun h6=>?_
 ·have hk : k < x.n:=by have hq:=h6;omega
  have hb5:=QiH (x:=x) (i:=k + 1) (by omega)
  have hnm : Qa9 x (k + 1) = ZM x.bm (k + 1 - 1):=by unfold Qa9;rw [decide_eq_true (by omega),Bool.true_and]
  refine aU8 ?_
  refine oCq rfl (fun w1 h1=>c67 w1 x (k + 1) (by omega) (by omega)) ?_
  refine aU2 ?_
  refine sCd rfl (fun h7=>?_) fun h7=>?_
  ·have hnf : Qa9 x (k + 1) = false:=by rw [hnm];have hq:=h7;simpa using hq
   refine aU5 ?_
   refine oCq rfl (fun w1 h1=>c69 w1 x (k + 1) (by omega) (by omega)) ?_
   refine oCq rfl (fun w1 h1=>c53 w1 (x.blk (k + 1)) (by omega)) ?_
   refine aU2 ?_
   refine sCd rfl (fun h8=>?_) fun h8=>?_
   ·have hbe : bkE x (k + 1) = 3:=by rw [QeC hnf,if_neg];have hq:=h8;simpa using hq
    have hR:=Qip hE hk hk3 (by rw [hbe];decide)
    rw [hbe] at hR
    refine aU8 ?_
    exact Qj (rs:=[.cell 2 37,.tmp 3,.tmp 4]) rfl (.cell rfl XR aPk rfl (.tmp rfl (.tmp rfl (.nil)))) (fun w' h'=>⟨((none,0),[]),by rw [hR];rfl,by rw [hR];rfl,(QV 27 69 h'.nil).ent aEt⟩)
   have hbe : bkE x (k + 1) = 0:=by rw [QeC hnf,if_pos];have hq:=h8;simpa using hq
   refine aU4 ?_
   refine XA (C':=HS w [] [.own (.slice ga L.length gc) 69 3 L.length (L.flatMap LNd.vals),.star (L.map (Qar 27)),.blk b5 37 4 [.int .i64 (Qd x.ro).1.co,.int .i64 (Qd x.ro).1.mo,.int .i64 (Qd x.ro).1.rm,.slice ga L.length gc],.blk b3 37 4 [.int .i64 0,.int .i64 0,.int .i64 0,.slice none 0 0],.blk b2 37 4 [.int .i64 0,.int .i64 0,.int .i64 0,.slice none 0 0],.blk b1 23 3 [.string (bs x.ro),.string (bs x.al),.string (bs x.bm)]]) (fun w9 h=>(HS.nodes_open h aPk).ent aEt) ?_
   refine aU ?_
   refine o_p (QD (cs:=[_,_,_]) rfl rfl Qfe Xq rfl) rfl ?_
   refine o_h (Qm (cs:=[_,_,_]) rfl rfl Q3 Xq rfl rfl rfl) rfl (fun b9 _=>?_)
   refine o_h (Xt [_,_,_] rfl rfl rfl Q3 Tryz.underlying35 Xq rfl aPk (Xo aPk) rfl (by intro u hu;simp only [List.mem_cons,List.mem_nil_iff,or_false] at hu;rcases hu with rfl | rfl | rfl <;> rfl) (by omega) (by simp only [maxLen];omega)) rfl (fun b10 _=>?_)
   refine aU3 ?_
   refine Qi rfl ?_
   refine aT3 ?_
   refine Qk (show _ = Value.int .i64 ((k + 1 + 1 : Nat) : Int) from congrArg (Value.int .i64) (by omega)) ?_
   refine aU2 ?_
   exact QP (k + 1,(b10.1,b10.2),L ++ [⟨false,none,0,[],none,0,[]⟩]) (by (try simp only []);omega) ⟨by (try simp only []);omega,by (try simp only []);rw [Qex,hk2,Qbm,Qky hnf];rfl,fun j hj=>(Nat.lt_or_ge j k).elim (hk3 j) (fun h=>by obtain rfl : j = k:=(by omega);exact hbe)⟩ (by simp only [List.length_append,List.length_singleton];exact aSx) (fun w h=>by have h9:=((h.own_nil 3 1).own_nil 27 2);have h8:=HS.nodes_app (n:=⟨false,none,0,[],none,0,[]⟩) (L:=L) (et:=27) (nt':=69) (h9.ent (Bs:=[.ents 27 (⟨false,none,0,[],none,0,[]⟩ : LNd).ea (⟨false,none,0,[],none,0,[]⟩ : LNd).ec (⟨false,none,0,[],none,0,[]⟩ : LNd).es,.kids (⟨false,none,0,[],none,0,[]⟩ : LNd).ca (⟨false,none,0,[],none,0,[]⟩ : LNd).cc (⟨false,none,0,[],none,0,[]⟩ : LNd).cs,.star (L.map (Qar 27)),.own (.slice b10.1 (L.length + 1) b10.2) 69 3 (L.length + 1) (L.flatMap LNd.vals ++ LNd.vals ⟨false,none,0,[],none,0,[]⟩),.blk b5 37 4 [.int .i64 (Qd x.ro).1.co,.int .i64 (Qd x.ro).1.mo,.int .i64 (Qd x.ro).1.rm,.slice b10.1 (L.length + 1) b10.2],.blk b3 37 4 [.int .i64 0,.int .i64 0,.int .i64 0,.slice none 0 0],.blk b2 37 4 [.int .i64 0,.int .i64 0,.int .i64 0,.slice none 0 0],.blk b1 23 3 [.string (bs x.ro),.string (bs x.al),.string (bs x.bm)]]) aEt);dsimp only;rw [List.length_append];exact h8.ent aEt)
  have hnf : Qa9 x (k + 1) = true:=by rw [hnm];have hq:=h7;simpa using hq
  refine aU5 ?_
  refine oCq rfl (fun w1 h1=>c69 w1 x (k + 1) (by omega) (by omega)) ?_
  refine aU ?_
  refine oCh rfl (fun w1 h1=>c39 w1 (x.blk (k + 1)) ((k + 1 : Nat) : Int) (by omega)) (fun gn hgn=>?_)
  refine aU5 ?_
  refine oAl (fun b11 _=>?_) Xq
  refine QdM ?_
  refine sCd rfl (fun h12=>?_) fun h12=>?_
  ·have hbe:=QcH hnf
   have hR:=Qip hE hk hk3 (by rw [hbe];exact h12)
   rw [hbe] at hR
   refine aU9 ?_
   exact Qj (rs:=[.cell 2 37,.tmp 3,.tmp 4]) rfl (.cell rfl XR aPk rfl (.tmp rfl (.tmp rfl (.nil)))) (fun w' h'=>⟨((none,0),[]),by rw [hR];rfl,by rw [hR];rfl,(QV 27 69 h'.nil).ent aEt⟩)
  have hbe : bkE x (k + 1) = 0:=by rw [QcH hnf];exact h12
  refine aU3 ?_
  refine XA (C':=HS w [] [.own (.slice ga L.length gc) 69 3 L.length (L.flatMap LNd.vals),.star (L.map (Qar 27)),.ents 27 gn.ea gn.ec gn.es,.kids gn.ca gn.cc gn.cs,.blk b11 69 3 (LNd.vals gn),.blk b5 37 4 [.int .i64 (Qd x.ro).1.co,.int .i64 (Qd x.ro).1.mo,.int .i64 (Qd x.ro).1.rm,.slice ga L.length gc],.blk b3 37 4 [.int .i64 0,.int .i64 0,.int .i64 0,.slice none 0 0],.blk b2 37 4 [.int .i64 0,.int .i64 0,.int .i64 0,.slice none 0 0],.blk b1 23 3 [.string (bs x.ro),.string (bs x.al),.string (bs x.bm)]]) (fun w9 h=>(HS.nodes_open h aPk).ent aEt) ?_
  refine aU2 ?_
  refine o_h (Qm (cs:=[_,_,_]) rfl rfl Q3 Xq rfl rfl rfl) rfl (fun b13 _=>?_)
  refine o_h (Xt [_,_,_] rfl rfl rfl Q3 Tryz.underlying35 Xq rfl aPk (Xo aPk) rfl (by intro u hu;simp only [List.mem_cons,List.mem_nil_iff,or_false] at hu;rcases hu with rfl | rfl | rfl <;> rfl) (by omega) (by simp only [maxLen];omega)) rfl (fun b14 _=>?_)
  refine aU4 ?_
  refine Ql (L':=[(1,_),(2,_),(5,_),(7,_),(9,_)]) aSx (fun _ h=>h) ?_
  refine aT3 ?_
  refine Qk (show _ = Value.int .i64 ((k + 1 + 1 : Nat) : Int) from congrArg (Value.int .i64) (by omega)) ?_
  refine aU2 ?_
  exact QP (k + 1,(b14.1,b14.2),L ++ [gn]) (by (try simp only []);omega) ⟨by (try simp only []);omega,by (try simp only []);rw [Qex,hk2,Qbm,QhZ hnf];(show _ ++ [gn.pl] = _);rw [hgn],fun j hj=>(Nat.lt_or_ge j k).elim (hk3 j) (fun h=>by obtain rfl : j = k:=(by omega);exact hbe)⟩ (by simp only [List.length_append,List.length_singleton];exact aSx) (fun w h=>by have h9:=h;have h8:=HS.nodes_app (n:=gn) (L:=L) (et:=27) (nt':=69) (h9.ent (Bs:=[.ents 27 (gn : LNd).ea (gn : LNd).ec (gn : LNd).es,.kids (gn : LNd).ca (gn : LNd).cc (gn : LNd).cs,.star (L.map (Qar 27)),.own (.slice b14.1 (L.length + 1) b14.2) 69 3 (L.length + 1) (L.flatMap LNd.vals ++ LNd.vals gn),.blk b5 37 4 [.int .i64 (Qd x.ro).1.co,.int .i64 (Qd x.ro).1.mo,.int .i64 (Qd x.ro).1.rm,.slice b14.1 (L.length + 1) b14.2],.blk b3 37 4 [.int .i64 0,.int .i64 0,.int .i64 0,.slice none 0 0],.blk b2 37 4 [.int .i64 0,.int .i64 0,.int .i64 0,.slice none 0 0],.blk b1 23 3 [.string (bs x.ro),.string (bs x.al),.string (bs x.bm)]]) aEt);dsimp only;rw [List.length_append];exact h8.ent aEt)
 obtain rfl : k = x.n:=by have hq:=h6;omega
 have hall:=QqJ hE hk3
 have hT : (⟨(Qd x.ro).1.co,(Qd x.ro).1.mo,(Qd x.ro).1.rm,pln L⟩ : Tre) = QbA x:=by rw [hk2];rfl
 refine Qi rfl ?_
 refine aU4 ?_
 refine oCq rfl (fun w1 h1=>c71 w1 _ _ _ ga gc L (HS.nt h1 aPk) (by rw [hk2];exact QgK hC (by omega)) (fun i hi y hy=>(Qkp hC hk2 i hi y hy).1)) ?_
 rw [hT]
 refine QdM ?_
 refine sCd rfl (fun h15=>?_) fun h15=>?_
 ·have hR : rdI x = ((noT,(Yx (QbA x)).1),(Yx (QbA x)).2):=by rw [hall,if_neg h15]
  refine aU9 ?_
  exact Qj (rs:=[.cell 2 37,.tmp 3,.tmp 4]) rfl (.cell rfl XR aPk rfl (.tmp rfl (.tmp rfl (.nil)))) (fun w' h'=>⟨((none,0),[]),by rw [hR];rfl,by rw [hR];rfl,(QV 27 69 h'.nil).ent aEt⟩)
 have hR : rdI x = ((QbA x,0),0):=by rw [hall,if_pos h15]
 refine aU8 ?_
 exact Qj (rs:=[.cell 2 37,.tmp 3,.tmp 4]) rfl (.cell rfl XR aPk rfl (.tmp rfl (.tmp rfl (.nil)))) (fun w' h'=>⟨((ga,gc),L),by rw [hR];rfl,by rw [hR];exact hk2,h'.ent aEt⟩)
instance : TFn Tryz.prog 56:=⟨by kernel_rfl⟩
instance : TFn Tryz.prog 64:=⟨by kernel_rfl⟩
set_option maxHeartbeats 4000000 in
theorem c82 (w : World) (x : Ixs) (hl : x.al.length ≤ 900000) (hr : x.ro.length ≤ 1000000) (hb : x.bm.length ≤ 100000) : Calls Tryz.prog 82 #[.agg #[.string (bs x.ro),.string (bs x.al),.string (bs x.bm)]] w fun en w'=>∃ g : ((Option Addr × Nat) × List LNd) × (Int × Int × Int) × (Option Addr × Nat × Nat),en = .returned (.tuple #[.agg #[.string (bs x.ro),.string (bs x.al),.string (bs x.bm),.int .i64 g.2.1.1,.int .i64 g.2.1.2.1,.int .i64 g.2.1.2.2,.slice g.2.2.1 g.2.2.2.1 g.2.2.2.2],.agg #[.int .i64 (rdI x).1.1.co,.int .i64 (rdI x).1.1.mo,.int .i64 (rdI x).1.1.rm,.slice g.1.1.1 g.1.2.length g.1.1.2],.int .i64 (rdI x).1.2,.int .i64 (rdI x).2]) ∧ pln g.1.2 = (rdI x).1.1.ns ∧ HS w [] [.nodes 27 69 g.1.1.1 g.1.1.2 g.1.2] w':=by
 have hn9 : x.n ≤ x.al.length:=Nat.div_le_self _ _
 have hn8 : x.n = x.al.length / 512:=rfl
 refine eN1 Tryz.func82 Tryz.ntmps82 ?_
 refine aU2 ?_
 refine oBx fun b1 _=>?_
 refine oAl (fun b2 _=>?_) QeS
 refine oAl (fun b3 _=>?_) XL
 refine aU6 ?_
 refine oCh rfl (fun w1 h1=>c56 w1 x hl hr hb) (fun ⟨⟨c1,m1,r1⟩,⟨ra,rc⟩,RL⟩ hRL=>?_)
 refine aU3 ?_
 refine oAl (fun b4 _=>?_) QeS
 refine aU9 ?_
 refine sCd rfl (fun h5=>?_) fun h5=>?_
 ·have hR:=Qls (x:=x) h5
  refine aU3 ?_
  refine o_p (QD (cs:=[_,_,_,_]) rfl rfl QaF XL rfl) rfl ?_
  refine aU6 ?_
  exact Qj (rs:=[.cell 2 108,.cell 3 37,.tmp 4,.tmp 5]) rfl (.cell rfl ZT aPk rfl (.cell rfl XR aPk rfl (.tmp rfl (.tmp rfl (.nil))))) (fun w' h'=>⟨(((none,0),[]),(c1,m1,r1),(ra,RL.length,rc)),by rw [hR];rfl,by rw [hR];rfl,(QV 27 69 h'.nil).ent aEt⟩)
 have hE : ixE x = 0:=h5
 have hRT:=hRL hE
 dsimp only at hRT
 obtain rfl : c1 = (Qd x.ro).1.co:=congrArg Tre.co hRT
 obtain rfl : m1 = (Qd x.ro).1.mo:=congrArg Tre.mo hRT
 obtain rfl : r1 = (Qd x.ro).1.rm:=congrArg Tre.rm hRT
 have hRn : pln RL = (Qd x.ro).1.ns:=congrArg Tre.ns hRT
 obtain ⟨hA,hB,hC,hO,hLs⟩:=Qix hE
 obtain ⟨n0,l0,_,_,_,hrt,_⟩:=QcV hC
 have hL1 : (Qd x.ro).1.ns.length = 1:=by rw [hrt];rfl
 have hb8 : x.n ≤ 8 * x.bm.length:=by have:=XU ((x.n + 7) / 8);omega
 refine aU5 ?_
 refine oAl (fun b6 _=>?_) XL
 refine aU8 ?_
 refine Ql (L':=[(2,_),(3,_),(4,_),(5,_),(6,_),(8,_),(9,_)]) aSx (fun _ h=>h) ?_
 refine Qr (α:=Nat × (Option Addr × Nat) × List LNd) [4,5,9,10,11,26,27,28,29,30,31,32,33,34,35,36,37,38,39,40,41,42,43,44,45,46,47,48,49,50,51,52,53,54,55,56,57,58,59,60,61,62,63,64,65,66,67,68,69,70] (fun y=>[(9,.int .i64 ((y.1 + 1 : Nat) : Int))]) (fun y=>HS w [] [.nodes 27 69 y.2.1.1 y.2.1.2 y.2.2,.blk b6 37 4 [.int .i64 (Qd x.ro).1.co,.int .i64 (Qd x.ro).1.mo,.int .i64 (Qd x.ro).1.rm,.slice y.2.1.1 y.2.2.length y.2.1.2],.blk b4 108 7 [.string (bs x.ro),.string (bs x.al),.string (bs x.bm),.int .i64 (Qd x.ro).1.co,.int .i64 (Qd x.ro).1.mo,.int .i64 (Qd x.ro).1.rm,.slice ra RL.length rc],.blk b2 108 7 [.string (bs []),.string (bs []),.string (bs []),.int .i64 0,.int .i64 0,.int .i64 0,.slice none 0 0],.blk b3 37 4 [.int .i64 0,.int .i64 0,.int .i64 0,.slice none 0 0],.blk b1 23 3 [.string (bs x.ro),.string (bs x.al),.string (bs x.bm)]]) (fun y=>y.1 ≤ x.n ∧ pln y.2.2 = Qae x y.1 ∧ ∀ j,j < y.1 → bkE x (j + 1) = 0) (fun y=>x.n - y.1) (0,(ra,rc),RL) ⟨Nat.zero_le _,by (try simp only []);rw [hRn];unfold Qae;simp,fun j h=>absurd h (Nat.not_lt_zero _)⟩ aSx (fun w h=>h.ent aEt) (fun ⟨k,⟨ga,gc⟩,L⟩ hkk=>?_)
 dsimp only
 simp only [] at hkk
 obtain ⟨hk1,hk2,hk3⟩:=hkk
 have hLl : L.length = k + 1:=by rw [← Qe,hk2,Qfb hL1]
 refine aU5 ?_
 refine oCq rfl (fun w1 h1=>Qv8 w1 x (Qd x.ro).1.co (Qd x.ro).1.mo (Qd x.ro).1.rm ra RL.length rc (by omega)) ?_
 refine aU2 ?_
 refine sCd rfl (fun h7=>?_) fun h7=>?_
 ·have hk : k < x.n:=by have hq:=h7;omega
  have hb5:=QiH (x:=x) (i:=k + 1) (by omega)
  refine aU8 ?_
  refine oCq rfl (fun w1 h1=>c61 w1 x (Qd x.ro).1.co (Qd x.ro).1.mo (Qd x.ro).1.rm ra RL.length rc (k + 1) (by omega) hb8) ?_
  refine aU2 ?_
  refine sCd rfl (fun h8=>?_) fun h8=>?_
  ·have hnf : Qa9 x (k + 1) = false:=by have hq:=h8;simpa using hq
   refine aU5 ?_
   refine oCq rfl (fun w1 h1=>c64 w1 x (Qd x.ro).1.co (Qd x.ro).1.mo (Qd x.ro).1.rm ra RL.length rc (k + 1) (by omega) (by omega)) ?_
   refine oCq rfl (fun w1 h1=>c78 w1) ?_
   refine aU2 ?_
   refine sCd rfl (fun h9=>?_) fun h9=>?_
   ·have hbe : bkE x (k + 1) = 3:=by rw [QeC hnf,if_neg];rw [← Qnu (by omega)];exact h9
    have hR:=Qip hE hk hk3 (by rw [hbe];decide)
    rw [hbe] at hR
    refine aU3 ?_
    refine o_p (QD (cs:=[_,_,_,_]) rfl rfl QaF XL rfl) rfl ?_
    refine aU6 ?_
    exact Qj (rs:=[.cell 2 108,.cell 3 37,.tmp 4,.tmp 5]) rfl (.cell rfl ZT aPk rfl (.cell rfl XR aPk rfl (.tmp rfl (.tmp rfl (.nil))))) (fun w' h'=>⟨(((none,0),[]),((Qd x.ro).1.co,(Qd x.ro).1.mo,(Qd x.ro).1.rm),(ra,RL.length,rc)),by rw [hR];rfl,by rw [hR];rfl,(QV 27 69 h'.nil).ent aEt⟩)
   have hbe : bkE x (k + 1) = 0:=by rw [QeC hnf,if_pos];rw [← Qnu (by omega)];have hq:=h9;first | exact hq | simpa using hq
   refine aU4 ?_
   refine XA (C':=HS w [] [.own (.slice ga L.length gc) 69 3 L.length (L.flatMap LNd.vals),.star (L.map (Qar 27)),.blk b6 37 4 [.int .i64 (Qd x.ro).1.co,.int .i64 (Qd x.ro).1.mo,.int .i64 (Qd x.ro).1.rm,.slice ga L.length gc],.blk b4 108 7 [.string (bs x.ro),.string (bs x.al),.string (bs x.bm),.int .i64 (Qd x.ro).1.co,.int .i64 (Qd x.ro).1.mo,.int .i64 (Qd x.ro).1.rm,.slice ra RL.length rc],.blk b2 108 7 [.string (bs []),.string (bs []),.string (bs []),.int .i64 0,.int .i64 0,.int .i64 0,.slice none 0 0],.blk b3 37 4 [.int .i64 0,.int .i64 0,.int .i64 0,.slice none 0 0],.blk b1 23 3 [.string (bs x.ro),.string (bs x.al),.string (bs x.bm)]]) (fun w9 h=>(HS.nodes_open h aPk).ent aEt) ?_
   refine aU ?_
   refine o_p (QD (cs:=[_,_,_]) rfl rfl Qfe Xq rfl) rfl ?_
   refine o_h (Qm (cs:=[_,_,_]) rfl rfl Q3 Xq rfl rfl rfl) rfl (fun b10 _=>?_)
   refine o_h (Xt [_,_,_] rfl rfl rfl Q3 Tryz.underlying35 Xq rfl aPk (Xo aPk) rfl (by intro u hu;simp only [List.mem_cons,List.mem_nil_iff,or_false] at hu;rcases hu with rfl | rfl | rfl <;> rfl) (by omega) (by simp only [maxLen];omega)) rfl (fun b11 _=>?_)
   refine aU3 ?_
   refine Qi rfl ?_
   refine aT3 ?_
   refine Qk (show _ = Value.int .i64 ((k + 1 + 1 : Nat) : Int) from congrArg (Value.int .i64) (by omega)) ?_
   refine aU2 ?_
   exact QP (k + 1,(b11.1,b11.2),L ++ [⟨false,none,0,[],none,0,[]⟩]) (by (try simp only []);omega) ⟨by (try simp only []);omega,by (try simp only []);rw [Qex,hk2,Qbm,Qky hnf];rfl,fun j hj=>(Nat.lt_or_ge j k).elim (hk3 j) (fun h=>by obtain rfl : j = k:=(by omega);exact hbe)⟩ (by simp only [List.length_append,List.length_singleton];exact aSx) (fun w h=>by have h9:=((h.own_nil 3 1).own_nil 27 2);have h8:=HS.nodes_app (n:=⟨false,none,0,[],none,0,[]⟩) (L:=L) (et:=27) (nt':=69) (h9.ent (Bs:=[.ents 27 (⟨false,none,0,[],none,0,[]⟩ : LNd).ea (⟨false,none,0,[],none,0,[]⟩ : LNd).ec (⟨false,none,0,[],none,0,[]⟩ : LNd).es,.kids (⟨false,none,0,[],none,0,[]⟩ : LNd).ca (⟨false,none,0,[],none,0,[]⟩ : LNd).cc (⟨false,none,0,[],none,0,[]⟩ : LNd).cs,.star (L.map (Qar 27)),.own (.slice b11.1 (L.length + 1) b11.2) 69 3 (L.length + 1) (L.flatMap LNd.vals ++ LNd.vals ⟨false,none,0,[],none,0,[]⟩),.blk b6 37 4 [.int .i64 (Qd x.ro).1.co,.int .i64 (Qd x.ro).1.mo,.int .i64 (Qd x.ro).1.rm,.slice b11.1 (L.length + 1) b11.2],.blk b4 108 7 [.string (bs x.ro),.string (bs x.al),.string (bs x.bm),.int .i64 (Qd x.ro).1.co,.int .i64 (Qd x.ro).1.mo,.int .i64 (Qd x.ro).1.rm,.slice ra RL.length rc],.blk b2 108 7 [.string (bs []),.string (bs []),.string (bs []),.int .i64 0,.int .i64 0,.int .i64 0,.slice none 0 0],.blk b3 37 4 [.int .i64 0,.int .i64 0,.int .i64 0,.slice none 0 0],.blk b1 23 3 [.string (bs x.ro),.string (bs x.al),.string (bs x.bm)]]) aEt);dsimp only;rw [List.length_append];exact h8.ent aEt)
  have hnf : Qa9 x (k + 1) = true:=by have hq:=h8;simpa using hq
  refine aU5 ?_
  refine oCq rfl (fun w1 h1=>c64 w1 x (Qd x.ro).1.co (Qd x.ro).1.mo (Qd x.ro).1.rm ra RL.length rc (k + 1) (by omega) (by omega)) ?_
  refine aU ?_
  refine oCh rfl (fun w1 h1=>c63 w1 (x.blk (k + 1)) ((k + 1 : Nat) : Int) (by omega)) (fun gn hgn=>?_)
  refine aU3 ?_
  refine oAl (fun b12 _=>?_) QbU
  refine aU9 ?_
  refine sCd rfl (fun h13=>?_) fun h13=>?_
  ·have hbe:=QcH hnf
   have hR:=Qip hE hk hk3 (by rw [hbe];exact h13)
   rw [hbe] at hR
   refine aU3 ?_
   refine o_p (QD (cs:=[_,_,_,_]) rfl rfl QaF XL rfl) rfl ?_
   refine aU7 ?_
   exact Qj (rs:=[.cell 2 108,.cell 3 37,.tmp 4,.tmp 5]) rfl (.cell rfl ZT aPk rfl (.cell rfl XR aPk rfl (.tmp rfl (.tmp rfl (.nil))))) (fun w' h'=>⟨(((none,0),[]),((Qd x.ro).1.co,(Qd x.ro).1.mo,(Qd x.ro).1.rm),(ra,RL.length,rc)),by rw [hR];rfl,by rw [hR];rfl,(QV 27 69 h'.nil).ent aEt⟩)
  have hbe : bkE x (k + 1) = 0:=by rw [QcH hnf];exact h13
  refine aU3 ?_
  refine XA (C':=HS w [] [.own (.slice ga L.length gc) 69 3 L.length (L.flatMap LNd.vals),.star (L.map (Qar 27)),.ents 27 gn.ea gn.ec gn.es,.kids gn.ca gn.cc gn.cs,.blk b12 118 5 _,.blk b6 37 4 [.int .i64 (Qd x.ro).1.co,.int .i64 (Qd x.ro).1.mo,.int .i64 (Qd x.ro).1.rm,.slice ga L.length gc],.blk b4 108 7 [.string (bs x.ro),.string (bs x.al),.string (bs x.bm),.int .i64 (Qd x.ro).1.co,.int .i64 (Qd x.ro).1.mo,.int .i64 (Qd x.ro).1.rm,.slice ra RL.length rc],.blk b2 108 7 [.string (bs []),.string (bs []),.string (bs []),.int .i64 0,.int .i64 0,.int .i64 0,.slice none 0 0],.blk b3 37 4 [.int .i64 0,.int .i64 0,.int .i64 0,.slice none 0 0],.blk b1 23 3 [.string (bs x.ro),.string (bs x.al),.string (bs x.bm)]]) (fun w9 h=>(HS.nodes_open h aPk).ent aEt) ?_
  refine aU3 ?_
  refine o_h (Qm (cs:=[_,_,_]) rfl rfl Q3 Xq rfl rfl rfl) rfl (fun b14 _=>?_)
  refine o_h (Xt [_,_,_] rfl rfl rfl Q3 Tryz.underlying35 Xq rfl aPk (Xo aPk) rfl (by intro u hu;simp only [List.mem_cons,List.mem_nil_iff,or_false] at hu;rcases hu with rfl | rfl | rfl <;> rfl) (by omega) (by simp only [maxLen];omega)) rfl (fun b15 _=>?_)
  refine aU4 ?_
  refine Ql (L':=[(2,_),(3,_),(6,_),(8,_),(9,_)]) aSx (fun _ h=>h) ?_
  refine aT3 ?_
  refine Qk (show _ = Value.int .i64 ((k + 1 + 1 : Nat) : Int) from congrArg (Value.int .i64) (by omega)) ?_
  refine aU2 ?_
  exact QP (k + 1,(b15.1,b15.2),L ++ [gn]) (by (try simp only []);omega) ⟨by (try simp only []);omega,by (try simp only []);rw [Qex,hk2,Qbm,QhZ hnf];(show _ ++ [gn.pl] = _);rw [hgn],fun j hj=>(Nat.lt_or_ge j k).elim (hk3 j) (fun h=>by obtain rfl : j = k:=(by omega);exact hbe)⟩ (by simp only [List.length_append,List.length_singleton];exact aSx) (fun w h=>by have h9:=h;have h8:=HS.nodes_app (n:=gn) (L:=L) (et:=27) (nt':=69) (h9.ent (Bs:=[.ents 27 (gn : LNd).ea (gn : LNd).ec (gn : LNd).es,.kids (gn : LNd).ca (gn : LNd).cc (gn : LNd).cs,.star (L.map (Qar 27)),.own (.slice b15.1 (L.length + 1) b15.2) 69 3 (L.length + 1) (L.flatMap LNd.vals ++ LNd.vals gn),.blk b6 37 4 [.int .i64 (Qd x.ro).1.co,.int .i64 (Qd x.ro).1.mo,.int .i64 (Qd x.ro).1.rm,.slice b15.1 (L.length + 1) b15.2],.blk b4 108 7 [.string (bs x.ro),.string (bs x.al),.string (bs x.bm),.int .i64 (Qd x.ro).1.co,.int .i64 (Qd x.ro).1.mo,.int .i64 (Qd x.ro).1.rm,.slice ra RL.length rc],.blk b2 108 7 [.string (bs []),.string (bs []),.string (bs []),.int .i64 0,.int .i64 0,.int .i64 0,.slice none 0 0],.blk b3 37 4 [.int .i64 0,.int .i64 0,.int .i64 0,.slice none 0 0],.blk b1 23 3 [.string (bs x.ro),.string (bs x.al),.string (bs x.bm)]]) aEt);dsimp only;rw [List.length_append];exact h8.ent aEt)
 obtain rfl : k = x.n:=by have hq:=h7;omega
 have hall:=QqJ hE hk3
 have hT : (⟨(Qd x.ro).1.co,(Qd x.ro).1.mo,(Qd x.ro).1.rm,pln L⟩ : Tre) = QbA x:=by rw [hk2];rfl
 refine Qi rfl ?_
 refine aU4 ?_
 refine oCq rfl (fun w1 h1=>c140 w1 _ _ _ ga gc L (HS.nt h1 aPk) (by rw [hk2];exact QgK hC (by omega)) (fun i hi y hy=>(Qkp hC hk2 i hi y hy).1)) ?_
 rw [hT]
 refine QdM ?_
 refine sCd rfl (fun h16=>?_) fun h16=>?_
 ·have hR : rdI x = ((noT,(Yx (QbA x)).1),(Yx (QbA x)).2):=by rw [hall,if_neg h16]
  refine aU3 ?_
  refine o_p (QD (cs:=[_,_,_,_]) rfl rfl QaF XL rfl) rfl ?_
  refine aU7 ?_
  exact Qj (rs:=[.cell 2 108,.cell 3 37,.tmp 4,.tmp 5]) rfl (.cell rfl ZT aPk rfl (.cell rfl XR aPk rfl (.tmp rfl (.tmp rfl (.nil))))) (fun w' h'=>⟨(((none,0),[]),((Qd x.ro).1.co,(Qd x.ro).1.mo,(Qd x.ro).1.rm),(ra,RL.length,rc)),by rw [hR];rfl,by rw [hR];rfl,(QV 27 69 h'.nil).ent aEt⟩)
 have hR : rdI x = ((QbA x,0),0):=by rw [hall,if_pos h16]
 refine aU2 ?_
 refine Qii [.nodes 27 69 ga gc L,.blk b6 37 4 [.int .i64 (Qd x.ro).1.co,.int .i64 (Qd x.ro).1.mo,.int .i64 (Qd x.ro).1.rm,.slice ga L.length gc],.blk b4 108 7 [.string (bs x.ro),.string (bs x.al),.string (bs x.bm),.int .i64 (Qd x.ro).1.co,.int .i64 (Qd x.ro).1.mo,.int .i64 (Qd x.ro).1.rm,.slice ra RL.length rc]] [] QN ?_
 refine dLn 0 [] ?_
 refine dLn 1 [] ?_
 refine dSt 2 ?_ (hl:=(by simp only [Qf,List.length_set,List.length_cons,List.length_nil,List.length_map];omega))
 refine dSt 3 ?_ (hl:=(by simp only [Qf,List.length_set,List.length_cons,List.length_nil,List.length_map];omega))
 refine dP 4 ?_
 refine dP 5 ?_
 refine dNi ?_
 exact Qj (rs:=[.cell 2 108,.cell 3 37,.tmp 4,.tmp 5]) rfl (.cell rfl ZT aPk rfl (.cell rfl XR aPk rfl (.tmp rfl (.tmp rfl (.nil))))) (fun w' h'=>⟨(((ga,gc),L),((Qd x.ro).1.co,(Qd x.ro).1.mo,(Qd x.ro).1.rm),(ra,RL.length,rc)),by rw [hR];rfl,by rw [hR];exact hk2,h'.ent aEt⟩)
instance : TFn Tryz.prog 82:=⟨by kernel_rfl⟩
theorem c22 (w : World) (x : Ixs) (hl : x.al.length ≤ 900000) (hr : x.ro.length ≤ 1000000) (hb : x.bm.length ≤ 100000) : Calls Tryz.prog 22 #[.agg #[.string (bs x.ro),.string (bs x.al),.string (bs x.bm)]] w fun en w'=>∃ g : (Option Addr × Nat) × List LNd,en = .returned (.tuple #[.agg #[.int .i64 (rdI x).1.1.co,.int .i64 (rdI x).1.1.mo,.int .i64 (rdI x).1.1.rm,.slice g.1.1 g.2.length g.1.2],.int .i64 (rdI x).1.2,.int .i64 (rdI x).2]) ∧ pln g.2 = (rdI x).1.1.ns ∧ HS w [] [.nodes 27 69 g.1.1 g.1.2 g.2] w':=by
 refine eN1 Tryz.func22 Tryz.ntmps22 ?_
 refine aU2 ?_
 refine oBx fun b1 _=>?_
 refine oAl (fun b2 _=>?_) XL
 refine aU6 ?_
 refine oCh rfl (fun w1 h1=>c82 w1 x hl hr hb) (fun ⟨⟨⟨ga,gc⟩,L⟩,⟨c1,m1,r1⟩,⟨ra,rn,rc⟩⟩ hL=>?_)
 refine aU5 ?_
 refine oAl (fun b3 _=>?_) QeS
 refine oAl (fun b4 _=>?_) XL
 refine Qgs ?_
 exact Qj (rs:=[.cell 2 37,.tmp 3,.tmp 4]) rfl (.cell rfl XR aPk rfl (.tmp rfl (.tmp rfl (.nil)))) (fun w' h'=>⟨((ga,gc),L),rfl,hL,h'.ent aEt⟩)
end Go.Proofs
namespace Gx
open Go Go.RowKit
section
variable {w0 w : World} {M : List Nat} {As As' : List HA} {a : Option Addr} {cap et nt' : Nat} {L : List LNd}
theorem HS.nodes_cap (h : HS w0 M As w) (hp : QM As (.nodes et nt' a cap L) As') : L.length ≤ cap ∧ cap ≤ maxLen:=by
 obtain ⟨_,⟨e,h0⟩ | ⟨g,cap',e,h1,h2,_⟩⟩:=(h.nodes_own hp).head
 ·grind
 grind
end
theorem Quu {ns : List Nd} (h : ∀ n ∈ ns,NdS n) : Sm 100000 ns:=fun k=>by
 rcases Nat.lt_or_ge k ns.length with hk | hk
 ·have:=h _ (Qv hk);have h1:=this.es;have h2:=this.cs;omega
 ·rw [Qaw hk];exact ⟨Nat.zero_le _,Nat.zero_le _⟩
theorem QqZ {x : Ixs} (hl : x.al.length ≤ 400000) : Sm 100000 (rdI x).1.1.ns ∧ (rdI x).1.1.ns.length ≤ 1000:=by
 have hno : Sm 100000 noT.ns ∧ noT.ns.length ≤ 1000:=⟨Quu (fun n hn=>by cases hn),Nat.zero_le _⟩
 by_cases h : ixE x = 0
 ·obtain ⟨_,_,hC,_⟩:=Qix h;unfold rdI;rw [if_pos h];cases hb : Qhj x x.n 1 with
  | some i=>exact hno
  | none=>grind [Yx,QbA,Ixs.n,Quu,QeG,QgK]
 ·rw [Qls h];exact hno
end Gx
namespace Go.Proofs
open Go Go.RowKit Gx
attribute [local irreducible] Go.Calls Gx.S Gx.O Gx.D Gx.OpP Gx.OpQ Gx.OpH
set_option maxRecDepth 20000
instance : TFn Tryz.prog 12:=⟨by kernel_rfl⟩
instance : TFn Tryz.prog 20:=⟨by kernel_rfl⟩
instance : TFn Tryz.prog 22:=⟨by kernel_rfl⟩
instance : TFn Tryz.prog 16:=⟨by kernel_rfl⟩
theorem Qxd : QK Tryz.prog 25 = true:=by kernel_rfl
theorem Qpq : Qj0 Tryz.prog 23 = some [1,1,1]:=by kernel_rfl
set_option maxHeartbeats 4000000 in
theorem c4a (w : World) (co mo rm : Int) (a : Option Addr) (cap : Nat) (L : List LNd) (x : Ixs) (hs : Nt w [] a L) (hfw : YW (pln L) = true) (hl20 : L.length ≤ 20) (hfx : QlO x = true) (hi : YM (⟨co,mo,rm,pln L⟩ : Tre) = 0) : Calls Tryz.prog 4 #[.agg #[.int .i64 co,.int .i64 mo,.int .i64 rm,.slice a L.length cap],.agg #[.string (bs x.ro),.string (bs x.al),.string (bs x.bm)]] w fun en w'=>en = .returned (.bool true) ∧ Below w.heap.size w w':=by
 have hB:=Qnc hfw
 have hkl:=Qh7 hfw
 have hsm:=Qmk hfw
 have hle:=hB.len
 rw [Qe] at hle
 have hkv:=QfL hfw
 obtain ⟨hx1,hx2,hx3⟩:=QmL hfx
 obtain ⟨hsm1,hsm2⟩:=QqZ (x:=x) (by omega)
 have hrw:=QxE hi
 have hwa : (wrI (⟨co,mo,rm,pln L⟩ : Tre)).al.length ≤ 900000:=by show (YL (ZK (⟨co,mo,rm,pln L⟩ : Tre)) ((pln L).length - 1)).length ≤ _;rw [QcN (QcA hi).1.len,Qe];omega
 have hix9 : ixE (wrI (⟨co,mo,rm,pln L⟩ : Tre)) = 0:=by have h9:=(QkE hi (QcA hi).1).1;rw [← (QcA hi).2] at h9;exact h9
 have hwr : (wrI (⟨co,mo,rm,pln L⟩ : Tre)).ro.length ≤ 1000000:=Nat.le_trans (Qix hix9).1.2 (by decide)
 have hwb : (wrI (⟨co,mo,rm,pln L⟩ : Tre)).bm.length ≤ 100000:=by show (bmB (pln L)).length ≤ _;rw [Qi3];unfold YS;rw [Qe];have:=XU ((L.length - 1 + 7) / 8);omega
 refine eN2 Tryz.func4 Tryz.ntmps4 ?_
 refine aU2 ?_
 refine oBx fun b1 _=>?_
 refine oBx fun b2 _=>?_
 refine aU5 ?_
 refine oCq rfl (fun w1 h1=>c11 w1) ?_
 refine aU2 ?_
 refine sCd rfl (fun h3=>?_) fun h3=>?_
 ·exfalso;simp at h3
 refine aU5 ?_
 refine oCq rfl (fun w1 h1=>c19 w1 co mo rm a cap L (hs.later h1.nil)) ?_
 refine aU2 ?_
 refine oOr 4 21 25 rfl
  (fun hg4 _=>by
   refine aU3 ?_
   refine oCq rfl (fun w1 h1=>c12 w1 x) ?_
   refine aU2 ?_
   exact oJf 4 25)
  (fun hg6 _=>by
   refine aU3 ?_
   exact oJt 4 25) ?_
 refine aU ?_
 refine sCd rfl (fun h8=>?_) fun h8=>?_
 ·exfalso;have hq:=h8;simp [hfw,hfx] at hq;omega
 refine aU4 ?_
 refine oCh rfl (fun w1 h1=>c21 w1 co mo rm a cap L (hs.later h1.nil) hle hsm) (fun ⟨⟨ga,gc⟩,LC⟩ hLC=>?_)
 refine Qja (fun w9 h=>h.nodes_cap aPk) fun hcp=>?_
 refine oCq rfl (fun w1 h1=>c20 w1 co mo rm ga gc LC (HS.nt h1 aPk) (by rw [hLC];exact hB) hcp.1 hcp.2 (QfL (by rw [hLC];exact hfw))) ?_
 rw [hLC]
 rw [show wfI (⟨co,mo,rm,pln L⟩ : Tre) = wrI (⟨co,mo,rm,pln L⟩ : Tre) from if_pos hi,hi]
 refine aU3 ?_
 refine oAl (fun b9 _=>?_) Qdt
 refine aU6 ?_
 refine oCh rfl (fun w1 h1=>c22 w1 x (by omega) (by omega) (by omega)) (fun ⟨⟨ua,uc⟩,UL⟩ hUL=>?_)
 refine aU4 ?_
 refine oAl (fun b10 _=>?_) XL
 refine aU7 ?_
 refine oCh rfl (fun w1 h1=>c16 w1 x (by omega) (by omega) (by omega)) (fun ⟨⟨ra,rc⟩,RL⟩ hRL=>?_)
 refine aU4 ?_
 refine oAl (fun b11 _=>?_) XL
 refine aU6 ?_
 refine Ql (L':=[(2,_),(4,_),(5,_),(6,_),(7,_),(8,_),(9,_),(10,_),(11,_),(12,_)]) aSx (fun _ h=>h) ?_
 refine aU5 ?_
 refine oOr 4 47 51 rfl
  (fun hg12 _=>by
   refine aU6 ?_
   exact oJf 4 51)
  (fun hg14 _=>by
   refine aU3 ?_
   exact oJt 4 51) ?_
 refine aU ?_
 refine oOr 5 52 57 rfl
  (fun hg16 _=>by
   refine aU5 ?_
   refine oCq rfl (fun w1 h1=>c23 w1 (rdI x).1.1.co (rdI x).1.1.mo (rdI x).1.1.rm ua ra uc rc UL RL (HS.nt h1 aPk) (HS.nt h1 aPk) (by have h9 : (pln UL).length = _:=congrArg List.length hUL;rw [Qe] at h9;omega) (by have h9 : (pln RL).length = _:=congrArg List.length hRL;rw [Qe] at h9;omega) (by rw [hUL];exact hsm1) (by rw [hRL];exact hsm1) (hUL.trans hRL.symm)) ?_
   refine aU2 ?_
   exact oJf 5 57)
  (fun hg18 _=>by
   refine aU4 ?_
   exact oJt 5 57) ?_
 refine aU ?_
 refine sCd rfl (fun h20=>?_) fun h20=>?_
 ·exfalso;have hq:=h20;simp at hq
 refine aU5 ?_
 refine oCq rfl (fun w1 h1=>c24 w1 co mo rm a cap L (hs.later h1.nil) hB hkv) ?_
 rw [hi]
 refine aU7 ?_
 refine sCd rfl (fun h21=>?_) fun h21=>?_
 ·exfalso;have hq:=h21;first | exact hi hq | (simp at hq;done) | (simp at hq;exact hi hq)
 refine aU4 ?_
 refine oCh rfl (fun w1 h1=>c22 w1 (wrI (⟨co,mo,rm,pln L⟩ : Tre)) hwa hwr hwb) (fun ⟨⟨va,vc⟩,VL⟩ hVL=>?_)
 rw [hrw] at hVL ⊢
 dsimp only at hVL ⊢
 refine aU4 ?_
 refine oAl (fun b22 _=>?_) XL
 refine aU5 ?_
 refine Ql (L':=[(2,_),(4,_),(5,_),(6,_),(13,_),(14,_),(15,_)]) aSx (fun _ h=>h) ?_
 refine Qz [] QN ?_
 refine dP 0 ?_
 refine dP 1 ?_
 refine dP 2 ?_
 apply Xx 78
 ·exact rfl
 ·intro hg23
  have hs24:=hg23;try simp only [dT] at hs24
  refine dQo 3 78 [] hg23 rfl rfl rfl (Z5 rfl rfl Qgh aPk rfl) ?_
  refine dQo 4 78 [] hg23 rfl rfl rfl (Z5 rfl rfl XR aPk rfl) ?_
  refine dQo 5 78 [] hg23 rfl rfl rfl (Qq rfl Qxd rfl (fun w1 h1=>c25 w1 co mo rm a cap L (hs.later h1.nil) hi)) ?_
  refine dVo 6 78 hg23 rfl rfl rfl (QeP rfl rfl rfl Qpq (by rfl) (by rfl) (by rfl)) ?_
  refine dV 7 rfl (Xu rfl rfl hg23 rfl) ?_
  refine dP 8 ?_
  apply Xx 84
  ·exact rfl
  ·intro hg25
   have hs26:=hg25;try simp only [Bool.and_eq_true,decide_eq_true_eq] at hs26
   refine dPo 9 84 hg25 ?_
   refine dPo 10 84 hg25 ?_
   refine dV 11 rfl (Xu rfl rfl hg25 rfl) ?_
   refine dP 12 ?_
   apply Xx 88
   ·exact rfl
   ·intro hg27
    have hs28:=hg27;try simp only [dT] at hs28
    refine dPo 13 88 hg27 ?_
    refine dPo 14 88 hg27 ?_
    refine dV 15 rfl (Xu rfl rfl hg27 rfl) ?_
    refine dP 16 ?_
    apply Xx 92
    ·exact rfl
    ·intro hg29
     have hs30:=hg29;try simp only [dT] at hs30
     refine dQo 17 92 [] hg29 rfl rfl rfl (Z5 rfl rfl XR aPk rfl) ?_
     refine dQo 18 92 [] hg29 rfl rfl rfl (Z5 rfl rfl XR aPk rfl) ?_
     refine dQo 19 92 [] hg29 rfl rfl rfl (Qq rfl QuD rfl (fun w1 h1=>c23 w1 co mo rm va a vc cap VL L (HS.nt h1 aPk) (hs.later h1.nil) (by rw [← Qe,hVL,Qe];omega) (by omega) (by rw [hVL];exact fun k=>by have:=hsm k;omega) (fun k=>by have:=hsm k;omega) hVL)) ?_
     refine dV 20 rfl (Xu rfl rfl hg29 rfl) ?_
     refine dP 21 ?_
     refine dNi ?_
     exact rT rfl rfl (fun w' h'=>⟨by first | rfl | (simp [QW];done) | (exfalso;simp_all;done),h'.below⟩)
    intro hg31
    have hs32:=hg31;try simp only [dN] at hs32
    exfalso;have hq:=hg31;simp at hq
   intro hg33
   have hs34:=hg33;try simp only [dN] at hs34
   exfalso;have hq:=hg33;simp at hq
  intro hg35
  have hs36:=hg35;try simp only [Bool.and_eq_false_iff,decide_eq_false_iff_not] at hs36
  exfalso;have hq:=hg35;simp at hq
 intro hg37
 have hs38:=hg37;try simp only [dN] at hs38
 exfalso;have hq:=hg37;simp at hq
set_option maxHeartbeats 4000000 in
theorem c4b (w : World) (co mo rm : Int) (a : Option Addr) (cap : Nat) (L : List LNd) (x : Ixs) (hs : Nt w [] a L) (hfw : YW (pln L) = true) (hl20 : L.length ≤ 20) (hfx : QlO x = true) (hi : ¬ YM (⟨co,mo,rm,pln L⟩ : Tre) = 0) : Calls Tryz.prog 4 #[.agg #[.int .i64 co,.int .i64 mo,.int .i64 rm,.slice a L.length cap],.agg #[.string (bs x.ro),.string (bs x.al),.string (bs x.bm)]] w fun en w'=>en = .returned (.bool true) ∧ Below w.heap.size w w':=by
 have hB:=Qnc hfw
 have hkl:=Qh7 hfw
 have hsm:=Qmk hfw
 have hle:=hB.len
 rw [Qe] at hle
 have hkv:=QfL hfw
 obtain ⟨hx1,hx2,hx3⟩:=QmL hfx
 obtain ⟨hsm1,hsm2⟩:=QqZ (x:=x) (by omega)
 refine eN2 Tryz.func4 Tryz.ntmps4 ?_
 refine aU2 ?_
 refine oBx fun b1 _=>?_
 refine oBx fun b2 _=>?_
 refine aU5 ?_
 refine oCq rfl (fun w1 h1=>c11 w1) ?_
 refine aU2 ?_
 refine sCd rfl (fun h3=>?_) fun h3=>?_
 ·exfalso;simp at h3
 refine aU5 ?_
 refine oCq rfl (fun w1 h1=>c19 w1 co mo rm a cap L (hs.later h1.nil)) ?_
 refine aU2 ?_
 refine oOr 4 21 25 rfl
  (fun hg4 _=>by
   refine aU3 ?_
   refine oCq rfl (fun w1 h1=>c12 w1 x) ?_
   refine aU2 ?_
   exact oJf 4 25)
  (fun hg6 _=>by
   refine aU3 ?_
   exact oJt 4 25) ?_
 refine aU ?_
 refine sCd rfl (fun h8=>?_) fun h8=>?_
 ·exfalso;have hq:=h8;simp [hfw,hfx] at hq;omega
 refine aU4 ?_
 refine oCh rfl (fun w1 h1=>c21 w1 co mo rm a cap L (hs.later h1.nil) hle hsm) (fun ⟨⟨ga,gc⟩,LC⟩ hLC=>?_)
 refine Qja (fun w9 h=>h.nodes_cap aPk) fun hcp=>?_
 refine oCq rfl (fun w1 h1=>c20 w1 co mo rm ga gc LC (HS.nt h1 aPk) (by rw [hLC];exact hB) hcp.1 hcp.2 (QfL (by rw [hLC];exact hfw))) ?_
 rw [hLC]
 rw [show wfI (⟨co,mo,rm,pln L⟩ : Tre) = ⟨[],[],[]⟩ from if_neg hi]
 refine aU3 ?_
 refine oAl (fun b9 _=>?_) Qdt
 refine aU6 ?_
 refine oCh rfl (fun w1 h1=>c22 w1 x (by omega) (by omega) (by omega)) (fun ⟨⟨ua,uc⟩,UL⟩ hUL=>?_)
 refine aU4 ?_
 refine oAl (fun b10 _=>?_) XL
 refine aU7 ?_
 refine oCh rfl (fun w1 h1=>c16 w1 x (by omega) (by omega) (by omega)) (fun ⟨⟨ra,rc⟩,RL⟩ hRL=>?_)
 refine aU4 ?_
 refine oAl (fun b11 _=>?_) XL
 refine aU6 ?_
 refine Ql (L':=[(2,_),(4,_),(5,_),(6,_),(7,_),(8,_),(9,_),(10,_),(11,_),(12,_)]) aSx (fun _ h=>h) ?_
 refine aU5 ?_
 refine oOr 4 47 51 rfl
  (fun hg12 _=>by
   refine aU6 ?_
   exact oJf 4 51)
  (fun hg14 _=>by
   refine aU3 ?_
   exact oJt 4 51) ?_
 refine aU ?_
 refine oOr 5 52 57 rfl
  (fun hg16 _=>by
   refine aU5 ?_
   refine oCq rfl (fun w1 h1=>c23 w1 (rdI x).1.1.co (rdI x).1.1.mo (rdI x).1.1.rm ua ra uc rc UL RL (HS.nt h1 aPk) (HS.nt h1 aPk) (by have h9 : (pln UL).length = _:=congrArg List.length hUL;rw [Qe] at h9;omega) (by have h9 : (pln RL).length = _:=congrArg List.length hRL;rw [Qe] at h9;omega) (by rw [hUL];exact hsm1) (by rw [hRL];exact hsm1) (hUL.trans hRL.symm)) ?_
   refine aU2 ?_
   exact oJf 5 57)
  (fun hg18 _=>by
   refine aU4 ?_
   exact oJt 5 57) ?_
 refine aU ?_
 refine sCd rfl (fun h20=>?_) fun h20=>?_
 ·exfalso;have hq:=h20;simp at hq
 refine aU5 ?_
 refine oCq rfl (fun w1 h1=>c24 w1 co mo rm a cap L (hs.later h1.nil) hB hkv) ?_
 refine aU7 ?_
 refine sCd rfl (fun h21=>?_) fun h21=>?_
 ·refine aU6 ?_
  refine Yq 4 65 69 rfl
   (fun hg22 _=>by
    refine aU3 ?_
    refine o_p (QD (cs:=[_,_,_]) rfl rfl QnH Qdt rfl) rfl ?_
    refine aU ?_
    refine o_p (QeP rfl rfl rfl Qpq (by rfl) (by rfl) (by rfl)) rfl ?_
    exact oJt 4 69)
   (fun hg24 _=>by
    refine aU3 ?_
    exact oJf 4 69) ?_
  refine aU2 ?_
  exact rT rfl rfl (fun w' h'=>⟨by first | rfl | (simp [QW];done) | (exfalso;simp_all;done),h'.below⟩)
 exfalso;have hq:=h21;first | exact hi hq | (simp at hq;done) | (simp at hq;exact hi hq)
theorem c4z (w : World) (co mo rm : Int) (a : Option Addr) (cap : Nat) (L : List LNd) (x : Ixs) (hs : Nt w [] a L) (hz : ¬ ((YW (pln L) = true ∧ L.length ≤ 20) ∧ QlO x = true)) : Calls Tryz.prog 4 #[.agg #[.int .i64 co,.int .i64 mo,.int .i64 rm,.slice a L.length cap],.agg #[.string (bs x.ro),.string (bs x.al),.string (bs x.bm)]] w fun en w'=>en = .returned (.bool true) ∧ Below w.heap.size w w':=by
 refine eN2 Tryz.func4 Tryz.ntmps4 ?_
 refine aU2 ?_
 refine oBx fun b1 _=>?_
 refine oBx fun b2 _=>?_
 refine aU5 ?_
 refine oCq rfl (fun w1 h1=>c11 w1) ?_
 refine aU2 ?_
 refine sCd rfl (fun h3=>?_) fun h3=>?_
 ·exfalso;simp at h3
 refine aU5 ?_
 refine oCq rfl (fun w1 h1=>c19 w1 co mo rm a cap L (hs.later h1.nil)) ?_
 refine aU2 ?_
 refine oOr 4 21 25 rfl
  (fun hg4 _=>by
   refine aU3 ?_
   refine oCq rfl (fun w1 h1=>c12 w1 x) ?_
   refine aU2 ?_
   exact oJf 4 25)
  (fun hg6 _=>by
   refine aU3 ?_
   exact oJt 4 25) ?_
 refine aU ?_
 refine sCd rfl (fun h8=>?_) fun h8=>?_
 ·refine aU4 ?_
  exact rT rfl rfl (fun w' h'=>⟨by rfl,h'.below⟩)
 exfalso;have hq:=h8;exact hz ⟨⟨hq.1.1,by have:=hq.1.2;omega⟩,hq.2⟩
theorem c4 (w : World) (co mo rm : Int) (a : Option Addr) (cap : Nat) (L : List LNd) (x : Ixs) (hs : Nt w [] a L) : Calls Tryz.prog 4 #[.agg #[.int .i64 co,.int .i64 mo,.int .i64 rm,.slice a L.length cap],.agg #[.string (bs x.ro),.string (bs x.al),.string (bs x.bm)]] w fun en w'=>en = .returned (.bool true) ∧ Below w.heap.size w w':=by
  by_cases hz : ((YW (pln L) = true ∧ L.length ≤ 20) ∧ QlO x = true)
  · obtain ⟨⟨h1,h2⟩,h3⟩:=hz
    by_cases hi : YM (⟨co,mo,rm,pln L⟩ : Tre) = 0
    · exact c4a w co mo rm a cap L x hs h1 h2 h3 hi
    · exact c4b w co mo rm a cap L x hs h1 h2 h3 hi
  · exact c4z w co mo rm a cap L x hs hz
end Go.Proofs
