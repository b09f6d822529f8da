/- Contracts of the program's functions, proved by walking them with the rules of the Gx texts; without conditions beyond those that each contract names. -/
import Derived.WalkKit
import Derived.Deep.Draws
import Derived.TacticsIn
import Derived.OrdersIn
import Derived.RangeFuncLeaves
import Derived.Lib.Strings
import Derived.Laws.BytesArg
import Derived.Laws.IdiomStrings
import Derived.Deep.Quiet
import Derived.ProofKit
import Derived.OpenShut
import Derived.Laws.StructEq
import Derived.ChangeKeysEq
import Derived.Laws.Externs
import Derived.Lib.Overlaps
import Derived.Carry
import Derived.Laws.Small
import Derived.Lib.Bytealg
import Derived.Lib.Builder
import Derived.Laws.Pointers
import Derived.RangeFuncRecord
import Derived.Test.YtpkhkcchibbhmaaGreatDoorProg
import Derived.KernelRfl
import Derived.SizedLaws
import Derived.ChangeSame
import Derived.Handed
import Derived.Test.YtpkhkcchibbhmaaGreatDoorTie
import Derived.Test.YtpkhkcchibbhmaaGreatDoorCards
import Derived.SevenTiedAt
import Derived.LaidMore
import Derived.Lay
import Derived.Stop.Joined
import Derived.Test.YtpkhkcchibbhmaaGreatDoorP3
set_option linter.unusedSimpArgs false
set_option maxHeartbeats 1000000
set_option linter.unusedVariables false
set_option linter.unusedSectionVars false
set_option linter.unnecessarySimpa false
namespace Go.Proofs
open Go Go.RowKit Gx
attribute [local irreducible] Go.Calls Gx.S Gx.O Gx.D Gx.OpP Gx.OpQ Gx.OpH
set_option maxRecDepth 20000
instance : TFd Tryz.prog 23 0 0 9:=⟨by kernel_rfl⟩
theorem Qsc : QM Tryz.prog 66 = true:=by kernel_rfl
instance : TFn Tryz.prog 66:=⟨Qsc⟩
instance : TFn Tryz.prog 67:=⟨by kernel_rfl⟩
theorem c49 (w : World) (x : Ixs) (hl : x.al.length ≤ 900000) (hr : x.ro.length ≤ 1000000) (hb : x.bm.length ≤ 100000) : Calls Tryz.prog 49 #[.agg #[.string (bs x.ro),.string (bs x.al),.string (bs x.bm)]] w fun en w'=>en = .returned (.int .i64 (ixE x)) ∧ Below w.heap.size w w':=by
 have hn9 : x.n ≤ x.al.length:=Nat.div_le_self _ _
 refine eN1 Tryz.func49 Tryz.ntmps49 ?_
 refine aU2 ?_
 refine oBx fun b1 _=>?_
 refine aU7 ?_
 refine o_p (Qj rfl rfl Tryz.underlying9) rfl ?_
 refine aU2 ?_
 refine oOr 5 11 16 rfl
  (fun hg2 _=>by
   refine aU5 ?_
   refine o_p (Qj rfl rfl Tryz.underlying9) rfl ?_
   refine aU2 ?_
   exact oJf 5 16)
  (fun hg4 _=>by
   refine aU4 ?_
   exact oJt 5 16) ?_
 refine aU ?_
 refine sCd rfl (fun h6=>?_) fun h6=>?_
 ·have hE:=QiW (x:=x) (by have hq:=h6;omega)
  refine aU4 ?_
  exact rT rfl rfl (fun w' h'=>⟨by rw [hE];rfl,h'.below⟩)
 have hA : x.al.length ≤ 61440 ∧ x.ro.length ≤ 200000:=by have hq:=h6;omega
 refine aU3 ?_
 refine QhB (α:=Bool) [17,18,19,20,21,22,23,24,25,26,27,28,29,30,31] (fun b=>[(31,.bool b)]) (fun b=>(b = true → ¬ (x.al.length % 512 = 0 ∧ x.bm.length = QT ((x.n + 7) / 8))) ∧ (b = false → x.al.length % 512 = 0 ∧ x.bm.length = QT ((x.n + 7) / 8))) ?_ ?_
 ·skip
  refine QF [] QV ?_
  refine dFa 0 ?_
  refine dLd 1 [] ?_
  refine dV 2 rfl (Qj rfl rfl Tryz.underlying9) ?_
  refine dV 3 rfl (Zc rfl rfl rfl (by omega) (by omega)) ?_
  refine dP 4 ?_
  refine dP 5 ?_
  apply Qbz 22
  ·exact rfl
  ·intro hg7
   have hs8:=hg7;try simp only [Bool.not_eq_true',decide_eq_false_iff_not] at hs8
   refine dOf 6 22 hg7 ?_
   refine dOf 7 22 hg7 ?_
   refine dOf 8 22 hg7 ?_
   refine dOf 9 22 hg7 ?_
   refine dOf 10 22 hg7 ?_
   refine dOf 11 22 hg7 ?_
   refine dOf 12 22 hg7 ?_
   refine dOf 13 22 hg7 ?_
   refine dV 14 rfl (Zz rfl rfl hg7 rfl) ?_
   refine dNi ?_
   exact QA true ⟨fun _ h9=>by grind,fun h9=>by cases h9⟩ aSx (fun w h=>h.ent aEt)
  intro hg9
  have hs10:=hg9;try simp only [Bool.not_eq_false',decide_eq_true_eq] at hs10
  refine dFo 6 22 hg9 ?_
  refine dQo 7 22 [] hg9 rfl rfl rfl (Qci rfl rfl Qd4 aPk rfl) ?_
  refine dVo 8 22 hg9 rfl rfl rfl (Qj rfl rfl Tryz.underlying9) ?_
  refine dQo 9 22 [] hg9 rfl rfl rfl (Qc7 rfl rfl Qsb aPk rfl) ?_
  refine dQo 10 22 [] hg9 rfl rfl rfl (Q1 rfl Qsc rfl (fun w1 h1=>c66 w1 x (by omega))) ?_
  refine dQo 11 22 [] hg9 rfl rfl rfl (Q1 rfl Qpa rfl (fun w1 h1=>c121 w1 (x.n : Int) (by omega))) ?_
  refine Q5 (show _ = Value.int .i64 (((x.n + 7) / 8 : Nat) : Int) from congrArg (Value.int .i64) (by omega)) ?_
  refine dQo 12 22 [] hg9 rfl rfl rfl (Q1 rfl QsM rfl (fun w1 h1=>c95 w1 ((x.n + 7) / 8) (by omega))) ?_
  refine dPo 13 22 hg9 ?_
  refine dV 14 rfl (ZC rfl rfl hg9 rfl) ?_
  refine dNi ?_
  exact QA (!decide ((x.bm.length : Int) = ((QT ((x.n + 7) / 8) : Nat) : Int))) ⟨fun h8 h9=>by grind,fun h8=>by grind⟩ aSx (fun w h=>h.ent aEt)
 intro b9 hb9
 refine sCd rfl (fun h11=>?_) fun h11=>?_
 ·have hE:=Qi5 hA (hb9.1 h11)
  refine aU4 ?_
  exact rT rfl rfl (fun w' h'=>⟨by rw [hE];rfl,h'.below⟩)
 have hB:=hb9.2 h11
 refine aU6 ?_
 refine oCh rfl (fun w1 h1=>c31 w1 x.ro hr) (fun ⟨⟨ra,rc⟩,RL⟩ hRL=>?_)
 refine aU3 ?_
 refine oAl (fun b12 _=>?_) Zv
 refine aU8 ?_
 refine sCd rfl (fun h13=>?_) fun h13=>?_
 ·have hE:=Qlo hA hB h13
  refine aU5 ?_
  exact rT rfl rfl (fun w' h'=>⟨by rw [hE];rfl,h'.below⟩)
 have hC : (Qa x.ro).2 = 0:=h13
 refine aU5 ?_
 refine oCq rfl (fun w1 h1=>c66 w1 x (by omega)) ?_
 refine aT ?_
 refine aU3 ?_
 refine Qk (L':=[(1,_),(2,_),(5,_)]) aSx (fun _ h=>h) ?_
 refine Qo (α:=Nat) [2,5,44,45,46,47,48,49,50,51,52,53,54] (fun i=>[(5,.int .i64 ((i : Int) + 1))]) (fun _=>HS w [] [.blk b1 23 3 [.string (bs x.ro),.string (bs x.al),.string (bs x.bm)]]) (fun i=>x.n ≤ i ∧ i ≤ x.n + 8 * x.bm.length ∧ ∀ j,x.n ≤ j → j < i → ZH x.bm j = false) (fun i=>8 * x.bm.length - i) x.n ⟨Nat.le_refl _,by omega,fun j h1 h2=>by omega⟩ aSx (fun w h=>h.ent aEt) (fun i hii=>?_)
 obtain ⟨hi1,hi2,hi3⟩:=hii
 refine aU6 ?_
 refine o_p (Qj rfl rfl Tryz.underlying9) rfl ?_
 refine aT ?_
 refine aU2 ?_
 refine sCd rfl (fun h14=>?_) fun h14=>?_
 ·have hi : i + 1 ≤ 8 * x.bm.length:=by have hq:=h14;omega
  refine aU7 ?_
  refine oCq rfl (fun w1 h1=>c67 w1 x (i + 1) (by omega) (by omega)) ?_
  refine aU ?_
  refine sCd rfl (fun h15=>?_) fun h15=>?_
  ·have hE:=Qlq hA hB hC (Qip hi1 (by omega) (by have hq:=h15;exact hq))
   refine aU4 ?_
   exact rT rfl rfl (fun w' h'=>⟨by rw [hE];rfl,h'.below⟩)
  have hZ : ZH x.bm i = false:=by have hq:=h15;simpa using hq
  refine aT5 ?_
  refine aU2 ?_
  exact sBk (i + 1) (by omega) ⟨by omega,by omega,fun j h1 h2=>(Nat.lt_or_ge j i).elim (hi3 j h1) (fun h=>by obtain rfl : j = i:=(by omega);exact hZ)⟩
 have hi : 8 * x.bm.length ≤ i:=by have hq:=h14;omega
 have hO:=Qk6 (x:=x) (fun j h1 h2=>hi3 j h1 (by omega))
 have hE:=Qlh hA hB hC hO
 refine Qh rfl ?_
 refine aU4 ?_
 refine oCq rfl (fun w1 h1=>c66 w1 x (by omega)) ?_
 refine aU7 ?_
 refine YH 5 59 64 rfl
  (fun hg16 _=>by
   refine aU5 ?_
   refine oCq rfl (fun w1 h1=>c67 w1 x x.n (by omega) (by omega)) ?_
   refine aU2 ?_
   exact oJt 5 64)
  (fun hg18 _=>by
   refine aU4 ?_
   exact oJf 5 64) ?_
 refine aU ?_
 refine sCd rfl (fun h20=>?_) fun h20=>?_
 ·have hE2 : ixE x = 3:=by rw [hE,if_neg];have hq:=h20;intro h9;rcases h9 with h9 | h9;omega;rw [h9] at hq;simp at hq
  refine aU4 ?_
  exact rT rfl rfl (fun w' h'=>⟨by rw [hE2];rfl,h'.below⟩)
 have hE2 : ixE x = 0:=by rw [hE,if_pos];have hq:=h20;by_cases h9 : x.n = 0;exact .inl h9;exact .inr (by simp at hq;grind)
 refine aU5 ?_
 exact rT rfl rfl (fun w' h'=>⟨by rw [hE2];rfl,h'.below⟩)
end Go.Proofs
namespace Gx
open Go Go.RowKit
def bmO (ns : List Nd) (g : Nat) : List UInt8:=(List.range g).map fun j=>by8 ((QuH ns j 8 : Nat) : Int)
def bitW (ns : List Nd) (K g : Nat) : Nat → Nat
 | 0=>0
 | i + 1=>bitW ns K g i + (if (nth ns (8 * g + i + 1)).us = true ∧ 8 * g + i + 1 < K then 2 ^ i else 0)
def bmW (ns : List Nd) (r K : Nat) : List UInt8:=(List.range r).map fun g=>by8 ((bitW ns K g 8 : Nat) : Int)
end Gx
namespace Go.Proofs
open Go Go.RowKit Gx
attribute [local irreducible] Go.Calls Gx.S Gx.O Gx.D Gx.OpP Gx.OpQ Gx.OpH
set_option maxRecDepth 20000
def wfI (t : Tre) : Ixs:=if Qmj t = 0 then wrI t else ⟨[],[],[]⟩
theorem QeK : QL Tryz.prog 108 = some [.string (bs []),.string (bs []),.string (bs []),.int .i64 0,.int .i64 0,.int .i64 0,.slice none 0 0]:=by kernel_rfl
theorem Qte : Y3 Tryz.prog 108 = some [(0,3),(3,4)]:=by kernel_rfl
instance : TFd Tryz.prog 108 1 3 37:=⟨by kernel_rfl⟩
theorem Qr6 : QM Tryz.prog 61 = true:=by kernel_rfl
instance : TFn Tryz.prog 61:=⟨Qr6⟩
theorem Qeg {x : Ixs} {v : Bool} (hE : ixE x = if x.n = 0 ∨ ZH x.bm (x.n - 1) = true then 0 else 3) (hv : v = true ↔ (x.n = 0 ∨ ZH x.bm (x.n - 1) = true)) : ixE x = bif v then 0 else 3:=by
  rw [hE];cases v with
  | false=>rw [if_neg (fun h=>by cases hv.2 h)];rfl
  | true=>rw [if_pos (hv.1 rfl)];rfl
theorem Qi6 {x : Ixs} (h : ¬ x.n = 0) : Y7 x x.n = true ↔ (x.n = 0 ∨ ZH x.bm (x.n - 1) = true):=by
  unfold Y7;rw [decide_eq_true (show 1 ≤ x.n ∧ x.n ≤ x.n by omega),Bool.true_and];exact ⟨.inr,fun h9=>h9.elim (fun h8=>absurd h8 h) id⟩
theorem QcX {x : Ixs} {u v : Bool} (hu : u = true ↔ x.al.length ≤ 61440 ∧ x.ro.length ≤ 200000) (hv : v = true ↔ x.al.length % 512 = 0 ∧ x.bm.length = QT ((x.n + 7) / 8)) :
    (Xx [.int .i64 (bif u then 0 else 8),.int .i64 (bif v then 0 else 10)] = 0 → (x.al.length ≤ 61440 ∧ x.ro.length ≤ 200000) ∧ x.al.length % 512 = 0 ∧ x.bm.length = QT ((x.n + 7) / 8)) ∧
    (¬ Xx [.int .i64 (bif u then 0 else 8),.int .i64 (bif v then 0 else 10)] = 0 → ixE x = Xx [.int .i64 (bif u then 0 else 8),.int .i64 (bif v then 0 else 10)]):=by
  cases u with
  | false=>exact ⟨fun h=>absurd (show (8 : Int) = 0 from h) (by decide),fun _=>QiW fun h9=>by cases hu.2 h9⟩
  | true=>
    cases v with
    | false=>exact ⟨fun h=>absurd (show (10 : Int) = 0 from h) (by decide),fun _=>Qi5 (hu.1 rfl) fun h9=>by cases hv.2 h9⟩
    | true=>exact ⟨fun _=>⟨hu.1 rfl,hv.1 rfl⟩,fun h=>absurd rfl h⟩
set_option maxHeartbeats 2000000 in
theorem c56 (w : World) (x : Ixs) (hl : x.al.length ≤ 900000) (hr : x.ro.length ≤ 1000000) (hb : x.bm.length ≤ 100000) : Calls Tryz.prog 56 #[.agg #[.string (bs x.ro),.string (bs x.al),.string (bs x.bm)]] w fun en w'=>∃ g : (Int × Int × Int) × (Option Addr × Nat) × List LNd,en = .returned (.tuple #[.agg #[.string (bs x.ro),.string (bs x.al),.string (bs x.bm),.int .i64 g.1.1,.int .i64 g.1.2.1,.int .i64 g.1.2.2,.slice g.2.1.1 g.2.2.length g.2.1.2],.int .i64 (ixE x)]) ∧ (ixE x = 0 → (⟨g.1.1,g.1.2.1,g.1.2.2,pln g.2.2⟩ : Tre) = (Qa x.ro).1) ∧ HS w [] [.nodes 27 69 g.2.1.1 g.2.1.2 g.2.2] w':=by
 have hn9 : x.n ≤ x.al.length:=Nat.div_le_self _ _
 have hpd : QT ((x.n + 7) / 8) = ((x.n + 7) / 8 + 7) / 8 * 8:=rfl
 refine eN1 Tryz.func56 Tryz.ntmps56 ?_
 refine aU2 ?_
 refine oBx fun b1 _=>?_
 refine oAl (fun b2 _=>?_) QeK
 refine aU5 ?_
 refine o_p (Q7 (cs:=[_,_,_,_,_,_,_]) rfl rfl Qte QeK rfl) rfl ?_
 refine oAl (fun b3 _=>?_) QeK
 refine aU5 ?_
 refine oCq rfl (fun w1 h1=>Qrc w1 x 0 0 0 none 0 0 (by omega)) ?_
 refine aT6 ?_
 refine aT ?_
 refine o_p (XL rfl rfl rfl (by omega) (by omega) (by omega)) rfl ?_
 refine aU3 ?_
 refine QhB (α:=Int) [7,17,18,19,20,21,22,23,24,25,26,27,28,29,30,31,32,33,34,35,36,37,38,39,40,41,42,43,44,45,46] (fun e=>[(7,.int .i64 e)]) (fun e=>(e = 0 → (x.al.length ≤ 61440 ∧ x.ro.length ≤ 200000) ∧ x.al.length % 512 = 0 ∧ x.bm.length = QT ((x.n + 7) / 8)) ∧ (¬ e = 0 → ixE x = e)) ?_ ?_
 ·skip
  refine QF [] QV ?_
  refine dFa 0 ?_
  refine dLd 1 [] ?_
  refine dV 2 rfl (Qj rfl rfl Tryz.underlying9) ?_
  refine dP 3 ?_
  refine dP 4 ?_
  apply Qbz 21
  ·exact rfl
  ·intro hg4
   have hs5:=hg4;try simp only [dT] at hs5
   refine dFo 5 21 hg4 ?_
   refine dQo 6 21 [] hg4 rfl rfl rfl (Qci rfl rfl Qd4 aPk rfl) ?_
   refine dVo 7 21 hg4 rfl rfl rfl (Qj rfl rfl Tryz.underlying9) ?_
   refine dPo 8 21 hg4 ?_
   refine dV 9 rfl (Zz rfl rfl hg4 rfl) ?_
   refine dQ 10 [] rfl (Q1 rfl Qc5 rfl (fun w1 h1=>c60 w1 _ _)) ?_
   refine dFa 11 ?_
   refine dLd 12 [] ?_
   refine dV 13 rfl (Qj rfl rfl Tryz.underlying9) ?_
   refine dV 14 rfl (Zc rfl rfl rfl (by omega) (by omega)) ?_
   refine dP 15 ?_
   refine dP 16 ?_
   apply Qbz 33
   ·exact rfl
   ·intro hg6
    have hs7:=hg6;try simp only [dT] at hs7
    refine dFo 17 33 hg6 ?_
    refine dQo 18 33 [] hg6 rfl rfl rfl (Qci rfl rfl Qd4 aPk rfl) ?_
    refine dVo 19 33 hg6 rfl rfl rfl (Qj rfl rfl Tryz.underlying9) ?_
    refine dPo 20 33 hg6 ?_
    refine dPo 21 33 hg6 ?_
    try refine dWr ?_
    refine dPo 22 33 hg6 ?_
    try refine dWr ?_
    refine dVo 23 33 hg6 rfl rfl rfl (XL rfl rfl rfl (by omega) (by omega) (by omega)) ?_
    refine dPo 24 33 hg6 ?_
    try refine dWr ?_
    refine dPo 25 33 hg6 ?_
    refine dV 26 rfl (Zz rfl rfl hg6 rfl) ?_
    refine dQ 27 [] rfl (Q1 rfl Qc5 rfl (fun w1 h1=>c60 w1 _ _)) ?_
    refine dH 28 rfl (Qm (cs:=[_,_]) rfl rfl Zp QcS rfl rfl rfl) (fun b8 _=>?_)
    refine dBa ?_
    refine dQ 29 [] rfl (Q1 rfl Qjd rfl (fun w1 h1=>f59 h1 aPk (by rfl) (by rfl) (by decide))) ?_
    refine dP 30 ?_
    refine dNi ?_
    exact QA (Xx [.int .i64 (bif decide ((x.ro.length : Int) ≤ 200000) then 0 else 8),.int .i64 (bif decide ((x.bm.length : Int) = (((x.n : Int) + 8 - 1) / 8 + 8 - 1) / 8 * 8) then 0 else 10)]) (QcX (x:=x) (by first | (simp only [decide_eq_true_eq];omega) | (simp;omega) | grind) (by first | (simp only [decide_eq_true_eq];omega) | (simp;omega) | grind)) aSx (fun w h=>h.ent aEt)
   intro hg9
   have hs10:=hg9;try simp only [dN] at hs10
   refine dOf 17 33 hg9 ?_
   refine dOf 18 33 hg9 ?_
   refine dOf 19 33 hg9 ?_
   refine dOf 20 33 hg9 ?_
   refine dOf 21 33 hg9 ?_
   refine dOf 22 33 hg9 ?_
   refine dOf 23 33 hg9 ?_
   refine dOf 24 33 hg9 ?_
   refine dOf 25 33 hg9 ?_
   refine dV 26 rfl (ZC rfl rfl hg9 rfl) ?_
   refine dQ 27 [] rfl (Q1 rfl Qc5 rfl (fun w1 h1=>c60 w1 _ _)) ?_
   refine dH 28 rfl (Qm (cs:=[_,_]) rfl rfl Zp QcS rfl rfl rfl) (fun b11 _=>?_)
   refine dBa ?_
   refine dQ 29 [] rfl (Q1 rfl Qjd rfl (fun w1 h1=>f59 h1 aPk (by rfl) (by rfl) (by decide))) ?_
   refine dP 30 ?_
   refine dNi ?_
   exact QA (Xx [.int .i64 (bif decide ((x.ro.length : Int) ≤ 200000) then 0 else 8),.int .i64 (bif false then 0 else 10)]) (QcX (x:=x) (by first | (simp only [decide_eq_true_eq];omega) | (simp;omega) | grind) (by first | (simp only [decide_eq_true_eq];omega) | (simp;omega) | grind)) aSx (fun w h=>h.ent aEt)
  intro hg12
  have hs13:=hg12;try simp only [dN] at hs13
  refine dOf 5 21 hg12 ?_
  refine dOf 6 21 hg12 ?_
  refine dOf 7 21 hg12 ?_
  refine dOf 8 21 hg12 ?_
  refine dV 9 rfl (ZC rfl rfl hg12 rfl) ?_
  refine dQ 10 [] rfl (Q1 rfl Qc5 rfl (fun w1 h1=>c60 w1 _ _)) ?_
  refine dFa 11 ?_
  refine dLd 12 [] ?_
  refine dV 13 rfl (Qj rfl rfl Tryz.underlying9) ?_
  refine dV 14 rfl (Zc rfl rfl rfl (by omega) (by omega)) ?_
  refine dP 15 ?_
  refine dP 16 ?_
  apply Qbz 33
  ·exact rfl
  ·intro hg14
   have hs15:=hg14;try simp only [dT] at hs15
   refine dFo 17 33 hg14 ?_
   refine dQo 18 33 [] hg14 rfl rfl rfl (Qci rfl rfl Qd4 aPk rfl) ?_
   refine dVo 19 33 hg14 rfl rfl rfl (Qj rfl rfl Tryz.underlying9) ?_
   refine dPo 20 33 hg14 ?_
   refine dPo 21 33 hg14 ?_
   try refine dWr ?_
   refine dPo 22 33 hg14 ?_
   try refine dWr ?_
   refine dVo 23 33 hg14 rfl rfl rfl (XL rfl rfl rfl (by omega) (by omega) (by omega)) ?_
   refine dPo 24 33 hg14 ?_
   try refine dWr ?_
   refine dPo 25 33 hg14 ?_
   refine dV 26 rfl (Zz rfl rfl hg14 rfl) ?_
   refine dQ 27 [] rfl (Q1 rfl Qc5 rfl (fun w1 h1=>c60 w1 _ _)) ?_
   refine dH 28 rfl (Qm (cs:=[_,_]) rfl rfl Zp QcS rfl rfl rfl) (fun b16 _=>?_)
   refine dBa ?_
   refine dQ 29 [] rfl (Q1 rfl Qjd rfl (fun w1 h1=>f59 h1 aPk (by rfl) (by rfl) (by decide))) ?_
   refine dP 30 ?_
   refine dNi ?_
   exact QA (Xx [.int .i64 (bif false then 0 else 8),.int .i64 (bif decide ((x.bm.length : Int) = (((x.n : Int) + 8 - 1) / 8 + 8 - 1) / 8 * 8) then 0 else 10)]) (QcX (x:=x) (by first | (simp only [decide_eq_true_eq];omega) | (simp;omega) | grind) (by first | (simp only [decide_eq_true_eq];omega) | (simp;omega) | grind)) aSx (fun w h=>h.ent aEt)
  intro hg17
  have hs18:=hg17;try simp only [dN] at hs18
  refine dOf 17 33 hg17 ?_
  refine dOf 18 33 hg17 ?_
  refine dOf 19 33 hg17 ?_
  refine dOf 20 33 hg17 ?_
  refine dOf 21 33 hg17 ?_
  refine dOf 22 33 hg17 ?_
  refine dOf 23 33 hg17 ?_
  refine dOf 24 33 hg17 ?_
  refine dOf 25 33 hg17 ?_
  refine dV 26 rfl (ZC rfl rfl hg17 rfl) ?_
  refine dQ 27 [] rfl (Q1 rfl Qc5 rfl (fun w1 h1=>c60 w1 _ _)) ?_
  refine dH 28 rfl (Qm (cs:=[_,_]) rfl rfl Zp QcS rfl rfl rfl) (fun b19 _=>?_)
  refine dBa ?_
  refine dQ 29 [] rfl (Q1 rfl Qjd rfl (fun w1 h1=>f59 h1 aPk (by rfl) (by rfl) (by decide))) ?_
  refine dP 30 ?_
  refine dNi ?_
  exact QA (Xx [.int .i64 (bif false then 0 else 8),.int .i64 (bif false then 0 else 10)]) (QcX (x:=x) (by first | (simp only [decide_eq_true_eq];omega) | (simp;omega) | grind) (by first | (simp only [decide_eq_true_eq];omega) | (simp;omega) | grind)) aSx (fun w h=>h.ent aEt)
 intro e9 he9
 refine aU6 ?_
 refine sCd rfl (fun h20=>?_) fun h20=>?_
 ·have hR : ixE x = e9:=he9.2 h20
  refine aU7 ?_
  exact Qs (rs:=[.cell 2 108,.tmp 3]) rfl (.cell rfl Qcl aPk rfl (.tmp rfl (.nil))) (fun w' h'=>⟨((0,0,0),(none,0),[]),by rw [hR];rfl,(fun h9=>by rw [hR] at h9;exact absurd h9 (by assumption)),(Xu 27 69 h'.nil).ent aEt⟩)
 obtain ⟨hA,hBB⟩:=he9.1 h20
 refine aU6 ?_
 refine oCh rfl (fun w1 h1=>c28 w1 x.ro hr) (fun ⟨⟨ra,rc⟩,RL⟩ hRL=>?_)
 refine QaE ?_
 refine sCd rfl (fun h21=>?_) fun h21=>?_
 ·have hR:=Qlo hA hBB h21
  refine aU7 ?_
  exact Qs (rs:=[.cell 2 108,.tmp 3]) rfl (.cell rfl Qcl aPk rfl (.tmp rfl (.nil))) (fun w' h'=>⟨(((Qa x.ro).1.co,(Qa x.ro).1.mo,(Qa x.ro).1.rm),(ra,rc),RL),by rw [hR];rfl,(fun h9=>by rw [hR] at h9;first | exact absurd h9 (by assumption) | cases h9),h'.ent aEt⟩)
 have hC : (Qa x.ro).2 = 0:=h21
 refine aU6 ?_
 refine o_p (Qj rfl rfl Tryz.underlying9) rfl ?_
 refine aT ?_
 refine aU3 ?_
 refine Qk (L':=[(1,_),(2,_),(3,_),(4,_),(5,_),(65,_),(66,_)]) aSx (fun _ h=>h) ?_
 refine Qo (α:=Nat) [3,8,66,67,68,69,70,71,72,73,74,75,76,77,78,79,80,81,82,83,84,85] (fun k=>[(66,.int .i64 (k : Int))]) (fun _=>HS w [] [.nodes 27 69 ra rc RL,.blk b3 108 7 [.string (bs x.ro),.string (bs x.al),.string (bs x.bm),.int .i64 (Qa x.ro).1.co,.int .i64 (Qa x.ro).1.mo,.int .i64 (Qa x.ro).1.rm,.slice ra RL.length rc],.blk b2 108 7 [.string (bs []),.string (bs []),.string (bs []),.int .i64 0,.int .i64 0,.int .i64 0,.slice none 0 0],.blk b1 23 3 [.string (bs x.ro),.string (bs x.al),.string (bs x.bm)]]) (fun k=>k ≤ 8 * x.bm.length ∧ ∀ j,j < k → x.n ≤ j → ZH x.bm j = false) (fun k=>8 * x.bm.length - k) 0 ⟨Nat.zero_le _,fun j h=>absurd h (Nat.not_lt_zero _)⟩ aSx (fun w h=>h.ent aEt) (fun k hkk=>?_)
 obtain ⟨hk1,hk2⟩:=hkk
 refine aU5 ?_
 refine sCd rfl (fun h22=>?_) fun h22=>?_
 ·have hk : k < 8 * x.bm.length:=by have hq:=h22;omega
  refine QgI ?_
  refine YH 11 72 83 rfl
   (fun hg23 _=>by
    refine aU7 ?_
    refine o_p (XL rfl rfl rfl (by omega) (by omega) (by omega)) rfl ?_
    refine aU ?_
    refine o_p (Q0 rfl rfl rfl Tryz.underlying9 (k / 8) (by omega) (by omega)) rfl ?_
    refine Qf (show _ = Value.int .u8 ((ub1 x.bm (k / 8) : Nat) : Int) from rfl) ?_
    refine aU3 ?_
    refine o_p (Zc rfl rfl rfl (by omega) (by omega)) rfl ?_
    refine aU ?_
    refine o_p (Qam rfl rfl rfl (by omega) (k % 8) (by show min _ 8 = _;omega)) rfl ?_
    refine aU4 ?_
    exact oJt 11 83)
   (fun hg25 _=>by
    refine QaP ?_
    exact oJf 11 83) ?_
  refine aU ?_
  refine sCd rfl (fun h27=>?_) fun h27=>?_
  ·have hR:=Qlq hA hBB hC (Qip (x:=x) (j:=k) (by have hq:=h27;omega) hk (by rw [← QfE];have hq:=h27;exact decide_eq_true hq.2))
   refine aU6 ?_
   exact Qs (rs:=[.cell 2 108,.tmp 3]) rfl (.cell rfl Qcl aPk rfl (.tmp rfl (.nil))) (fun w' h'=>⟨(((Qa x.ro).1.co,(Qa x.ro).1.mo,(Qa x.ro).1.rm),(ra,rc),RL),by rw [hR];rfl,(fun h9=>by rw [hR] at h9;cases h9),h'.ent aEt⟩)
  have hZ : x.n ≤ k → ZH x.bm k = false:=fun h9=>by rw [← QfE];refine decide_eq_false fun h8=>?_;have hq:=h27;grind
  refine aT4 ?_
  refine aU2 ?_
  exact sBk (k + 1) (by omega) ⟨by omega,fun j hj hn=>(Nat.lt_or_ge j k).elim (fun h=>hk2 j h hn) (fun h=>by obtain rfl : j = k:=(by omega);exact hZ hn)⟩
 have hO:=Qk6 (x:=x) (fun j h1 h2=>hk2 j (by have hq:=h22;omega) h1)
 have hE:=Qlh hA hBB hC hO
 refine Qh rfl ?_
 refine aU ?_
 refine QF [9] QV ?_
 refine dLn 0 [[]] ?_
 refine dP 1 ?_
 refine dP 2 ?_
 refine dP 3 ?_
 apply Qbz 89
 ·exact rfl
 ·intro hg28
  have hs29:=hg28;try simp only [dT] at hs29
  refine dOf 4 89 hg28 ?_
  refine dOf 5 89 hg28 ?_
  refine dOf 6 89 hg28 ?_
  refine dV 7 rfl (Zz rfl rfl hg28 rfl) ?_
  refine dQ 8 [[]] rfl (Q1 rfl Qc5 rfl (fun w1 h1=>c60 w1 _ _)) ?_
  refine dSt 9 ?_ (hl:=(by simp only [Qd,List.length_set,List.length_cons,List.length_nil,List.length_map];omega))
  refine dTu [] ?_
  refine dP 10 ?_
  refine dNi ?_
  exact Qs (rs:=[.cell 2 108,.tmp 3]) rfl (.cell rfl Qcl aPk rfl (.tmp rfl (.nil))) (fun w' h'=>⟨(((Qa x.ro).1.co,(Qa x.ro).1.mo,(Qa x.ro).1.rm),(ra,rc),RL),(by first | (rw [Qeg hE (v:=true) ⟨fun _=>.inl (by grind),fun _=>rfl⟩];rfl) | (rw [Qeg hE (v:=Y7 x x.n) (Qi6 (by grind))];rfl) | (exfalso;grind)),(fun _=>by rw [hRL]),h'.ent aEt⟩)
 intro hg30
 have hs31:=hg30;try simp only [dN] at hs31
 refine dQo 4 89 [[8,6]] hg30 rfl rfl rfl (Qc7 rfl rfl Qcl aPk rfl) ?_
 refine dPo 5 89 hg30 ?_
 refine dQo 6 89 [[8]] hg30 rfl rfl rfl (Q1 rfl Qr6 rfl (fun w1 h1=>c61 w1 x (Qa x.ro).1.co (Qa x.ro).1.mo (Qa x.ro).1.rm ra RL.length rc x.n (by omega) (by omega))) ?_
 refine dV 7 rfl (ZC rfl rfl hg30 rfl) ?_
 refine dQ 8 [[]] rfl (Q1 rfl Qc5 rfl (fun w1 h1=>c60 w1 _ _)) ?_
 refine dSt 9 ?_ (hl:=(by simp only [Qd,List.length_set,List.length_cons,List.length_nil,List.length_map];omega))
 refine dTu [] ?_
 refine dP 10 ?_
 refine dNi ?_
 exact Qs (rs:=[.cell 2 108,.tmp 3]) rfl (.cell rfl Qcl aPk rfl (.tmp rfl (.nil))) (fun w' h'=>⟨(((Qa x.ro).1.co,(Qa x.ro).1.mo,(Qa x.ro).1.rm),(ra,rc),RL),(by first | (rw [Qeg hE (v:=true) ⟨fun _=>.inl (by grind),fun _=>rfl⟩];rfl) | (rw [Qeg hE (v:=Y7 x x.n) (Qi6 (by grind))];rfl) | (exfalso;grind)),(fun _=>by rw [hRL]),h'.ent aEt⟩)
def Qna (x : Ixs) : Bool:=((decide ((x.al.length : Int) ≤ 10241) || (decide ((x.al.length : Int) > 61440) && decide ((x.al.length : Int) < 200000))) && decide ((x.ro.length : Int) ≤ 500)) && decide ((x.bm.length : Int) ≤ 40)
theorem QrO {x : Ixs} (h : Qna x = true) : x.al.length ≤ 200000 ∧ x.ro.length ≤ 500 ∧ x.bm.length ≤ 40:=by
  simp only [Qna,Bool.and_eq_true,Bool.or_eq_true,decide_eq_true_eq] at h;omega
theorem c12 (w : World) (x : Ixs) : Calls Tryz.prog 12 #[.agg #[.string (bs x.ro),.string (bs x.al),.string (bs x.bm)]] w fun en w'=>en = .returned (.bool (Qna x)) ∧ Below w.heap.size w w':=by
 refine eN1 Tryz.func12 Tryz.ntmps12 ?_
 refine aU2 ?_
 refine oBx fun b1 _=>?_
 refine aU6 ?_
 refine o_p (Qj rfl rfl Tryz.underlying9) rfl ?_
 refine aU2 ?_
 refine oOr 11 7 18 rfl
  (fun hg2 _=>by
   refine aU5 ?_
   refine o_p (Qj rfl rfl Tryz.underlying9) rfl ?_
   refine aU4 ?_
   refine YH 5 12 17 rfl
    (fun hg4 _=>by
     refine aU5 ?_
     refine o_p (Qj rfl rfl Tryz.underlying9) rfl ?_
     refine aU3 ?_
     exact oJt 5 17)
    (fun hg6 _=>by
     refine aU5 ?_
     exact oJf 5 17) ?_
   exact oJf 7 18)
  (fun hg8 _=>by
   refine QaP ?_
   exact oJt 11 18) ?_
 refine aU ?_
 refine YH 5 19 24 rfl
  (fun hg10 _=>by
   refine aU5 ?_
   refine o_p (Qj rfl rfl Tryz.underlying9) rfl ?_
   refine aU2 ?_
   exact oJt 5 24)
  (fun hg12 _=>by
   refine aU4 ?_
   exact oJf 5 24) ?_
 refine aU ?_
 refine YH 5 25 30 rfl
  (fun hg14 _=>by
   refine aU5 ?_
   refine o_p (Qj rfl rfl Tryz.underlying9) rfl ?_
   refine aU2 ?_
   exact oJt 5 30)
  (fun hg16 _=>by
   refine aU4 ?_
   exact oJf 5 30) ?_
 refine aU2 ?_
 exact rT rfl rfl (fun w' h'=>⟨by rfl,h'.below⟩)
end Go.Proofs
namespace Gx
open Go Go.RowKit
section
variable {w0 w : World} {M : List Nat} {As As' : List HA} {a : Option Addr} {cap et nt' : Nat} {L : List LNd}
theorem HS.nodes_open (h : HS w0 M As w) (hp : QD As (.nodes et nt' a cap L) As') : HS w0 M (.own (.slice a L.length cap) nt' 3 L.length (L.flatMap LNd.vals) :: .star (L.map (Qki et)) :: As') w:=HS.row_open (h.pick hp)
end
theorem Qei {x : Ixs} {i : Nat} (h : 1 ≤ i ∧ i * 512 ≤ x.al.length) : (x.blk i).length = 512:=QI (by omega)
structure NdS (n : Nd) : Prop where
 es : n.es.length ≤ 255
 cs : n.cs.length ≤ 256
 ent : ∀ x ∈ n.es,x.key.length ≤ 1000000 ∧ x.val.length ≤ 1000000
theorem NdS.no : NdS QtV:=⟨Nat.zero_le _,Nat.zero_le _,fun x hx=>by cases hx⟩
theorem Qlb {x : TEnt} (h : Yt x 0 = true) : x.key.length ≤ 1000000 ∧ x.val.length ≤ 1000000:=by grind [Yt]
theorem NdS.of (b : List UInt8) (num : Int) : NdS (XD b num).n:=by
 by_cases h1 : b.length = 512
 ·by_cases h2 : 1 ≤ num ∧ num ≤ 120
  ·cases h3 : Xr b with
   | true=>rw [Qew h1 h2 h3];exact NdS.no
   | false=>
    cases h4 : rdB (QE b) with
    | none=>rw [Qdh h1 h2 h3 h4];exact NdS.no
    | some q=>
     obtain ⟨m,last⟩:=q;have e:=QbB h1 h2 h3 h4;obtain ⟨_,_,_,q4,q5,q6⟩:=QcO (YU h1) h4;have hcl:=q6.cl;rw [e];split
     ·exact ⟨by show m.es.length ≤ _;omega,by show m.cs.length ≤ _;omega,fun x hx=>Qlb (q6.es x hx)⟩
     ·exact NdS.no
  ·rw [Qhd h1 h2];exact NdS.no
 ·rw [QgM h1];exact NdS.no
end Gx
namespace Go.Proofs
open Go Go.RowKit Gx
attribute [local irreducible] Go.Calls Gx.S Gx.O Gx.D Gx.OpP Gx.OpQ Gx.OpH
set_option maxRecDepth 20000
instance : TFn Tryz.prog 49:=⟨by kernel_rfl⟩
instance : TFn Tryz.prog 69:=⟨by kernel_rfl⟩
instance : TFn Tryz.prog 56:=⟨by kernel_rfl⟩
instance : TFn Tryz.prog 64:=⟨by kernel_rfl⟩
end Go.Proofs
namespace Gx
open Go Go.RowKit
section
variable {w0 w : World} {M : List Nat} {As As' : List HA} {a : Option Addr} {cap et nt' : Nat} {L : List LNd}
end
end Gx
namespace Go.Proofs
open Go Go.RowKit Gx
attribute [local irreducible] Go.Calls Gx.S Gx.O Gx.D Gx.OpP Gx.OpQ Gx.OpH
set_option maxRecDepth 20000
instance : TFn Tryz.prog 12:=⟨by kernel_rfl⟩
end Go.Proofs
namespace Gx
open Go Go.RowKit
def QdX : TEnt:=⟨[],[]⟩
def QgX (co : Int) (n : Nd) (key : List UInt8) : Nat:=(n.cs.getD (plc co n.es key) 0).toNat
def fbI (x : Ixs) (co : Int) (key : List UInt8) : Nat → Nd → List Nat → (TEnt × List Nat) × Int
 | 0,_,_=>((QdX,[]),25)
 | f + 1,n,P=>
  if Qa3 co n.es = true then
   if fnd co n.es key = true then ((nth n.es (plc co n.es key),P),0)
   else if n.cs.length = 0 then ((QdX,[]),6)
   else if Y7 x (QgX co n key) = true then
    if QgX co n key ∈ P then ((QdX,[]),25)
    else if (XD (x.blk (QgX co n key)) (QgX co n key)).e = 0 then fbI x co key f (XD (x.blk (QgX co n key)) (QgX co n key)).n (P ++ [QgX co n key])
    else ((QdX,[]),(XD (x.blk (QgX co n key)) (QgX co n key)).e)
   else ((QdX,[]),6)
  else ((QdX,[]),3)
def fidI (x : Ixs) (key : List UInt8) : (TEnt × List Nat) × Int:=
 if ixE x = 0 then
  if Qz (Qa x.ro).1.co key = true then fbI x (Qa x.ro).1.co key (x.n + 1) (nth (Qa x.ro).1.ns 0) []
  else ((QdX,[]),3)
 else ((QdX,[]),ixE x)
structure NdF (n : Nd) : Prop where
 sm : NdS n
 cl : n.cs.length = 0 ∨ n.cs.length = n.es.length + 1
 cs : ∀ c ∈ n.cs,1 ≤ c ∧ c ≤ 120
theorem NdF.root {s : List UInt8} (h : (Qa s).2 = 0) : NdF (nth (Qa s).1.ns 0) ∧ Qa3 (Qa s).1.co (nth (Qa s).1.ns 0).es = true:=by
 obtain ⟨n,last,hr,_,hk,e,hl,_⟩:=Qds h;obtain ⟨_,_,_,_,_,h6,h7,h8,h9⟩:=QhA (by omega) hr;have hb:=XV s 7;rw [e];refine ⟨⟨⟨by show n.es.length ≤ _;omega,by show n.cs.length ≤ _;omega,fun x hx=>Qlb (h8 x hx)⟩,by show n.cs.length = 0 ∨ n.cs.length = n.es.length + 1;omega,h9⟩,Qdz fun i hi=>?_⟩;have h1:=Qbu.1 hk i hi;unfold Qaz at h1;rw [Bool.and_eq_true] at h1;exact h1.1
section
variable {x : Ixs} {co : Int} {key : List UInt8} {f : Nat} {n : Nd} {P : List Nat}
end
theorem Qhq {x : Ixs} {c : Nat} (h : Y7 x c = true) : 1 ≤ c ∧ c ≤ x.n ∧ c * 512 ≤ x.al.length:=by
 unfold Y7 at h;rw [Bool.and_eq_true] at h;have h1:=of_decide_eq_true h.1;have h2 : x.n = x.al.length / 512:=rfl;omega
theorem QkV {x : Ixs} {c : Nat} (h : Y7 x c = true) : ZH x.bm (c - 1) = true:=by
 unfold Y7 at h;rw [Bool.and_eq_true] at h;exact h.2
theorem Qpq {x : Ixs} {c : Nat} (h1 : 1 ≤ c) (h2 : c ≤ x.n) (h : ZH x.bm (c - 1) = true) : Y7 x c = true:=by
 unfold Y7;rw [h,decide_eq_true ⟨h1,h2⟩];rfl
theorem Qq9 {co : Int} {es : List TEnt} {key : List UInt8} (h : fnd co es key = true) : plc co es key < es.length:=by grind [fnd]
section
variable {w0 w : World} {M : List Nat} {As As' : List HA} {et nt' cap g : Nat} {x : LNd}
theorem QgD (h : HS w0 M As w) (hp : QD As (.nodes et nt' (some ⟨g,0,none⟩) cap [x]) As') : HS w0 M (.blk g nt' (cap * 3) (LNd.vals x) :: .ents et x.ea x.ec x.es :: .kids x.ca x.cc x.cs :: As') w:=by
 have h1:=HS.nodes_open h hp;have h2:=HS.own_at h1 .here;have h3 : HS w0 M (.star [Qki et x] :: .blk g nt' (cap * 3) (LNd.vals x ++ []) :: As') w:=h2.perm (List.Perm.swap ..);rw [List.append_nil] at h3;have h4 : HS w0 M ([.ents et x.ea x.ec x.es,.kids x.ca x.cc x.cs] ++ (.blk g nt' (cap * 3) (LNd.vals x) :: As')) w:=HS.star_open (HS.star_open h3);exact h4.perm (List.perm_middle (l₁:=[_,_]))
end
end Gx
namespace Go.Proofs
open Go Go.RowKit Gx
attribute [local irreducible] Go.Calls Gx.S Gx.O Gx.D Gx.OpP Gx.OpQ Gx.OpH
set_option maxRecDepth 20000
theorem c17c (w : World) (co : Int) (s : List UInt8) (hco : Qw co = 0) (hm : s.length ≤ 1000000) : Calls Tryz.prog 17 #[.int .i64 co,.string (bs s)] w fun en w'=>en = .returned (.int .i64 (X8 co s)) ∧ Below w.heap.size w w':=by
  obtain ⟨j,rfl,hj⟩:=QgH hco;exact c17 w j s hj hm
theorem c65c (w : World) (co : Int) (a b : List UInt8) (hco : Qw co = 0) (hka : Qz co a = true) (hkb : Qz co b = true) (ha : a.length ≤ 1000000) (hb : b.length ≤ 1000000) : Calls Tryz.prog 65 #[.int .i64 co,.string (bs a),.string (bs b)] w fun en w'=>en = .returned (.int .i64 (Xo co a b)) ∧ Below w.heap.size w w':=by
  obtain ⟨j,rfl,hj⟩:=QgH hco;exact c65 w j a b hj hka hkb ha hb
theorem QtI {P Q : List Nat} : iN P = iN Q ↔ P = Q:=by
  constructor
  · intro h;apply List.ext_getElem?;intro j;have h1:=congrArg (fun l : List Int=>(l[j]?).map Int.toNat) h
    simpa [iN,Function.comp_def] using h1
  · exact fun h=>by rw [h]
theorem c15P (w : World) (a b : Option Addr) (c d : Nat) (P Q : List Nat) (hs : Rw inV 1 w [] a (iN P)) (ht : Rw inV 1 w [] b (iN Q)) (hl : P.length ≤ 100000) (hm : Q.length ≤ 100000) : Calls Tryz.prog 15 #[.slice a P.length c,.slice b Q.length d] w fun en w'=>en = .returned (.bool (decide (P = Q))) ∧ Below w.heap.size w w':=by
  have h:=c15 w a b c d (iN P) (iN Q) hs ht (by rw [Qfk];exact hl) (by rw [Qfk];exact hm);rw [Qfk,Qfk,show decide (iN P = iN Q) = decide (P = Q) from decide_eq_decide.2 QtI] at h;exact h
end Go.Proofs
namespace Gx
open Go Go.RowKit
def chB (x : Ixs) (os ts : List Nd) (lsn : Int) (i : Nat) : List UInt8:=
 if i = 0 then QoE
 else if (nth ts i).us = true then
  if os.length ≤ i ∨ ¬ (nth os i).us = true then Qf1 (nth ts i) i lsn 1
  else if nth os i = nth ts i then x.blk i
  else Qf1 (nth ts i) i lsn ((ub2 (x.blk i) 40 % 65535 + 1 : Nat) : Int)
 else QoE
def chX (x : Ixs) (os : List Nd) (t : Tre) (lsn : Int) : Ixs:=ixOf t (chB x os t.ns lsn)
def chD (x y : Ixs) (i : Nat) : Bool:=decide (x.n < i) || (decide (y.n < i) || decide (x.blk i ≠ y.blk i))
def QsQ (x y : Ixs) : Nat → List Nat
 | 0=>[]
 | k + 1=>if chD x y (k + 1) = true then QsQ x y k ++ [k + 1] else QsQ x y k
def chL (x y : Ixs) : List Nat:=QsQ x y (max x.n y.n)
def chE (x : Ixs) (t : Tre) (lsn : Int) : Int:=
 if (rdI x).2 = 0 then
  if Qmj t = 0 then
   if (t.co = (rdI x).1.1.co ∧ t.mo = (rdI x).1.1.mo) ∧ t.rm = (rdI x).1.1.rm then
    if 0 ≤ lsn ∧ lsn ≤ 2147483647 then 0 else 2
   else 13
  else Qmj t
 else (rdI x).2
def oldS (x : Ixs) (i : Nat) : List UInt8:=if i ≤ x.n then x.blk i else []
def nxtS (x : Ixs) (os ts : List Nd) (lsn : Int) (i : Nat) : List UInt8:=if i < ts.length then chB x os ts lsn i else []
section
variable {x : Ixs} {t : Tre} {lsn : Int}
end
end Gx
namespace Go.Proofs
open Go Go.RowKit Gx
attribute [local irreducible] Go.Calls Gx.S Gx.O Gx.D Gx.OpP Gx.OpQ Gx.OpH
set_option maxRecDepth 20000
def cgX (x : Ixs) (t : Tre) (lsn : Int) : Ixs:=if chE x t lsn = 0 then chX x (rdI x).1.1.ns t lsn else ⟨[],[],[]⟩
def cgL (x : Ixs) (t : Tre) (lsn : Int) : List Nat:=if chE x t lsn = 0 then chL x (chX x (rdI x).1.1.ns t lsn) else []
def chD2 (x : Ixs) (t : Tre) : Int:=if (rdI x).2 = 0 then Qmj t else (rdI x).2
def chD3 (x : Ixs) (t : Tre) : Int:=if chD2 x t = 0 then if (t.co = (rdI x).1.1.co ∧ t.mo = (rdI x).1.1.mo) ∧ t.rm = (rdI x).1.1.rm then 0 else 13 else chD2 x t
end Go.Proofs
namespace Gx
def swp (I : List Nat) (i j : Nat) : List Nat:=(I.set i (I.getD j 0)).set j (I.getD i 0)
def QQ (N n : Nat) (I : List Nat) : Prop:=I.length = n ∧ ∀ i ∈ I,i < N
theorem QQ.get {N n : Nat} {I : List Nat} (h : QQ N n I) {k : Nat} (hk : k < n) : I.getD k 0 < N:=by
 have hk' : k < I.length:=by rw [h.1];exact hk
 rw [List.getD_eq_getElem?_getD,List.getElem?_eq_getElem hk'];exact h.2 _ (List.getElem_mem hk')
theorem QQ.set {N n : Nat} {I : List Nat} (h : QQ N n I) (i : Nat) {v : Nat} (hv : I ≠ [] → v < N) : QQ N n (I.set i v):=by
 refine ⟨by rw [List.length_set];exact h.1,fun x hx=>?_⟩;rcases List.mem_or_eq_of_mem_set hx with hx | rfl
 ·exact h.2 x hx
 ·exact hv fun e=>by subst e;cases hx
theorem QQ.getD {N n : Nat} {I : List Nat} (h : QQ N n I) (j : Nat) (hI : I ≠ []) : I.getD j 0 < N:=by
 rcases Nat.lt_or_ge j I.length with hj | hj
 ·exact h.get (by rw [← h.1];exact hj)
 ·rw [List.getD_eq_getElem?_getD,List.getElem?_eq_none hj];cases I with
  | nil=>exact absurd rfl hI
  | cons a I=>exact Nat.lt_of_le_of_lt (Nat.zero_le _) (h.2 a (List.mem_cons_self ..))
theorem QQ.swp {N n : Nat} {I : List Nat} (h : QQ N n I) (i j : Nat) : QQ N n (swp I i j):=
 (h.set i (h.getD j)).set j fun _=>h.getD i (by rintro rfl;contradiction)
section
variable (c : Nat → Nat → Int)
def bub (a : Nat) : Nat → List Nat → List Nat
 | 0,I=>I
 | j + 1,I=>if a < j + 1 ∧ c (I.getD (j + 1) 0) (I.getD j 0) < 0 then bub a j (swp I (j + 1) j) else I
def insS (a : Nat) : Nat → Nat → List Nat → List Nat
 | 0,_,I=>I
 | k + 1,i,I=>insS a k (i + 1) (bub c a i I)
def ins (a e : Nat) (I : List Nat) : List Nat:=insS c a (e - (a + 1)) (a + 1) I
def Yv (p : Nat → Bool) : Nat → Nat → Nat → Nat
 | 0,i,_=>i
 | f + 1,i,j=>if i < j then (if p ((i + j) / 2) = true then Yv p f ((i + j) / 2 + 1) j else Yv p f i ((i + j) / 2)) else i
def mvR : Nat → Nat → List Nat → List Nat
 | 0,_,I=>I
 | f + 1,k,I=>mvR f (k + 1) (swp I k (k + 1))
def mvL : Nat → Nat → List Nat → List Nat
 | 0,_,I=>I
 | f + 1,k,I=>mvL f (k - 1) (swp I k (k - 1))
def swr : Nat → Nat → Nat → List Nat → List Nat
 | 0,_,_,I=>I
 | n + 1,a,b,I=>swr n (a + 1) (b + 1) (swp I a b)
def rotS : Nat → Nat → Nat → Nat → List Nat → List Nat
 | 0,_,_,_,I=>I
 | f + 1,i,j,m,I=>if i = j then swr i (m - i) m I else if j < i then rotS f (i - j) j m (swr j (m - i) m I) else rotS f i (j - i) m (swr i (m - i) (m + j - i) I)
def rot (a m b : Nat) (I : List Nat) : List Nat:=rotS ((m - a) + (b - m)) (m - a) (b - m) m I
def p1 (I : List Nat) (a h : Nat) : Bool:=decide (c (I.getD h 0) (I.getD a 0) < 0)
def p2 (I : List Nat) (m h : Nat) : Bool:=!decide (c (I.getD m 0) (I.getD h 0) < 0)
def p3 (I : List Nat) (q h : Nat) : Bool:=!decide (c (I.getD (q - h) 0) (I.getD h 0) < 0)
def ZQ (I : List Nat) (a m b : Nat) : Nat:=
 Yv (p3 c I ((a + b) / 2 + m - 1)) (b - a) (if (a + b) / 2 < m then (a + b) / 2 + m - b else a) (if (a + b) / 2 < m then (a + b) / 2 else m)
def symR (g : Nat → Nat → Nat → List Nat → List Nat) (a b mid s e : Nat) (I : List Nat) : List Nat:=
 if mid < e ∧ e < b then g mid e b (if a < s ∧ s < mid then g a s mid I else I) else if a < s ∧ s < mid then g a s mid I else I
def symM : Nat → Nat → Nat → Nat → List Nat → List Nat
 | 0,_,_,_,I=>I
 | f + 1,a,m,b,I=>
  if m - a = 1 then mvR (Yv (p1 c I a) (b - m) m b - 1 - a) a I
  else if b - m = 1 then mvL (m - Yv (p2 c I m) (m - a) a m) m I
  else symR (symM f) a b ((a + b) / 2) (ZQ c I a m b) ((a + b) / 2 + m - ZQ c I a m b) (if ZQ c I a m b < m ∧ m < (a + b) / 2 + m - ZQ c I a m b then rot (ZQ c I a m b) m ((a + b) / 2 + m - ZQ c I a m b) I else I)
def stI (n : Nat) : Nat → Nat → List Nat → List Nat
 | 0,a,I=>ins c a n I
 | f + 1,a,I=>if a + 20 ≤ n then stI n f (a + 20) (ins c a (a + 20) I) else ins c a n I
def stP (n bs : Nat) : Nat → Nat → List Nat → List Nat
 | 0,_,I=>I
 | f + 1,a,I=>if a + 2 * bs ≤ n then stP n bs f (a + 2 * bs) (symM c n a (a + bs) (a + 2 * bs) I) else if a + bs < n then symM c n a (a + bs) n I else I
def QhM (n : Nat) : Nat → Nat → List Nat → List Nat
 | 0,_,I=>I
 | f + 1,bs,I=>if bs < n then QhM n f (2 * bs) (stP c n bs n 0 I) else I
def stab (n : Nat) (I : List Nat) : List Nat:=QhM c n n 20 (stI c n n 0 I)
theorem QiZ (a : Nat) (I : List Nat) : bub c a a I = I:=by
 cases a with
 | zero=>rfl
 | succ a=>rw [bub,if_neg (by omega)]
theorem Qq2 {a j : Nat} {K : List Nat} (haj : a ≤ j) (h : ¬ (a < j ∧ c (K.getD j 0) (K.getD (j - 1) 0) < 0)) : bub c a j K = K:=by
 rcases Nat.lt_or_ge a j with h9 | h9
 ·obtain ⟨j9,rfl⟩ : ∃ j9,j = j9 + 1:=⟨j - 1,by omega⟩;rw [Nat.add_sub_cancel] at h;rw [bub,if_neg h]
 ·obtain rfl : j = a:=by omega
  exact QiZ ..
theorem Qts {a j : Nat} {K : List Nat} (h : a < j ∧ c (K.getD j 0) (K.getD (j - 1) 0) < 0) : bub c a j K = bub c a (j - 1) (swp K j (j - 1)):=by
 obtain ⟨j9,rfl⟩ : ∃ j9,j = j9 + 1:=⟨j - 1,by omega⟩;rw [Nat.add_sub_cancel] at h ⊢;rw [bub,if_pos h]
theorem QmQ {I : List Nat} {x m y mid s0 r0 : Nat} (hm : (x + y) / 2 = mid) (hs : s0 = if mid < m then mid + m - y else x) (hr : r0 = if mid < m then mid else m) : ZQ c I x m y = Yv (p3 c I (mid + m - 1)) (y - x) s0 r0:=by
 unfold ZQ;rw [hm,← hs,← hr]
end
section
variable {c : Nat → Nat → Int} {N n : Nat}
theorem QQ.bub (a : Nat) : ∀ (j : Nat) {I : List Nat},QQ N n I → QQ N n (bub c a j I)
 | 0,_,h=>h
 | j + 1,_,h=>by
  unfold Gx.bub;split
  ·exact QQ.bub a j (h.swp _ _)
  ·exact h
theorem QQ.insS (a : Nat) : ∀ (k i : Nat) {I : List Nat},QQ N n I → QQ N n (insS c a k i I)
 | 0,_,_,h=>h
 | k + 1,i,_,h=>QQ.insS a k (i + 1) (h.bub a i)
theorem QQ.ins {a e : Nat} {I : List Nat} (h : QQ N n I) : QQ N n (ins c a e I):=h.insS a _ _
theorem QQ.mvR : ∀ (f k : Nat) {I : List Nat},QQ N n I → QQ N n (mvR f k I)
 | 0,_,_,h=>h
 | f + 1,k,_,h=>QQ.mvR f (k + 1) (h.swp _ _)
theorem QQ.mvL : ∀ (f k : Nat) {I : List Nat},QQ N n I → QQ N n (mvL f k I)
 | 0,_,_,h=>h
 | f + 1,k,_,h=>QQ.mvL f (k - 1) (h.swp _ _)
theorem QQ.swr : ∀ (f a b : Nat) {I : List Nat},QQ N n I → QQ N n (swr f a b I)
 | 0,_,_,_,h=>h
 | f + 1,a,b,_,h=>QQ.swr f (a + 1) (b + 1) (h.swp _ _)
theorem QQ.rotS : ∀ (f i j m : Nat) {I : List Nat},QQ N n I → QQ N n (rotS f i j m I)
 | 0,_,_,_,_,h=>h
 | f + 1,i,j,m,_,h=>by
  unfold Gx.rotS;split
  ·exact h.swr _ _ _
  ·split
   ·exact QQ.rotS f _ _ _ (h.swr _ _ _)
   ·exact QQ.rotS f _ _ _ (h.swr _ _ _)
theorem QQ.rot {a m b : Nat} {I : List Nat} (h : QQ N n I) : QQ N n (rot a m b I):=h.rotS _ _ _ _
theorem QQ.symM : ∀ (f a m b : Nat) {I : List Nat},QQ N n I → QQ N n (symM c f a m b I)
 | 0,_,_,_,_,h=>h
 | f + 1,a,m,b,_,h=>by
  unfold Gx.symM;split
  ·exact h.mvR _ _
  ·split
   ·exact h.mvL _ _
   ·have h1 : ∀ {J : List Nat} (s e mid : Nat),QQ N n J → QQ N n (Gx.symR (Gx.symM c f) a b mid s e J):=fun s e mid hJ=>by
     unfold Gx.symR;split
     ·refine QQ.symM f _ _ _ ?_;split
      ·exact QQ.symM f _ _ _ hJ
      ·exact hJ
     ·split
      ·exact QQ.symM f _ _ _ hJ
      ·exact hJ
    refine h1 _ _ _ ?_;split
    ·exact h.rot
    ·exact h
theorem QQ.stI : ∀ (f a : Nat) {q : Nat} {I : List Nat},QQ N n I → QQ N n (stI c q f a I)
 | 0,_,_,_,h=>h.ins
 | f + 1,a,_,_,h=>by
  unfold Gx.stI;split
  ·exact QQ.stI f _ h.ins
  ·exact h.ins
end
theorem QcV {p : Nat → Bool} : ∀ {f i j : Nat},j - i ≤ f → i ≤ j → i ≤ Yv p f i j ∧ Yv p f i j ≤ j ∧ (Yv p f i j = i ∨ p (Yv p f i j - 1) = true) ∧ (Yv p f i j = j ∨ p (Yv p f i j) = false)
 | 0,i,j,hf,hij=>by
  obtain rfl : i = j:=by omega
  exact ⟨Nat.le_refl _,Nat.le_refl _,.inl rfl,.inl rfl⟩
 | f + 1,i,j,hf,hij=>by
  unfold Yv;split
  ·rename_i h;split
   ·rename_i hp;obtain ⟨h1,h2,h3,h4⟩:=QcV (p:=p) (f:=f) (i:=(i + j) / 2 + 1) (j:=j) (by omega) (by omega);refine ⟨by omega,h2,?_,h4⟩;rcases h3 with h3 | h3
    ·right;rw [h3,Nat.add_sub_cancel];exact hp
    ·exact .inr h3
   ·rename_i hp;obtain ⟨h1,h2,h3,h4⟩:=QcV (p:=p) (f:=f) (i:=i) (j:=(i + j) / 2) (by omega) (by omega);refine ⟨h1,by omega,h3,?_⟩;rcases h4 with h4 | h4
    ·right;rw [h4];simpa using hp
    ·exact .inr h4
  ·obtain rfl : i = j:=by omega
   exact ⟨Nat.le_refl _,Nat.le_refl _,.inl rfl,.inl rfl⟩
theorem QdD {p : Nat → Bool} {f i j : Nat} (h : i < j) (hf : j - i ≤ f) : ∃ g,f = g + 1 ∧ Yv p f i j = if p ((i + j) / 2) = true then Yv p g ((i + j) / 2 + 1) j else Yv p g i ((i + j) / 2):=by
 obtain ⟨g,rfl⟩ : ∃ g,f = g + 1:=⟨f - 1,by omega⟩;exact ⟨g,rfl,by rw [Yv,if_pos h]⟩
theorem Qfx {p : Nat → Bool} {f i j : Nat} (h : ¬ i < j) : Yv p f i j = i:=by
 cases f with
 | zero=>rfl
 | succ f=>rw [Yv,if_neg h]
theorem Qgq (A B : List Nat) (x : Nat) : (A ++ x :: B).getD A.length 0 = x:=by simp [List.getD_eq_getElem?_getD]
theorem Qex {A B : List Nat} {x k : Nat} (h : k = A.length) : (A ++ x :: B).getD k 0 = x:=by subst h;exact Qgq A B x
theorem Qjr (A B : List Nat) (x y : Nat) : (A ++ x :: B).set A.length y = A ++ y :: B:=by simp
theorem QnD {I : List Nat} {i j : Nat} (h : i ≠ j) : swp I i j = swp I j i:=by unfold swp;rw [List.set_comm _ _ h]
theorem QlE (A M B : List Nat) (x y : Nat) : swp (A ++ x :: (M ++ y :: B)) A.length (A.length + 1 + M.length) = A ++ y :: (M ++ x :: B):=by
 unfold swp;have e : A ++ x :: (M ++ y :: B) = (A ++ x :: M) ++ y :: B:=by simp
 have h1 : (A ++ x :: (M ++ y :: B)).getD (A.length + 1 + M.length) 0 = y:=by rw [e];exact Qex (by simp;omega)
 rw [h1,Qgq,Qjr];have e2 : A ++ y :: (M ++ y :: B) = (A ++ y :: M) ++ y :: B:=by simp
 have hl : A.length + 1 + M.length = (A ++ y :: M).length:=by simp;omega
 rw [e2,hl,Qjr];simp
theorem Qku (A B : List Nat) (x y : Nat) : swp (A ++ x :: y :: B) A.length (A.length + 1) = A ++ y :: x :: B:=QlE A [] B x y
theorem Qin (A B : List Nat) (x y : Nat) : swp (A ++ x :: y :: B) (A.length + 1) A.length = A ++ y :: x :: B:=by rw [QnD (by omega)];exact Qku A B x y
theorem Qkz (x : Nat) (S : List Nat) : ∀ (R A : List Nat),mvR R.length A.length (A ++ x :: (R ++ S)) = A ++ (R ++ x :: S)
 | [],A=>rfl
 | y :: R,A=>by
  rw [List.length_cons,mvR,List.cons_append,Qku];have h:=Qkz x S R (A ++ [y]);rw [List.length_append,List.length_singleton] at h
  simpa using h
theorem Qlw (y : Nat) (S : List Nat) : ∀ (k : Nat) (A L : List Nat),L.length = k → mvL k (A.length + k) (A ++ (L ++ y :: S)) = A ++ y :: (L ++ S)
 | 0,A,L,h=>by
  obtain rfl:=List.eq_nil_of_length_eq_zero h;rfl
 | k + 1,A,L,h=>by
  obtain ⟨L',z,rfl⟩ : ∃ L' z,L = L' ++ [z]:=by
   rcases List.eq_nil_or_concat L with rfl | ⟨L',z,rfl⟩
   ·cases h
   ·exact ⟨L',z,by simp⟩
  have hl : L'.length = k:=by simpa using h
  rw [mvL];have e : A ++ (L' ++ [z] ++ y :: S) = (A ++ L') ++ z :: y :: S:=by simp
  have h2 : A.length + (k + 1) = (A ++ L').length + 1:=by simp;omega
  rw [e,h2,Nat.add_sub_cancel,Qin];have h3:=Qlw y (z :: S) k A L' hl;rw [show (A ++ L').length = A.length + k by simp [hl],show A ++ L' ++ y :: z :: S = A ++ (L' ++ y :: z :: S) by simp,h3];simp
theorem Qez (B : List Nat) : ∀ (X Z A Y : List Nat),X.length = Z.length → swr X.length A.length (A.length + X.length + Y.length) (A ++ (X ++ (Y ++ (Z ++ B)))) = A ++ (Z ++ (Y ++ (X ++ B)))
 | [],Z,A,Y,h=>by
  obtain rfl:=List.eq_nil_of_length_eq_zero h.symm;rfl
 | x :: X,[],A,Y,h=>by cases h
 | x :: X,z :: Z,A,Y,h=>by
  have hl : X.length = Z.length:=by simpa using h
  rw [List.length_cons,swr];have e : A ++ (x :: X ++ (Y ++ (z :: Z ++ B))) = A ++ x :: ((X ++ Y) ++ z :: (Z ++ B)):=by simp
  rw [e,show A.length + (X.length + 1) + Y.length = A.length + 1 + (X ++ Y).length by simp;omega,QlE];have h3:=Qez B X Z (A ++ [z]) (Y ++ [x]) hl;rw [show (A ++ [z]).length = A.length + 1 by simp,show A.length + 1 + X.length + (Y ++ [x]).length = A.length + 1 + (X ++ Y).length + 1 by simp;omega,show A ++ [z] ++ (X ++ (Y ++ [x] ++ (Z ++ B))) = A ++ z :: (X ++ Y ++ x :: (Z ++ B)) by simp] at h3;rw [h3];simp
theorem QfD : ∀ (f : Nat) (A L R B : List Nat) (m : Nat),L.length + R.length ≤ f → 0 < L.length → 0 < R.length → m = A.length + L.length → rotS f L.length R.length m (A ++ (L ++ (R ++ B))) = A ++ (R ++ (L ++ B))
 | 0,_,_,_,_,_,h,h1,h2,_=>by omega
 | f + 1,A,L,R,B,m,hf,h1,h2,hm=>by
  unfold rotS;split
  ·rename_i he;have h3:=Qez B L R A [] he;subst hm;rw [Nat.add_sub_cancel]
   simpa using h3
  ·rename_i he;split
   ·rename_i hlt;obtain ⟨L1,L2,rfl,hl1⟩ : ∃ L1 L2,L = L1 ++ L2 ∧ L1.length = R.length:=⟨L.take R.length,L.drop R.length,(List.take_append_drop _ _).symm,by rw [List.length_take];omega⟩;have hl : (L1 ++ L2).length = L1.length + L2.length:=List.length_append;have h3:=Qez B L1 R A L2 hl1;rw [hl] at hf hlt he hm h1 ⊢;rw [show m - (L1.length + L2.length) = A.length by omega,show m = A.length + L1.length + L2.length by omega,← hl1,List.append_assoc,h3];have h4:=QfD f (A ++ R) L2 L1 B m (by omega) (by omega) (by omega) (by rw [List.length_append];omega);rw [show L1.length + L2.length - L1.length = L2.length by omega,show A.length + L1.length + L2.length = m by omega];rw [show A ++ (R ++ (L2 ++ (L1 ++ B))) = A ++ R ++ (L2 ++ (L1 ++ B)) by simp,h4];simp
   ·rename_i hge;obtain ⟨R1,R2,rfl,hl1⟩ : ∃ R1 R2,R = R1 ++ R2 ∧ R2.length = L.length:=⟨R.take (R.length - L.length),R.drop (R.length - L.length),(List.take_append_drop _ _).symm,by rw [List.length_drop];omega⟩;have hl : (R1 ++ R2).length = R1.length + R2.length:=List.length_append;have h3:=Qez B L R2 A R1 hl1.symm;rw [hl] at hf hge he h2 ⊢;rw [show m - L.length = A.length by omega,show m + (R1.length + R2.length) - L.length = A.length + L.length + R1.length by omega,List.append_assoc,h3];have h4:=QfD f A R2 R1 (L ++ B) m (by omega) (by omega) (by omega) (by omega);rw [show R1.length + R2.length - L.length = R1.length by omega,← hl1,h4];simp
theorem QrB (A L R B : List Nat) (h1 : 0 < L.length) (h2 : 0 < R.length) : rot A.length (A.length + L.length) (A.length + L.length + R.length) (A ++ (L ++ (R ++ B))) = A ++ (R ++ (L ++ B)):=by
 unfold rot;rw [show A.length + L.length - A.length = L.length by omega,show A.length + L.length + R.length - (A.length + L.length) = R.length by omega];exact QfD _ A L R B _ (Nat.le_refl _) h1 h2 rfl
end Gx
namespace Gx
def ltc (c : Nat → Nat → Int) (i j : Nat) : Prop:=c i j < 0 ∨ (c i j = 0 ∧ i < j)
structure OrdC (c : Nat → Nat → Int) (N : Nat) : Prop where
 tr : ∀ i j k,i < N → j < N → k < N → ltc c i j → ltc c j k → ltc c i k
 tot : ∀ i j,i < N → j < N → i ≠ j → ltc c i j ∨ ltc c j i
section
variable {c : Nat → Nat → Int} {N : Nat}
theorem OrdC.not (h : OrdC c N) {l r : Nat} (hr : r < N) (hlr : l < r) (hn : ¬ c r l < 0) : ltc c l r:=by
 rcases h.tot l r (by omega) hr (by omega) with h1 | h1
 ·exact h1
 ·rcases h1 with h1 | h1
  ·exact absurd h1 hn
  ·omega
abbrev Y9 (c : Nat → Nat → Int) (L : List Nat) : Prop:=L.Pairwise (ltc c)
theorem Qkx (hO : OrdC c N) {x : Nat} (hx : x < N) (S A : List Nat) : ∀ (k : Nat) (P1 P2 : List Nat),P1.length = k → Y9 c (P1 ++ P2) → (∀ p ∈ P2,ltc c x p) → (∀ p ∈ P1,p < x) →
  ∃ X,bub c A.length (A.length + k) (A ++ (P1 ++ x :: (P2 ++ S))) = A ++ (X ++ S) ∧ X.Perm (P1 ++ x :: P2) ∧ Y9 c X
 | 0,P1,P2,hk,hs,h2,h1=>by
  obtain rfl:=List.eq_nil_of_length_eq_zero hk;refine ⟨x :: P2,by rw [Nat.add_zero,QiZ];simp,.refl _,List.pairwise_cons.2 ⟨h2,hs⟩⟩
 | k + 1,P1,P2,hk,hs,h2,h1=>by
  obtain ⟨P,z,rfl⟩ : ∃ P z,P1 = P ++ [z]:=by
   rcases List.eq_nil_or_concat P1 with rfl | ⟨P,z,rfl⟩
   ·cases hk
   ·exact ⟨P,z,by simp⟩
  have hl : P.length = k:=by simpa using hk
  have hz : z < x:=h1 z (by simp);have hsp:=List.pairwise_append.1 hs;have e : A ++ (P ++ [z] ++ x :: (P2 ++ S)) = (A ++ P) ++ z :: x :: (P2 ++ S):=by simp
  have hlen : (A ++ P).length = A.length + k:=by simp [hl]
  have g1 : (A ++ (P ++ [z] ++ x :: (P2 ++ S))).getD (A.length + k) 0 = z:=by rw [e];exact Qex hlen.symm
  have g2 : (A ++ (P ++ [z] ++ x :: (P2 ++ S))).getD (A.length + k + 1) 0 = x:=by
   rw [show A ++ (P ++ [z] ++ x :: (P2 ++ S)) = (A ++ P ++ [z]) ++ x :: (P2 ++ S) by simp];exact Qex (by simp [hl];omega)
  rw [show A.length + (k + 1) = A.length + k + 1 by omega,bub,g1,g2]
  by_cases hc : c x z < 0
  ·rw [if_pos ⟨by omega,hc⟩,e,← hlen,Qin,hlen]
   obtain ⟨X,e1,e2,e3⟩:=Qkx hO hx S A k P (z :: P2) hl (by simpa using hs) (fun p hp=>by
    rcases List.mem_cons.1 hp with rfl | hp
    ·exact .inl hc
    ·exact h2 p hp) (fun p hp=>h1 p (by simp [hp]))
   refine ⟨X,?_,e2.trans ?_,e3⟩
   ·rw [← e1];simp
   ·rw [List.append_assoc];exact List.Perm.append_left P (List.Perm.swap ..)
  ·rw [if_neg fun h=>hc h.2];have hzx : ltc c z x:=hO.not hx hz hc;refine ⟨P ++ [z] ++ x :: P2,by simp,.refl _,List.pairwise_append.2 ⟨hsp.1,List.pairwise_cons.2 ⟨h2,hsp.2.1⟩,fun p hp q hq=>?_⟩⟩
   have hpx : ltc c p x:=by
    rcases List.mem_append.1 hp with hp' | hp'
    ·have h3:=(List.pairwise_append.1 hsp.1).2.2 p hp' z (List.mem_singleton.2 rfl);have:=h1 p (List.mem_append_left _ hp');exact hO.tr p z x (by omega) (by omega) hx h3 hzx
    ·obtain rfl:=List.mem_singleton.1 hp';exact hzx
   rcases List.mem_cons.1 hq with rfl | hq
   ·exact hpx
   ·exact hsp.2.2 p hp q hq
theorem Qh4 (hO : OrdC c N) (S A : List Nat) : ∀ (Q P : List Nat),Y9 c P → (∀ p ∈ P,∀ q ∈ Q,p < q) → Q.Pairwise (· < ·) → (∀ q ∈ Q,q < N) →
  ∃ X,insS c A.length Q.length (A.length + P.length) (A ++ (P ++ (Q ++ S))) = A ++ (X ++ S) ∧ X.Perm (P ++ Q) ∧ Y9 c X
 | [],P,hs,_,_,_=>⟨P,rfl,by simp,hs⟩
 | x :: Q,P,hs,hpq,hq,hN=>by
  rw [List.length_cons,insS];obtain ⟨X,e1,e2,e3⟩:=Qkx hO (hN x (List.mem_cons_self ..)) (Q ++ S) A P.length P [] rfl (by simpa using hs) (fun p hp=>by cases hp) (fun p hp=>hpq p hp x (List.mem_cons_self ..));have hq':=List.pairwise_cons.1 hq;rw [List.nil_append] at e1;rw [List.cons_append,e1];have hl : X.length = P.length + 1:=by rw [e2.length_eq];simp
  obtain ⟨Y,f1,f2,f3⟩:=Qh4 hO S A Q X e3 (fun p hp q hqq=>by
   have hp':=e2.subset hp;rcases List.mem_append.1 hp' with h | h
   ·exact hpq p h q (List.mem_cons_of_mem _ hqq)
   ·obtain rfl:=List.mem_singleton.1 h;exact hq'.1 q hqq) hq'.2 (fun q h=>hN q (List.mem_cons_of_mem _ h))
  rw [hl,show A.length + (P.length + 1) = A.length + P.length + 1 by omega] at f1;refine ⟨Y,f1,f2.trans ?_,f3⟩;have:=List.Perm.append_right Q e2
  simpa using this
theorem Qq0 (hO : OrdC c N) (S A L : List Nat) (hq : L.Pairwise (· < ·)) (hN : ∀ q ∈ L,q < N) : ∃ X,ins c A.length (A.length + L.length) (A ++ (L ++ S)) = A ++ (X ++ S) ∧ X.Perm L ∧ Y9 c X:=by
 unfold ins;cases L with
 | nil=>exact ⟨[],by simp [insS],.refl _,.nil⟩
 | cons x L=>
  have h:=List.pairwise_cons.1 hq;obtain ⟨X,e1,e2,e3⟩:=Qh4 hO S A L [x] (List.pairwise_singleton ..) (fun p hp9 q hq9=>by rw [List.mem_singleton.1 hp9];exact h.1 q hq9) h.2 (fun q hq=>hN q (List.mem_cons_of_mem _ hq));refine ⟨X,?_,e2,e3⟩;rw [show A.length + (x :: L).length - (A.length + 1) = L.length by simp;omega];exact e1
theorem QcD (A B : List Nat) (k : Nat) : (A ++ B).getD (A.length + k) 0 = B.getD k 0:=by
 simp [List.getD_eq_getElem?_getD,List.getElem?_append_right]
theorem Yp {L : List Nat} {k : Nat} (h : k < L.length) : L.getD k 0 ∈ L:=by
 rw [List.getD_eq_getElem?_getD,List.getElem?_eq_getElem h];exact List.getElem_mem h
theorem Qav {A B : List Nat} {k : Nat} (h : k < A.length) : (A ++ B).getD k 0 = A.getD k 0:=by
 simp [List.getD_eq_getElem?_getD,List.getElem?_append_left h]
theorem QeD {P : List Nat} {x : Nat} (hO : OrdC c N) (hs : Y9 c P) (hN : ∀ p ∈ P,p < N) (hx : x < N) (h : P = [] ∨ ltc c (P.getD (P.length - 1) 0) x) : ∀ p ∈ P,ltc c p x:=by
 rcases List.eq_nil_or_concat P with rfl | ⟨Q,z,rfl⟩
 ·intro p hp;cases hp
 ·rcases h with h | h
  ·simp at h
  ·have e : (Q.concat z).getD ((Q.concat z).length - 1) 0 = z:=by simp [List.getD_eq_getElem?_getD]
   rw [e] at h;rw [List.concat_eq_append] at hs hN ⊢;have h1:=(List.pairwise_append.1 hs).2.2;intro p hp;rcases List.mem_append.1 hp with hp' | hp'
   ·exact hO.tr p z x (hN p hp) (hN z (by simp)) hx (h1 p hp' z (by simp)) h
   ·obtain rfl:=List.mem_singleton.1 hp';exact h
theorem Qdp {R : List Nat} {x : Nat} (hO : OrdC c N) (hs : Y9 c R) (hN : ∀ p ∈ R,p < N) (hx : x < N) (h : R = [] ∨ ltc c x (R.getD 0 0)) : ∀ p ∈ R,ltc c x p:=by
 cases R with
 | nil=>intro p hp;cases hp
 | cons z R=>
  rcases h with h | h
  ·cases h
  ·have h2 : ltc c x z:=by simpa using h
   intro p hp;rcases List.mem_cons.1 hp with rfl | hp'
   ·exact h2
   ·exact hO.tr x z p hx (hN z (by simp)) (hN p hp) h2 ((List.pairwise_cons.1 hs).1 p hp')
theorem Qf9 {P R : List Nat} (hO : OrdC c N) (hsP : Y9 c P) (hsR : Y9 c R) (hP : ∀ p ∈ P,p < N) (hR : ∀ p ∈ R,p < N) (h : P = [] ∨ R = [] ∨ ltc c (P.getD (P.length - 1) 0) (R.getD 0 0)) : ∀ p ∈ P,∀ r ∈ R,ltc c p r:=by
 rcases h with rfl | rfl | h
 ·intro p hp;cases hp
 ·intro p _ r hr;cases hr
 ·intro p hp r hr;have hP0 : 0 < P.length:=List.length_pos_of_mem hp;have hl:=hP _ (Yp (L:=P) (k:=P.length - 1) (by omega));exact QeD hO hsP hP (hR r hr) (.inr (Qdp hO hsR hR hl (.inr h) r hr)) p hp
theorem Yw {L : List Nat} (h : Y9 c L) (k : Nat) : Y9 c (L.take k):=h.sublist (List.take_sublist ..)
theorem Yu {L : List Nat} (h : Y9 c L) (k : Nat) : Y9 c (L.drop k):=h.sublist (List.drop_sublist ..)
theorem QbV (L : List Nat) (k i : Nat) : (L.drop k).getD i 0 = L.getD (k + i) 0:=by simp [List.getD_eq_getElem?_getD,List.getElem?_drop]
theorem Qby {L : List Nat} {k i : Nat} (h : i < k) : (L.take k).getD i 0 = L.getD i 0:=by simp [List.getD_eq_getElem?_getD,List.getElem?_take,h]
theorem Qfs (hO : OrdC c N) : ∀ (f : Nat) (A L R B : List Nat),L.length + R.length ≤ f → 0 < L.length → 0 < R.length → Y9 c L → Y9 c R → (∀ l ∈ L,∀ r ∈ R,l < r) → (∀ r ∈ R,r < N) →
  ∃ X,symM c f A.length (A.length + L.length) (A.length + L.length + R.length) (A ++ (L ++ (R ++ B))) = A ++ (X ++ B) ∧ X.Perm (L ++ R) ∧ Y9 c X
 | 0,_,_,_,_,hf,h1,_,_,_,_,_=>by omega
 | f + 1,A,L,R,B,hf,h1,h2,hL,hR,hlr,hN=>by
  have hNL : ∀ l ∈ L,l < N:=fun l hl=>by
   have:=hlr l hl _ (Yp h2);have:=hN _ (Yp h2);omega
  unfold symM
  by_cases c1 : A.length + L.length - A.length = 1
  ·rw [if_pos c1]
   obtain ⟨x,rfl⟩ : ∃ x,L = [x]:=by
    rcases L with _ | ⟨x,_ | ⟨y,L⟩⟩
    ·cases h1
    ·exact ⟨x,rfl⟩
    ·simp at c1
   have hx:=hNL x (by simp);have ha : (A ++ ([x] ++ (R ++ B))).getD A.length 0 = x:=by simp [List.getD_eq_getElem?_getD]
   have hp : ∀ k,p1 c (A ++ ([x] ++ (R ++ B))) A.length (A.length + 1 + k) = decide (c ((R ++ B).getD k 0) x < 0):=fun k=>by
    unfold p1;rw [ha,show A.length + 1 + k = (A ++ [x]).length + k by simp,show A ++ ([x] ++ (R ++ B)) = (A ++ [x]) ++ (R ++ B) by simp,QcD]
   obtain ⟨s1,s2,s3,s4⟩:=QcV (p:=p1 c (A ++ ([x] ++ (R ++ B))) A.length) (f:=A.length + [x].length + R.length - (A.length + [x].length)) (i:=A.length + [x].length) (j:=A.length + [x].length + R.length) (by omega) (by omega);generalize Yv (p1 c (A ++ ([x] ++ (R ++ B))) A.length) (A.length + [x].length + R.length - (A.length + [x].length)) (A.length + [x].length) (A.length + [x].length + R.length) = i at *;rw [List.length_singleton] at *;obtain ⟨k,rfl⟩ : ∃ k,i = A.length + 1 + k:=⟨i - (A.length + 1),by omega⟩;have hk : k ≤ R.length:=by omega
   have q1 : ∀ p ∈ R.take k,ltc c p x:=QeD hO (Yw hR k) (fun p hp=>hN p (List.mem_of_mem_take hp)) hx (by
    rcases s3 with s3 | s3
    ·left;rw [show k = 0 by omega];rfl
    ·rcases Nat.eq_zero_or_pos k with h0 | h0
     ·left;rw [h0];rfl
     ·right;rw [show A.length + 1 + k - 1 = A.length + 1 + (k - 1) by omega,hp,Qav (by omega)] at s3;rw [List.length_take,show min k R.length - 1 = k - 1 by omega,Qby (by omega)];exact .inl (by simpa using s3))
   have q2 : ∀ p ∈ R.drop k,ltc c x p:=Qdp hO (Yu hR k) (fun p hp=>hN p (List.mem_of_mem_drop hp)) hx (by
    rcases s4 with s4 | s4
    ·left;exact List.drop_eq_nil_of_le (by omega)
    ·rcases Nat.lt_or_ge k R.length with h0 | h0
     ·right;rw [hp,Qav h0] at s4;rw [QbV];exact hO.not (hN _ (Yp h0)) (hlr x (by simp) _ (Yp h0)) (by simpa using s4)
     ·left;exact List.drop_eq_nil_of_le h0)
   refine ⟨R.take k ++ x :: R.drop k,?_,?_,List.pairwise_append.2 ⟨Yw hR k,List.pairwise_cons.2 ⟨q2,Yu hR k⟩,fun p hp9 q hq9=>?_⟩⟩
   ·have h:=Qkz x (R.drop k ++ B) (R.take k) A;rw [List.length_take,Nat.min_eq_left hk] at h;rw [show A.length + 1 + k - 1 - A.length = k by omega,show A ++ ([x] ++ (R ++ B)) = A ++ x :: (R.take k ++ (R.drop k ++ B)) by rw [← List.append_assoc (R.take k),List.take_append_drop];rfl,h];simp
   ·refine List.perm_middle.trans ?_;rw [List.take_append_drop];exact .refl _
   ·rcases List.mem_cons.1 hq9 with e9 | hq8
    ·rw [e9];exact q1 p hp9
    ·have h:=hR;rw [← List.take_append_drop k R] at h;exact (List.pairwise_append.1 h).2.2 p hp9 q hq8
  ·rw [if_neg c1]
   by_cases c2 : A.length + L.length + R.length - (A.length + L.length) = 1
   ·rw [if_pos c2]
    obtain ⟨y,rfl⟩ : ∃ y,R = [y]:=by
     rcases R with _ | ⟨x,_ | ⟨y,R⟩⟩
     ·cases h2
     ·exact ⟨x,rfl⟩
     ·simp at c2
    have hy:=hN y (by simp);have ha : (A ++ (L ++ ([y] ++ B))).getD (A.length + L.length) 0 = y:=by rw [show A ++ (L ++ ([y] ++ B)) = (A ++ L) ++ y :: B by simp];exact Qex (by simp)
    have hp : ∀ k,k < L.length → p2 c (A ++ (L ++ ([y] ++ B))) (A.length + L.length) (A.length + k) = !decide (c y (L.getD k 0) < 0):=fun k hk=>by
     unfold p2;rw [ha,QcD,Qav hk]
    obtain ⟨s1,s2,s3,s4⟩:=QcV (p:=p2 c (A ++ (L ++ ([y] ++ B))) (A.length + L.length)) (f:=A.length + L.length - A.length) (i:=A.length) (j:=A.length + L.length) (by omega) (by omega);generalize Yv (p2 c (A ++ (L ++ ([y] ++ B))) (A.length + L.length)) (A.length + L.length - A.length) A.length (A.length + L.length) = i at *;obtain ⟨k,rfl⟩ : ∃ k,i = A.length + k:=⟨i - A.length,by omega⟩;have hk : k ≤ L.length:=by omega
    have q1 : ∀ p ∈ L.take k,ltc c p y:=QeD hO (Yw hL k) (fun p hp=>hNL p (List.mem_of_mem_take hp)) hy (by
     rcases s3 with s3 | s3
     ·left;rw [show k = 0 by omega];rfl
     ·rcases Nat.eq_zero_or_pos k with h0 | h0
      ·left;rw [h0];rfl
      ·right;rw [show A.length + k - 1 = A.length + (k - 1) by omega,hp _ (by omega)] at s3;rw [List.length_take,show min k L.length - 1 = k - 1 by omega,Qby (by omega)];have hm : L.getD (k - 1) 0 ∈ L:=Yp (by omega);exact hO.not hy (hlr _ hm y (by simp)) (by simpa using s3))
    have q2 : ∀ p ∈ L.drop k,ltc c y p:=Qdp hO (Yu hL k) (fun p hp=>hNL p (List.mem_of_mem_drop hp)) hy (by
     rcases s4 with s4 | s4
     ·left;exact List.drop_eq_nil_of_le (by omega)
     ·rcases Nat.lt_or_ge k L.length with h0 | h0
      ·right;rw [hp _ h0] at s4;rw [QbV];exact .inl (by simpa using s4)
      ·left;exact List.drop_eq_nil_of_le h0)
    refine ⟨L.take k ++ y :: L.drop k,?_,?_,List.pairwise_append.2 ⟨Yw hL k,List.pairwise_cons.2 ⟨q2,Yu hL k⟩,fun p hp9 q hq9=>?_⟩⟩
    ·have h:=Qlw y B (L.length - k) (A ++ L.take k) (L.drop k) (by rw [List.length_drop]);rw [show A.length + L.length - (A.length + k) = L.length - k by omega];rw [show (A ++ L.take k).length + (L.length - k) = A.length + L.length by rw [List.length_append,List.length_take];omega] at h;rw [show A ++ (L ++ ([y] ++ B)) = A ++ L.take k ++ (L.drop k ++ y :: B) by rw [List.append_assoc,← List.append_assoc (L.take k),List.take_append_drop];rfl,h];simp
    ·have h:=List.perm_middle (a:=y) (l₁:=L.take k) (l₂:=L.drop k);rw [List.take_append_drop] at h;exact h.trans (List.perm_append_comm (l₁:=[y]))
    ·rcases List.mem_cons.1 hq9 with e9 | hq8
     ·rw [e9];exact q1 p hp9
     ·have h:=hL;rw [← List.take_append_drop k L] at h;exact (List.pairwise_append.1 h).2.2 p hp9 q hq8
   ·rw [if_neg c2];generalize hmid : (A.length + (A.length + L.length + R.length)) / 2 = mid;have ha : ∀ k,k < L.length → (A ++ (L ++ (R ++ B))).getD (A.length + k) 0 = L.getD k 0:=fun k hk=>by rw [QcD,Qav hk]
    have hb : ∀ k,k < R.length → (A ++ (L ++ (R ++ B))).getD (A.length + L.length + k) 0 = R.getD k 0:=fun k hk=>by
     rw [show A ++ (L ++ (R ++ B)) = (A ++ L) ++ (R ++ B) by simp,show A.length + L.length + k = (A ++ L).length + k by simp,QcD,Qav hk]
    have hs : ZQ c (A ++ (L ++ (R ++ B))) A.length (A.length + L.length) (A.length + L.length + R.length) = Yv (p3 c (A ++ (L ++ (R ++ B))) (mid + (A.length + L.length) - 1)) (A.length + L.length + R.length - A.length) (if mid < A.length + L.length then mid + (A.length + L.length) - (A.length + L.length + R.length) else A.length) (if mid < A.length + L.length then mid else A.length + L.length):=by
     unfold ZQ;rw [hmid]
    rw [hs];generalize hs0 : (if mid < A.length + L.length then mid + (A.length + L.length) - (A.length + L.length + R.length) else A.length) = s0;generalize hr0 : (if mid < A.length + L.length then mid else A.length + L.length) = r0
    have b0 : (mid < A.length + L.length ∧ s0 = mid + (A.length + L.length) - (A.length + L.length + R.length) ∧ r0 = mid) ∨ (¬ mid < A.length + L.length ∧ s0 = A.length ∧ r0 = A.length + L.length):=by
     by_cases h : mid < A.length + L.length
     ·rw [if_pos h] at hs0 hr0;exact .inl ⟨h,hs0.symm,hr0.symm⟩
     ·rw [if_neg h] at hs0 hr0;exact .inr ⟨h,hs0.symm,hr0.symm⟩
    obtain ⟨s1,s2,s3,s4⟩:=QcV (p:=p3 c (A ++ (L ++ (R ++ B))) (mid + (A.length + L.length) - 1)) (f:=A.length + L.length + R.length - A.length) (i:=s0) (j:=r0) (by omega) (by omega);generalize Yv (p3 c (A ++ (L ++ (R ++ B))) (mid + (A.length + L.length) - 1)) (A.length + L.length + R.length - A.length) s0 r0 = st at *;obtain ⟨k,rfl⟩ : ∃ k,st = A.length + k:=⟨st - A.length,by omega⟩;have hk : k ≤ L.length:=by omega
    obtain ⟨j,hj⟩ : ∃ j,mid + (A.length + L.length) - (A.length + k) = A.length + L.length + j:=⟨mid - (A.length + k),by omega⟩;have hjR : j ≤ R.length:=by omega
    have hjk : mid = A.length + k + j:=by omega
    rw [hj]
    have x1 : ∀ p ∈ L.take k,∀ r ∈ R.drop j,ltc c p r:=Qf9 hO (Yw hL k) (Yu hR j) (fun p hp=>hNL p (List.mem_of_mem_take hp)) (fun p hp=>hN p (List.mem_of_mem_drop hp)) (by
     rcases Nat.eq_zero_or_pos k with h0 | h0
     ·left;rw [h0];rfl
     ·right;rcases Nat.lt_or_ge j R.length with h9 | h9
      ·right
       have h8 : p3 c (A ++ (L ++ (R ++ B))) (mid + (A.length + L.length) - 1) (A.length + k - 1) = true:=by
        rcases s3 with s3 | s3
        ·omega
        ·exact s3
       unfold p3 at h8;rw [show mid + (A.length + L.length) - 1 - (A.length + k - 1) = A.length + L.length + j by omega,show A.length + k - 1 = A.length + (k - 1) by omega,hb _ h9,ha _ (by omega)] at h8;rw [List.length_take,show min k L.length - 1 = k - 1 by omega,Qby (by omega),QbV,Nat.add_zero];exact hO.not (hN _ (Yp h9)) (hlr _ (Yp (by omega)) _ (Yp h9)) (by simpa using h8)
      ·left;exact List.drop_eq_nil_of_le h9)
    have x2 : ∀ p ∈ R.take j,∀ r ∈ L.drop k,ltc c p r:=Qf9 hO (Yw hR j) (Yu hL k) (fun p hp=>hN p (List.mem_of_mem_take hp)) (fun p hp=>hNL p (List.mem_of_mem_drop hp)) (by
     rcases Nat.eq_zero_or_pos j with h0 | h0
     ·left;rw [h0];rfl
     ·right;rcases Nat.lt_or_ge k L.length with h9 | h9
      ·right
       have h8 : p3 c (A ++ (L ++ (R ++ B))) (mid + (A.length + L.length) - 1) (A.length + k) = false:=by
        rcases s4 with s4 | s4
        ·omega
        ·exact s4
       unfold p3 at h8;rw [show mid + (A.length + L.length) - 1 - (A.length + k) = A.length + L.length + (j - 1) by omega,hb _ (by omega),ha _ h9] at h8;rw [List.length_take,show min j R.length - 1 = j - 1 by omega,Qby (by omega),QbV,Nat.add_zero];exact .inl (by simpa using h8)
      ·left;exact List.drop_eq_nil_of_le h9)
    have hL1 : (L.take k).length = k:=by rw [List.length_take];omega
    have hL2 : (L.drop k).length = L.length - k:=List.length_drop;have hR1 : (R.take j).length = j:=by rw [List.length_take];omega
    have hR2 : (R.drop j).length = R.length - j:=List.length_drop
    have eI : A ++ (L ++ (R ++ B)) = (A ++ L.take k) ++ (L.drop k ++ (R.take j ++ (R.drop j ++ B))):=by
     rw [← List.append_assoc (R.take j),List.take_append_drop,List.append_assoc,← List.append_assoc (L.take k),List.take_append_drop]
    have eJ : (if A.length + k < A.length + L.length ∧ A.length + L.length < A.length + L.length + j then rot (A.length + k) (A.length + L.length) (A.length + L.length + j) (A ++ (L ++ (R ++ B))) else A ++ (L ++ (R ++ B))) = A ++ (L.take k ++ (R.take j ++ (L.drop k ++ (R.drop j ++ B)))):=by
     by_cases hr : A.length + k < A.length + L.length ∧ A.length + L.length < A.length + L.length + j
     ·rw [if_pos hr,eI];have h:=QrB (A ++ L.take k) (L.drop k) (R.take j) (R.drop j ++ B) (by omega) (by omega);rw [List.length_append,hL1,hL2,hR1,show A.length + k + (L.length - k) = A.length + L.length by omega] at h;rw [h];simp
     ·rw [if_neg hr,eI];rcases Nat.lt_or_ge k L.length with h9 | h9
      ·have h0 : j = 0:=by omega
       rw [h0];simp
      ·rw [List.drop_eq_nil_of_le h9];simp
    rw [eJ]
    have hsplit:=fun (l : List Nat) (k : Nat) (h : Y9 c l)=>by
     have h':=h;rw [← List.take_append_drop k l] at h';exact (List.pairwise_append.1 h').2.2
    -- the first part
    obtain ⟨X1,u1,u2,u3⟩ : ∃ X1,(if A.length < A.length + k ∧ A.length + k < mid then symM c f A.length (A.length + k) mid (A ++ (L.take k ++ (R.take j ++ (L.drop k ++ (R.drop j ++ B))))) else A ++ (L.take k ++ (R.take j ++ (L.drop k ++ (R.drop j ++ B))))) = A ++ (X1 ++ (L.drop k ++ (R.drop j ++ B))) ∧ X1.Perm (L.take k ++ R.take j) ∧ Y9 c X1:=by
     by_cases hr : A.length < A.length + k ∧ A.length + k < mid
     ·rw [if_pos hr];have h:=Qfs hO f A (L.take k) (R.take j) (L.drop k ++ (R.drop j ++ B)) (by omega) (by omega) (by omega) (Yw hL k) (Yw hR j) (fun l hl r hr=>hlr l (List.mem_of_mem_take hl) r (List.mem_of_mem_take hr)) (fun r hr=>hN r (List.mem_of_mem_take hr));rw [hL1,hR1,← hjk] at h;exact h
     ·rw [if_neg hr];refine ⟨L.take k ++ R.take j,by simp,.refl _,?_⟩;rcases Nat.eq_zero_or_pos k with h0 | h0
      ·rw [h0];simpa using Yw hR j
      ·have h0 : j = 0:=by omega
       rw [h0];simpa using Yw hL k
    obtain ⟨X2,v1,v2,v3⟩ : ∃ X2,(if mid < A.length + L.length + j ∧ A.length + L.length + j < A.length + L.length + R.length then symM c f mid (A.length + L.length + j) (A.length + L.length + R.length) (A ++ (X1 ++ (L.drop k ++ (R.drop j ++ B)))) else A ++ (X1 ++ (L.drop k ++ (R.drop j ++ B)))) = A ++ (X1 ++ (X2 ++ B)) ∧ X2.Perm (L.drop k ++ R.drop j) ∧ Y9 c X2:=by
     have hX1 : X1.length = k + j:=by rw [u2.length_eq,List.length_append,hL1,hR1]
     by_cases hr : mid < A.length + L.length + j ∧ A.length + L.length + j < A.length + L.length + R.length
     ·rw [if_pos hr];obtain ⟨X2,w1,w2,w3⟩:=Qfs hO f (A ++ X1) (L.drop k) (R.drop j) B (by omega) (by omega) (by omega) (Yu hL k) (Yu hR j) (fun l hl r hr=>hlr l (List.mem_of_mem_drop hl) r (List.mem_of_mem_drop hr)) (fun r hr=>hN r (List.mem_of_mem_drop hr));rw [List.length_append,hX1,hL2,hR2,show A.length + (k + j) = mid by omega,show mid + (L.length - k) = A.length + L.length + j by omega,show A.length + L.length + j + (R.length - j) = A.length + L.length + R.length by omega] at w1;exact ⟨X2,by rw [← List.append_assoc A X1,w1,List.append_assoc],w2,w3⟩
     ·rw [if_neg hr];refine ⟨L.drop k ++ R.drop j,by simp,.refl _,?_⟩;rcases Nat.lt_or_ge k L.length with h0 | h0
      ·rw [List.drop_eq_nil_of_le (show R.length ≤ j by omega),List.append_nil];exact Yu hL k
      ·rw [List.drop_eq_nil_of_le h0];exact Yu hR j
    unfold symR;rw [u1,v1];refine ⟨X1 ++ X2,by simp,?_,List.pairwise_append.2 ⟨u3,v3,fun p hp q hq=>?_⟩⟩
    ·refine (List.Perm.append u2 v2).trans ?_
     have h1 : (L.take k ++ R.take j ++ (L.drop k ++ R.drop j)).Perm (L.take k ++ L.drop k ++ (R.take j ++ R.drop j)):=by
      rw [List.append_assoc,List.append_assoc];refine List.Perm.append_left _ ?_;rw [← List.append_assoc,← List.append_assoc];exact List.Perm.append_right _ List.perm_append_comm
     rwa [List.take_append_drop,List.take_append_drop] at h1
    ·rcases List.mem_append.1 (u2.subset hp) with hp | hp <;> rcases List.mem_append.1 (v2.subset hq) with hq | hq
     ·exact hsplit L k hL p hp q hq
     ·exact x1 p hp q hq
     ·exact x2 p hp q hq
     ·exact hsplit R j hR p hp q hq
end
def seg (I : List Nat) (x y : Nat) : List Nat:=(I.drop x).take (y - x)
def Qbb (c : Nat → Nat → Int) (I : List Nat) (x y : Nat) : Prop:=(seg I x y).Perm (List.range' x (y - x)) ∧ Y9 c (seg I x y)
theorem Qee {I : List Nat} {x y : Nat} (h : x ≤ y) (hy : y ≤ I.length) : I = I.take x ++ (seg I x y ++ I.drop y):=by
 unfold seg;have h1 : I.drop y = (I.drop x).drop (y - x):=by rw [List.drop_drop];congr 1;omega
 rw [h1,List.take_append_drop,List.take_append_drop]
theorem QcI {I : List Nat} {x y : Nat} (hy : y ≤ I.length) : (seg I x y).length = y - x:=by
 unfold seg;rw [List.length_take,List.length_drop];omega
theorem QtU {A X B : List Nat} {x y : Nat} (hA : A.length = x) (hX : X.length = y - x) : seg (A ++ (X ++ B)) x y = X:=by
 subst hA;unfold seg;rw [List.drop_left,← hX,List.take_left]
theorem Qjb {A C : List Nat} {u v : Nat} (h : v ≤ A.length) : seg (A ++ C) u v = seg A u v:=by
 rcases Nat.lt_or_ge v u with h9 | h9
 ·unfold seg;rw [show v - u = 0 by omega];rfl
 unfold seg;rw [List.drop_append_of_le_length (by omega),List.take_append_of_le_length (by rw [List.length_drop];omega)]
theorem Qgf {A X B : List Nat} {u v : Nat} (h : A.length + X.length ≤ u) : seg (A ++ (X ++ B)) u v = seg B (u - (A.length + X.length)) (v - (A.length + X.length)):=by
 unfold seg;rw [← List.append_assoc,show u = (A ++ X).length + (u - (A.length + X.length)) by rw [List.length_append];omega,← List.drop_drop,List.drop_left];congr 1
 ·rw [List.length_append];omega
 ·congr 1;rw [List.length_append];omega
theorem QnW (a k m : Nat) : (List.range' a m).take k = List.range' a (min k m):=by
 rcases Nat.lt_or_ge k m with h | h
 ·have h9:=List.range'_append (s:=a) (m:=k) (n:=m - k) (step:=1);rw [show k + (m - k) = m by omega] at h9;rw [← h9,List.take_left' (by simp),Nat.min_eq_left (by omega)]
 ·rw [List.take_of_length_le (by rw [List.length_range'];exact h),Nat.min_eq_right h]
theorem Qqx (a k m : Nat) : (List.range' a m).drop k = List.range' (a + k) (m - k):=by
 rcases Nat.lt_or_ge k m with h | h
 ·have h9:=List.range'_append (s:=a) (m:=k) (n:=m - k) (step:=1);rw [show k + (m - k) = m by omega,Nat.one_mul] at h9;rw [← h9,List.drop_left' (by simp)]
 ·rw [List.drop_eq_nil_of_le (by rw [List.length_range'];exact h),show m - k = 0 by omega];rfl
structure Upd (c : Nat → Nat → Int) (x y : Nat) (I J : List Nat) : Prop where
 len : J.length = I.length
 own : Qbb c J x y
 left : ∀ u v,v ≤ x → seg J u v = seg I u v
 right : ∀ u v,y ≤ u → seg J u v = seg I u v
section
variable {c : Nat → Nat → Int} {N n : Nat}
theorem Qoz {I X : List Nat} {x y : Nat} (h : x ≤ y) (hy : y ≤ I.length) (hl : X.Perm (List.range' x (y - x))) (hs : Y9 c X) : Upd c x y I (I.take x ++ (X ++ I.drop y)):=by
 have hX : X.length = y - x:=by rw [hl.length_eq,List.length_range']
 have hA : (I.take x).length = x:=by rw [List.length_take];omega
 refine ⟨by rw [List.length_append,List.length_append,hA,hX,List.length_drop];omega,?_,fun u v hv=>?_,fun u v hu=>?_⟩
 ·unfold Qbb;rw [QtU hA hX];exact ⟨hl,hs⟩
 ·rw [Qjb (by omega)]
  conv=>rhs;rw [Qee h hy,Qjb (by omega)]
 ·rw [Qgf (by omega)]
  conv=>rhs;rw [Qee h hy,Qgf (by rw [hA,QcI hy];omega)]
  rw [hA,hX,QcI hy]
theorem QhC (hO : OrdC c N) {I : List Nat} {x y : Nat} (h : x ≤ y) (hy : y ≤ I.length) (hN : y ≤ N) (hs : seg I x y = List.range' x (y - x)) : Upd c x y I (ins c x y I):=by
 have hA : (I.take x).length = x:=by rw [List.length_take];omega
 obtain ⟨X,e1,e2,e3⟩:=Qq0 hO (I.drop y) (I.take x) (seg I x y) (by rw [hs];exact List.pairwise_lt_range') (fun q hq=>by rw [hs] at hq;have:=List.mem_range'_1.1 hq;omega);rw [← Qee h hy,hA,QcI hy,show x + (y - x) = y by omega] at e1;rw [e1];exact Qoz h hy (hs ▸ e2) e3
theorem Qlu (hO : OrdC c N) {I : List Nat} {f x m y : Nat} (h1 : x < m) (h2 : m < y) (hy : y ≤ I.length) (hN : y ≤ N) (hf : y - x ≤ f) (hs1 : Qbb c I x m) (hs2 : Qbb c I m y) : Upd c x y I (symM c f x m y I):=by
 have hA : (I.take x).length = x:=by rw [List.length_take];omega
 have hL:=QcI (I:=I) (x:=x) (y:=m) (by omega);have hR:=QcI (I:=I) (x:=m) (y:=y) hy
 have hdec : I = I.take x ++ (seg I x m ++ (seg I m y ++ I.drop y)):=by
  have e1:=Qee (I:=I) (x:=x) (y:=y) (by omega) hy
  have e2 : seg I x y = seg I x m ++ seg I m y:=by
   unfold seg;rw [show y - x = (m - x) + (y - m) by omega,List.take_add,List.drop_drop,show x + (m - x) = m by omega]
  rw [e2,List.append_assoc] at e1;exact e1
 have m1 : ∀ l ∈ seg I x m,x ≤ l ∧ l < m:=fun l hl=>by have:=List.mem_range'_1.1 (hs1.1.subset hl);omega
 have m2 : ∀ l ∈ seg I m y,m ≤ l ∧ l < y:=fun l hl=>by have:=List.mem_range'_1.1 (hs2.1.subset hl);omega
 obtain ⟨X,e1,e2,e3⟩:=Qfs hO f (I.take x) (seg I x m) (seg I m y) (I.drop y) (by omega) (by omega) (by omega) hs1.2 hs2.2 (fun l hl r hr=>by have:=m1 l hl;have:=m2 r hr;omega) (fun r hr=>by have:=m2 r hr;omega);rw [← hdec,hA,hL,hR,show x + (m - x) = m by omega,show m + (y - m) = y by omega] at e1;rw [e1];refine Qoz (by omega) hy (e2.trans ((List.Perm.append hs1.1 hs2.1).trans ?_)) e3;have h9:=List.range'_append (s:=x) (m:=m - x) (n:=y - m) (step:=1);rw [Nat.one_mul,show x + (m - x) = m by omega,show m - x + (y - m) = y - x by omega] at h9;rw [h9]
theorem Qbb.of {I J : List Nat} {x y : Nat} (h : Qbb c I x y) (e : seg J x y = seg I x y) : Qbb c J x y:=by unfold Qbb;rw [e];exact h
theorem QnT (hO : OrdC c N) (hN : n ≤ N) : ∀ (f a : Nat) (I : List Nat),I.length = n → 20 ∣ a → a ≤ n → n - a ≤ f → (∀ x,20 ∣ x → x + 20 ≤ a → Qbb c I x (x + 20)) → seg I a n = List.range' a (n - a) →
  (stI c n f a I).length = n ∧ ∀ x,20 ∣ x → x < n → Qbb c (stI c n f a I) x (min (x + 20) n)
 | 0,a,I,hl,hd,ha,hf,hdone,hrest=>by
  obtain rfl : a = n:=by omega
  have h:=QhC hO (Nat.le_refl a) (by omega) hN hrest;refine ⟨h.len.trans hl,fun x hx hxn=>?_⟩;rw [show min (x + 20) a = x + 20 by omega];exact (hdone x hx (by omega)).of (h.left _ _ (by omega))
 | f + 1,a,I,hl,hd,ha,hf,hdone,hrest=>by
  unfold stI;split
  ·rename_i h20
   have e1 : seg I a (a + 20) = List.range' a (a + 20 - a):=by
    have h1 : seg I a (a + 20) = (seg I a n).take 20:=by
     unfold seg;rw [List.take_take];congr 1;omega
    rw [h1,hrest,QnW];congr 1;omega
   have h:=QhC hO (show a ≤ a + 20 by omega) (by omega) (by omega) e1;refine QnT hO hN f (a + 20) _ (h.len.trans hl) (by omega) h20 (by omega) (fun x hx hx2=>?_) ?_
   ·by_cases e : x = a
    ·subst e;exact h.own
    ·exact (hdone x hx (by omega)).of (h.left _ _ (by omega))
   ·rw [h.right _ _ (Nat.le_refl _)]
    have h1 : seg I (a + 20) n = (seg I a n).drop 20:=by
     unfold seg;rw [List.drop_take,List.drop_drop]
     first | rfl | (congr 1;omega)
    rw [h1,hrest,Qqx]
    first | rfl | (congr 1;omega)
  ·rename_i h20;have h:=QhC hO ha (by omega) hN hrest;refine ⟨h.len.trans hl,fun x hx hxn=>?_⟩
   by_cases e : x = a
   ·subst e;rw [show min (x + 20) n = n by omega];exact h.own
   ·rw [show min (x + 20) n = x + 20 by omega];exact (hdone x hx (by omega)).of (h.left _ _ (by omega))
theorem QgL {d x a : Nat} (h1 : d ∣ x) (h2 : d ∣ a) (h : x < a) : x + d ≤ a:=by
 have:=Nat.le_of_dvd (by omega) (Nat.dvd_sub h2 h1);omega
theorem Qo9 (hO : OrdC c N) (hN : n ≤ N) {bs : Nat} (hb : 0 < bs) : ∀ (f a : Nat) (I : List Nat),I.length = n → 2 * bs ∣ a → a ≤ n → n - a ≤ f → (∀ x,2 * bs ∣ x → x + 2 * bs ≤ a → Qbb c I x (x + 2 * bs)) → (∀ x,bs ∣ x → a ≤ x → x < n → Qbb c I x (min (x + bs) n)) →
  (stP c n bs f a I).length = n ∧ ∀ x,2 * bs ∣ x → x < n → Qbb c (stP c n bs f a I) x (min (x + 2 * bs) n)
 | 0,a,I,hl,hd,ha,hf,hdone,hrest=>by
  obtain rfl : a = n:=by omega
  refine ⟨hl,fun x hx hxn=>?_⟩;have:=QgL hx hd hxn;rw [show min (x + 2 * bs) a = x + 2 * bs by omega];exact hdone x hx this
 | f + 1,a,I,hl,hd,ha,hf,hdone,hrest=>by
  have hba : bs ∣ a:=Nat.dvd_trans (Nat.dvd_mul_left ..) hd;have hba1 : bs ∣ a + bs:=(Nat.dvd_add_right hba).2 (Nat.dvd_refl _);unfold stP;split
  ·rename_i h20;have hs1:=hrest a hba (Nat.le_refl _) (by omega);have hs2:=hrest (a + bs) hba1 (by omega) (by omega);rw [show min (a + bs) n = a + bs by omega] at hs1;rw [show min (a + bs + bs) n = a + 2 * bs by omega] at hs2;have h:=Qlu (f:=n) hO (show a < a + bs by omega) (by omega) (by omega) (by omega) (by omega) hs1 hs2;refine Qo9 hO hN hb f (a + 2 * bs) _ (h.len.trans hl) ((Nat.dvd_add_right hd).2 (Nat.dvd_refl _)) h20 (by omega) (fun x hx hx2=>?_) (fun x hx hx2 hx3=>?_)
   ·by_cases e : x = a
    ·subst e;exact h.own
    ·have : x < a:=by
      rcases Nat.lt_or_ge x a with h9 | h9
      ·exact h9
      ·omega
     have:=QgL hx hd this;exact (hdone x hx (by omega)).of (h.left _ _ (by omega))
   ·exact (hrest x hx (by omega) hx3).of (h.right _ _ hx2)
  ·rename_i h20
   have fin : ∀ (J : List Nat),J.length = n → (a < n → Qbb c J a n) → (∀ u v,v ≤ a → seg J u v = seg I u v) → J.length = n ∧ ∀ x,2 * bs ∣ x → x < n → Qbb c J x (min (x + 2 * bs) n):=fun J hJ ho hleft=>by
    refine ⟨hJ,fun x hx hxn=>?_⟩
    by_cases e : x = a
    ·subst e;rw [show min (x + 2 * bs) n = n by omega];exact ho hxn
    ·have hxa : x < a:=by
      rcases Nat.lt_or_ge x a with h9 | h9
      ·exact h9
      ·have:=QgL hd hx (by omega);omega
     have:=QgL hx hd hxa;rw [show min (x + 2 * bs) n = x + 2 * bs by omega];exact (hdone x hx this).of (hleft _ _ this)
   split
   ·rename_i hm;have hs1:=hrest a hba (Nat.le_refl _) (by omega);have hs2:=hrest (a + bs) hba1 (by omega) hm;rw [show min (a + bs) n = a + bs by omega] at hs1;rw [show min (a + bs + bs) n = n by omega] at hs2;have h:=Qlu (f:=n) hO (show a < a + bs by omega) hm (by omega) hN (by omega) hs1 hs2;exact fin _ (h.len.trans hl) (fun _=>h.own) h.left
   ·rename_i hm;refine fin _ hl (fun han=>?_) fun _ _ _=>rfl;have hs1:=hrest a hba (Nat.le_refl _) han
    rwa [show min (a + bs) n = n by omega] at hs1
theorem Qll (hO : OrdC c N) (hN : n ≤ N) : ∀ (f bs : Nat) (I : List Nat),I.length = n → 0 < bs → n ≤ bs + f → (∀ x,bs ∣ x → x < n → Qbb c I x (min (x + bs) n)) → 0 < n → (QhM c n f bs I).length = n ∧ Qbb c (QhM c n f bs I) 0 n
 | 0,bs,I,hl,hb,hf,hs,hn=>by
  have h:=hs 0 (Nat.dvd_zero _) hn;rw [show min (0 + bs) n = n by omega] at h;exact ⟨hl,h⟩
 | f + 1,bs,I,hl,hb,hf,hs,hn=>by
  unfold QhM;split
  ·have h:=Qo9 hO hN hb n 0 I hl (Nat.dvd_zero _) (Nat.zero_le _) (by omega) (fun x _ h=>by omega) (fun x hx _ hxn=>hs x hx hxn);exact Qll hO hN f (2 * bs) _ h.1 (by omega) (by omega) h.2 hn
  ·have h:=hs 0 (Nat.dvd_zero _) hn;rw [show min (0 + bs) n = n by omega] at h;exact ⟨hl,h⟩
theorem QhR (hO : OrdC c n) : (stab c n (List.range n)).Perm (List.range n) ∧ Y9 c (stab c n (List.range n)):=by
 rcases Nat.eq_zero_or_pos n with h0 | h0
 ·subst h0;exact ⟨.refl _,.nil⟩
 ·have h1:=QnT hO (Nat.le_refl n) n 0 (List.range n) List.length_range (Nat.dvd_zero _) (Nat.zero_le _) (by omega) (fun x _ h=>by omega) (by
   unfold seg;rw [List.drop_zero,List.take_of_length_le (by rw [List.length_range];omega),List.range_eq_range'];rfl)
  obtain ⟨hl,h2⟩:=Qll hO (Nat.le_refl n) n 20 _ h1.1 (by omega) (by omega) h1.2 h0;unfold stab;unfold Qbb seg at h2;rw [List.drop_zero,List.take_of_length_le (by omega)] at h2;exact ⟨h2.1.trans (by rw [List.range_eq_range'];exact .refl _),h2.2⟩
end
end Gx
namespace Gx
open Go Go.RowKit
inductive BT where
 | nd (i : Nat) (es : List TEnt) (ks : List BT)
namespace BT
def idx : BT → Nat | nd i _ _=>i
def es : BT → List TEnt | nd _ es _=>es
def ks : BT → List BT | nd _ _ ks=>ks
end BT
instance : Inhabited BT:=⟨.nd 0 [] []⟩
def Qt8 (ks : List BT) : List Int:=ks.map fun k=>(k.idx : Int)
mutual
def BT.nodes : BT → List (Nat × Nd)
 | .nd i es ks=>(i,⟨true,es,Qt8 ks⟩) :: nodesL ks
def nodesL : List BT → List (Nat × Nd)
 | []=>[]
 | k :: ks=>k.nodes ++ nodesL ks
end
mutual
def BT.flat : BT → List TEnt
 | .nd _ es ks=>flatL es ks
def flatL : List TEnt → List BT → List TEnt
 | es,[]=>es
 | [],k :: ks=>k.flat ++ flatL [] ks
 | e :: es,k :: ks=>k.flat ++ e :: flatL es ks
end
structure RepN (ns : List Nd) (N : List (Nat × Nd)) : Prop where
 get : ∀ p ∈ N,ns[p.1]? = some p.2
 nd : (N.map Prod.fst).Nodup
 rest : ∀ i,i < ns.length → i ∉ N.map Prod.fst → nth ns i = ⟨false,[],[]⟩
section
variable {ns : List Nd} {N N' : List (Nat × Nd)} {i : Nat} {x y : Nd}
end
def kidsOf (N : List (Nat × Nd)) : List Int:=N.flatMap fun p=>p.2.cs
structure Fr where
 i : Nat
 es : List TEnt
 l : List BT
 r : List BT
instance : Inhabited Fr:=⟨⟨0,[],[],[]⟩⟩
def Fr.fill (f : Fr) (T : BT) : BT:=.nd f.i f.es (f.l ++ T :: f.r)
def plug : List Fr → BT → BT
 | [],T=>T
 | f :: C,T=>plug C (f.fill T)
def Fr.nodes (f : Fr) (h : Nat) : List (Nat × Nd):=(f.i,⟨true,f.es,Qt8 f.l ++ (h : Int) :: Qt8 f.r⟩) :: (nodesL f.l ++ nodesL f.r)
def Qnk : List Fr → Nat → List (Nat × Nd)
 | [],_=>[]
 | f :: C,h=>f.nodes h ++ Qnk C f.i
def Qu2 (ns : List Nd) (T : BT) : Prop:=RepN ns T.nodes
section
variable {ns : List Nd} {mo rm : Int} {f : Fr} {C : List Fr} {i : Nat} {es : List TEnt} {ks : List BT}
end
def Bal (lo hi : Nat) : Nat → BT → Prop
 | 0,T=>T.ks = [] ∧ lo ≤ T.es.length ∧ T.es.length ≤ hi
 | d + 1,T=>(T.ks.length = T.es.length + 1 ∧ ∀ k ∈ T.ks,Bal lo hi d k) ∧ lo ≤ T.es.length ∧ T.es.length ≤ hi
def Bel (lo hi : Nat) : Nat → BT → Prop
 | 0,T=>T.ks = []
 | d + 1,T=>T.ks.length = T.es.length + 1 ∧ ∀ k ∈ T.ks,Bal lo hi d k
def QvL (lo hi rt : Nat) : Nat → List Fr → Prop
 | _,[]=>True
 | d,f :: C=>((∀ k ∈ f.l,Bal lo hi d k) ∧ (∀ k ∈ f.r,Bal lo hi d k)) ∧ f.l.length + f.r.length = f.es.length ∧ ((C = [] → f.es.length ≤ rt) ∧ (C ≠ [] → lo ≤ f.es.length ∧ f.es.length ≤ hi)) ∧ QvL lo hi rt (d + 1) C
def Qsy : List TEnt → List BT → List TEnt
 | e :: es,k :: ks=>k.flat ++ e :: Qsy es ks
 | _,_=>[]
def Qsm : List TEnt → List BT → List TEnt
 | e :: es,k :: ks=>e :: (k.flat ++ Qsm es ks)
 | _,_=>[]
def preC : List Fr → List TEnt
 | []=>[]
 | f :: C=>preC C ++ Qsy f.es f.l
def sufC : List Fr → List TEnt
 | []=>[]
 | f :: C=>Qsm (f.es.drop f.l.length) f.r ++ sufC C
def Leads (co : Int) (key : List UInt8) (C : List Fr) : Prop:=∀ f ∈ C,f.l.length = plc co f.es key ∧ ¬ fnd co f.es key = true
section
variable {ns : List Nd} {mo : Int} {f : Fr} {C : List Fr} {i : Nat} {es : List TEnt} {ks : List BT}
end
def Qod (rt : Nat) (T : BT) : Prop:=T.es = [] → ∀ k,T.ks = [k] → rt < k.es.length
def GapC (rt : Nat) : List Fr → Nat → Prop
 | [],_=>True
 | [f],n=>f.es = [] → rt < n
 | f :: g :: C,_=>GapC rt (g :: C) f.es.length
def QoD (ns : List Nd) : Prop:=(nth ns (ns.length - 1)).us = true
structure Grown (mo : Int) (lo hi rt : Nat) (P : List Nat) (m k : Nat) (ns : List Nd) (W : List Nat) (fl : List TEnt) : Prop where
 ok : Qow mo ns W
 okR : QjG mo P k ns
 same : Qh1 mo P k ns = QgY mo ns W
 tree : ∃ T d,Qu2 (QgY mo ns W) T ∧ T.idx = 0 ∧ Bel lo hi d T ∧ T.es.length ≤ rt + 1 ∧ Qod rt T ∧ T.flat = fl
 sm : Sm (m + k) (QgY mo ns W)
 len : ns.length ≤ (QgY mo ns W).length ∧ (QgY mo ns W).length ≤ ns.length + k
 last : QoD (QgY mo ns W)
def Srt (co : Int) (l : List TEnt) : Prop:=l.Pairwise fun a b=>Xo co a.key b.key < 0
theorem Qgl {co : Int} {a b : List UInt8} (h : ¬ Xo co a b < 0) (h2 : Xo co a b ≠ 0) : Xo co b a < 0:=by
 have:=QbI co a b;omega
def QiK (co : Int) (l : List TEnt) (key : List UInt8) : Prop:=∃ y ∈ l,Xo co y.key key = 0
theorem Qfj {co : Int} {key : List UInt8} : ∀ {l : List TEnt},Srt co l → (QiK co l key ↔ fnd co l key = true)
 | [],_=>by simp [QiK,fnd]
 | y :: l,h=>by
  have hp:=List.pairwise_cons.1 h;have ih:=Qfj (key:=key) hp.2;unfold fnd at ih ⊢;rw [plc]
  by_cases h1 : Xo co y.key key < 0
  ·rw [if_pos h1];have e : nth (y :: l) (plc co l key + 1) = nth l (plc co l key):=rfl;rw [e,List.length_cons]
   have hh : QiK co (y :: l) key ↔ QiK co l key:=by
    constructor
    ·rintro ⟨z,hz,h2⟩;rcases List.mem_cons.1 hz with rfl | hz
     ·omega
     ·exact ⟨z,hz,h2⟩
    ·rintro ⟨z,hz,h2⟩;exact ⟨z,List.mem_cons_of_mem _ hz,h2⟩
   rw [hh,ih];simp
  ·rw [if_neg h1];have e : nth (y :: l) 0 = y:=rfl;rw [e];simp only [List.length_cons,Nat.zero_lt_succ,decide_true,Bool.true_and,decide_eq_true_eq];constructor
   ·rintro ⟨z,hz,h2⟩;rcases List.mem_cons.1 hz with rfl | hz
    ·exact h2
    ·exfalso;have h3:=hp.1 z hz
     by_cases h4 : Xo co y.key key = 0
     ·have h5:=Qeh.1 h4;have h6:=Qeh.1 h2;have h7:=Qeh.2 (h5.trans h6.symm);omega
     ·have h5:=Qgl h1 h4;have h6:=Qck h5 h3;have h7:=QbI co z.key key;omega
   ·intro h2;exact ⟨y,List.mem_cons_self ..,h2⟩
theorem QlN {co : Int} {x : TEnt} : ∀ {l : List TEnt},Srt co l → ¬ QiK co l x.key → Srt co (XB l (plc co l x.key) x)
 | [],_,_=>by
  show Srt co [x];simp [Srt]
 | y :: l,h,hn=>by
  have hp:=List.pairwise_cons.1 h;have ih:=QlN (x:=x) hp.2 fun ⟨z,hz,h2⟩=>hn ⟨z,List.mem_cons_of_mem _ hz,h2⟩;rw [plc]
  by_cases h1 : Xo co y.key x.key < 0
  ·rw [if_pos h1];show Srt co (y :: XB l (plc co l x.key) x);refine List.pairwise_cons.2 ⟨fun z hz=>?_,ih⟩;unfold XB at hz;rcases List.mem_append.1 hz with hz | hz
   ·exact hp.1 z (List.mem_of_mem_take hz)
   ·rcases List.mem_cons.1 hz with rfl | hz
    ·exact h1
    ·exact hp.1 z (List.mem_of_mem_drop hz)
  ·rw [if_neg h1];show Srt co (x :: y :: l);have h2:=Qgl h1 fun h2=>hn ⟨y,List.mem_cons_self ..,h2⟩;refine List.pairwise_cons.2 ⟨fun z hz=>?_,h⟩;rcases List.mem_cons.1 hz with rfl | hz
   ·exact h2
   ·exact Qck h2 (hp.1 z hz)
structure Sz (mo rm : Int) (lo hi rt : Nat) : Prop where
 emo : mo = (hi : Int)
 erm : rm = (rt : Int)
 elo : lo = hi / 2
 hi3 : 3 ≤ hi
 hi8 : hi ≤ 8
 lr : lo ≤ rt
 rh : rt ≤ hi
structure VT (co : Int) (lo hi rt d : Nat) (T : BT) : Prop where
 idx : T.idx = 0
 bel : Bel lo hi d T
 root : T.es.length ≤ rt
 gap : Qod rt T
 srt : Srt co T.flat
 ents : ∀ x ∈ T.flat,Quv co x = 0
structure RootGrown (mo rm : Int) (lo hi rt m : Nat) (ns : List Nd) (fl : List TEnt) : Prop where
 ok : RootOk mo rm ns
 okR : RootROk mo rm ns
 same : QsJ mo rm ns = Qnc mo rm ns
 tree : ∃ T d,Qu2 (Qnc mo rm ns) T ∧ T.idx = 0 ∧ Bel lo hi d T ∧ T.es.length ≤ rt ∧ Qod rt T ∧ T.flat = fl
 len : ns.length ≤ (Qnc mo rm ns).length ∧ (Qnc mo rm ns).length ≤ ns.length + 2
 last : QoD (Qnc mo rm ns)
structure Inserted (co mo rm : Int) (lo hi rt : Nat) (ns : List Nd) (x : TEnt) (fl : List TEnt) : Prop where
 ok : InsOk co mo rm ns x
 okR : InsROk co mo rm ns x
 same : insR co mo rm ns x = Qms co mo rm ns x
 tree : ∃ T d,Qu2 (Qms co mo rm ns x) T ∧ VT co lo hi rt d T ∧ T.flat = XB fl (plc co fl x.key) x
 len : ns.length ≤ (Qms co mo rm ns x).length ∧ (Qms co mo rm ns x).length ≤ 2 * ns.length + 2
 last : QoD (Qms co mo rm ns x)
end Gx
namespace Gx
open Go Go.RowKit
section
variable (c : Nat → Nat → Int)
def Qaf : Nat → List Nat → List Nat
 | _,[]=>[]
 | p,a :: l=>if c a p = 0 then Qaf a l else a :: Qaf a l
def cpt : List Nat → List Nat
 | []=>[]
 | a :: l=>a :: Qaf c a l
end
structure EqC (c : Nat → Nat → Int) : Prop where
 swap : ∀ i j,c j i = - c i j
 lt : ∀ i j k,c i j < 0 → c j k < 0 → c i k < 0
 eq : ∀ i j k,c i j = 0 → c i k = c j k
theorem EqC.eqr {c : Nat → Nat → Int} (h : EqC c) {i j k : Nat} (h1 : c j k = 0) : c i j = c i k:=by
 have h2:=h.eq j k i h1;have:=h.swap j i;have:=h.swap k i;omega
theorem EqC.ord {c : Nat → Nat → Int} (h : EqC c) (N : Nat) : OrdC c N where
 tr:=fun i j k _ _ _ h1 h2=>by
  rcases h1 with h1 | ⟨h1,l1⟩ <;> rcases h2 with h2 | ⟨h2,l2⟩
  ·exact .inl (h.lt i j k h1 h2)
  ·exact .inl (by rw [← h.eqr h2];exact h1)
  ·exact .inl (by rw [h.eq i j k h1];exact h2)
  ·exact .inr ⟨by rw [h.eq i j k h1];exact h2,by omega⟩
 tot:=fun i j _ _ hn=>by
  have:=h.swap i j;unfold ltc;omega
section
variable {c : Nat → Nat → Int}
theorem QcJ (h : EqC c) : ∀ (l : List Nat) (p : Nat),Y9 c (p :: l) → ∀ a ∈ Qaf c p l,a ∈ l ∧ c p a < 0
 | [],_,_,a,ha=>by cases ha
 | b :: l,p,hs,a,ha=>by
  have hs2:=(List.pairwise_cons.1 hs).2;have hpb:=(List.pairwise_cons.1 hs).1 b (List.mem_cons_self ..);have hsw:=h.swap p b;rw [Qaf] at ha;split at ha
  ·rename_i h0;obtain ⟨q1,q2⟩:=QcJ h l b hs2 a ha;exact ⟨List.mem_cons_of_mem _ q1,by rw [h.eq p b a (by omega)];exact q2⟩
  ·rename_i h0
   have hlt : c p b < 0:=by
    rcases hpb with h1 | h1
    ·exact h1
    ·omega
   rcases List.mem_cons.1 ha with rfl | ha
   ·exact ⟨List.mem_cons_self ..,hlt⟩
   ·obtain ⟨q1,q2⟩:=QcJ h l b hs2 a ha;exact ⟨List.mem_cons_of_mem _ q1,h.lt p b a hlt q2⟩
theorem QhD (h : EqC c) : ∀ (l : List Nat) (p : Nat),Y9 c (p :: l) → (Qaf c p l).Pairwise (fun a b=>c a b < 0)
 | [],_,_=>.nil
 | b :: l,p,hs=>by
  have hs2:=(List.pairwise_cons.1 hs).2;rw [Qaf];split
  ·exact QhD h l b hs2
  ·exact List.pairwise_cons.2 ⟨fun a ha=>(QcJ h l b hs2 a ha).2,QhD h l b hs2⟩
theorem Qfi (h : EqC c) : ∀ (l : List Nat) (p : Nat),Y9 c (p :: l) → ∀ a ∈ l,∃ y ∈ p :: Qaf c p l,c y a = 0 ∧ y ≤ a
 | [],_,_,a,ha=>by cases ha
 | b :: l,p,hs,a,ha=>by
  have hs2:=(List.pairwise_cons.1 hs).2;have hpb:=(List.pairwise_cons.1 hs).1 b (List.mem_cons_self ..);have hsw:=h.swap p b;have hbb : c b b = 0:=by have:=h.swap b b;omega
  rw [Qaf];split
  ·rename_i h0
   have hle : p ≤ b:=by
    rcases hpb with h1 | h1
    ·omega
    ·omega
   rcases List.mem_cons.1 ha with rfl | ha
   ·exact ⟨p,List.mem_cons_self ..,by omega,hle⟩
   ·obtain ⟨y,hy,q1,q2⟩:=Qfi h l b hs2 a ha;rcases List.mem_cons.1 hy with rfl | hy
    ·exact ⟨p,List.mem_cons_self ..,by rw [h.eq p y a (by omega)];exact q1,by omega⟩
    ·exact ⟨y,List.mem_cons_of_mem _ hy,q1,q2⟩
  ·rcases List.mem_cons.1 ha with rfl | ha
   ·exact ⟨a,by simp,hbb,Nat.le_refl _⟩
   ·obtain ⟨y,hy,q1,q2⟩:=Qfi h l b hs2 a ha;exact ⟨y,List.mem_cons_of_mem _ hy,q1,q2⟩
theorem Qs9 (h : EqC c) {L : List Nat} {n : Nat} (hp : L.Perm (List.range n)) (hs : Y9 c L) : (cpt c L).Pairwise (fun a b=>c a b < 0) ∧ ∀ x,x ∈ cpt c L ↔ x < n ∧ ∀ j,j < x → ¬ c j x = 0:=by
 cases L with
 | nil=>
  have:=hp.length_eq;rw [List.length_range] at this;refine ⟨.nil,fun x=>⟨fun hx=>(List.not_mem_nil hx).elim,fun hx=>?_⟩⟩;simp only [List.length_nil] at this;omega
 | cons p l=>
  have hpw : (p :: Qaf c p l).Pairwise (fun a b=>c a b < 0):=List.pairwise_cons.2 ⟨fun a ha=>(QcJ h l p hs a ha).2,QhD h l p hs⟩;have hm : ∀ x,x ∈ p :: l ↔ x < n:=fun x=>by rw [hp.mem_iff,List.mem_range]
  have hpp : c p p = 0:=by have:=h.swap p p;omega
  have hall : ∀ a,a < n → ∃ y ∈ p :: Qaf c p l,c y a = 0 ∧ y ≤ a:=fun a ha=>by
   rcases List.mem_cons.1 ((hm a).2 ha) with rfl | h1
   ·exact ⟨a,List.mem_cons_self ..,hpp,Nat.le_refl _⟩
   ·exact Qfi h l p hs a h1
  have hin : ∀ x ∈ p :: Qaf c p l,x < n:=fun x hx=>by
   rcases List.mem_cons.1 hx with rfl | hx
   ·exact (hm x).1 (List.mem_cons_self ..)
   ·exact (hm x).1 (List.mem_cons_of_mem _ (QcJ h l p hs x hx).1)
  have huq : ∀ x ∈ p :: Qaf c p l,∀ y ∈ p :: Qaf c p l,c y x = 0 → y = x:=fun x hx y hy he=>by
   by_cases e : y = x
   ·exact e
   ·exfalso
    have h1 : c y x < 0 ∨ c x y < 0:=by
     have hq:=List.pairwise_iff_getElem.1 hpw;obtain ⟨i,hi,rfl⟩:=List.getElem_of_mem hx;obtain ⟨j,hj,rfl⟩:=List.getElem_of_mem hy;rcases Nat.lt_trichotomy i j with h2 | h2 | h2
     ·exact .inr (hq i j hi hj h2)
     ·subst h2;exact absurd rfl e
     ·exact .inl (hq j i hj hi h2)
    have:=h.swap x y;omega
  refine ⟨hpw,fun x=>⟨fun hx=>⟨hin x hx,fun j hj he=>?_⟩,fun ⟨h1,h2⟩=>?_⟩⟩
  ·obtain ⟨y,hy,q1,q2⟩:=hall j (by have:=hin x hx;omega);have h3 : c y x = 0:=by rw [h.eq y j x q1];exact he
   have:=huq x hx y hy h3;omega
  ·obtain ⟨y,hy,q1,q2⟩:=hall x h1;rcases Nat.lt_or_ge y x with h3 | h3
   ·exact absurd q1 (h2 y h3)
   ·obtain rfl : y = x:=by omega
    exact hy
end
def cI (co : Int) (l : List TEnt) (i j : Nat) : Int:=Xo co (nth l i).key (nth l j).key
theorem QlK (co : Int) (l : List TEnt) : EqC (cI co l) where
 swap:=fun i j=>QbI co _ _
 lt:=fun i j k=>Qck
 eq:=fun i j k h=>by
  unfold cI at h ⊢;rw [Qay,Qay,Qeh.1 h]
def Qd1 (co : Int) (l : List TEnt) : List Nat:=stab (cI co l) l.length (List.range l.length)
def Qkd (co : Int) (l : List TEnt) : List TEnt:=(cpt (cI co l) (Qd1 co l)).map (nth l)
def Qf0 (co : Int) (out : List TEnt) (x : TEnt) : List TEnt:=if fnd co out x.key = true then out else XB out (plc co out x.key) x
def inD (co : Int) (l : List TEnt) : List TEnt:=l.foldl (Qf0 co) []
def Quq (co : Int) (l : List TEnt) (i : Nat) : Prop:=∀ j,j < i → ¬ cI co l j i = 0
theorem Qj0 (co : Int) (l : List TEnt) : ∀ k,k ≤ l.length → Srt co (inD co (l.take k)) ∧ (∀ x,x ∈ inD co (l.take k) ↔ ∃ i,i < k ∧ x = nth l i ∧ Quq co l i) ∧ ∀ i,i < k → QiK co (inD co (l.take k)) (nth l i).key
 | 0,_=>by
  refine ⟨.nil,fun x=>⟨fun hx=>by simp [inD] at hx,fun ⟨i,hi,_⟩=>by omega⟩,fun i hi=>by omega⟩
 | k + 1,hk=>by
  obtain ⟨h1,h2,h3⟩:=Qj0 co l k (by omega)
  have hst : inD co (l.take (k + 1)) = Qf0 co (inD co (l.take k)) (nth l k):=by
   unfold inD;rw [List.take_add_one,List.foldl_append,Ya (by omega)];rfl
  have hE:=QlK co l
  have hfst : QiK co (inD co (l.take k)) (nth l k).key ↔ ¬ Quq co l k:=by
   constructor
   ·rintro ⟨y,hy,he⟩ hf;obtain ⟨i,hi,rfl,_⟩:=(h2 y).1 hy;exact hf i hi he
   ·intro hf
    have : ∃ j,j < k ∧ cI co l j k = 0:=by
     apply Classical.byContradiction;intro h9;exact hf fun j hj h8=>h9 ⟨j,hj,h8⟩
    obtain ⟨j,hj,he⟩:=this;obtain ⟨y,hy,hye⟩:=h3 j hj;obtain ⟨i,hi,rfl,_⟩:=(h2 y).1 hy;exact ⟨nth l i,hy,by have:=hE.eq i j k hye;unfold cI at this he;rw [this];exact he⟩
  rw [hst];unfold Qf0
  by_cases hf : fnd co (inD co (l.take k)) (nth l k).key = true
  ·rw [if_pos hf];have hh:=(Qfj h1).2 hf;refine ⟨h1,fun x=>?_,fun i hi=>?_⟩
   ·rw [h2];constructor
    ·rintro ⟨i,hi,q⟩;exact ⟨i,by omega,q⟩
    ·rintro ⟨i,hi,rfl,q⟩;rcases Nat.lt_or_ge i k with h9 | h9
     ·exact ⟨i,h9,rfl,q⟩
     ·obtain rfl : i = k:=by omega
      exact absurd q (hfst.1 hh)
   ·rcases Nat.lt_or_ge i k with h9 | h9
    ·exact h3 i h9
    ·obtain rfl : i = k:=by omega
     exact hh
  ·rw [if_neg hf];have hh : ¬ QiK co (inD co (l.take k)) (nth l k).key:=fun h9=>hf ((Qfj h1).1 h9);have hfk : Quq co l k:=Classical.byContradiction fun h9=>hh (hfst.2 h9)
   have hmem : ∀ y,y ∈ XB (inD co (l.take k)) (plc co (inD co (l.take k)) (nth l k).key) (nth l k) ↔ y ∈ inD co (l.take k) ∨ y = nth l k:=fun y=>by
    unfold XB;have e:=List.take_append_drop (plc co (inD co (l.take k)) (nth l k).key) (inD co (l.take k));constructor
    ·intro hy;rcases List.mem_append.1 hy with h9 | h9
     ·exact .inl (List.mem_of_mem_take h9)
     ·rcases List.mem_cons.1 h9 with h9 | h9
      ·exact .inr h9
      ·exact .inl (List.mem_of_mem_drop h9)
    ·rintro (h9 | h9)
     ·rw [← e] at h9;rcases List.mem_append.1 h9 with h8 | h8
      ·exact List.mem_append_left _ h8
      ·exact List.mem_append_right _ (List.mem_cons_of_mem _ h8)
     ·exact List.mem_append_right _ (by rw [h9];exact List.mem_cons_self ..)
   refine ⟨QlN h1 hh,fun x=>?_,fun i hi=>?_⟩
   ·rw [hmem,h2];constructor
    ·rintro (⟨i,hi,q⟩ | rfl)
     ·exact ⟨i,by omega,q⟩
     ·exact ⟨k,by omega,rfl,hfk⟩
    ·rintro ⟨i,hi,rfl,q⟩;rcases Nat.lt_or_ge i k with h9 | h9
     ·exact .inl ⟨i,h9,rfl,q⟩
     ·obtain rfl : i = k:=by omega
      exact .inr rfl
   ·rcases Nat.lt_or_ge i k with h9 | h9
    ·obtain ⟨y,hy,q⟩:=h3 i h9;exact ⟨y,(hmem y).2 (.inl hy),q⟩
    ·obtain rfl : i = k:=by omega
     exact ⟨nth l i,(hmem _).2 (.inr rfl),by have:=hE.swap i i;unfold cI at this;omega⟩
theorem QlZ {α : Type} {R : α → α → Prop} (ha : ∀ x y,R x y → ¬ R y x) : ∀ {A B : List α},A.Pairwise R → B.Pairwise R → (∀ x,x ∈ A ↔ x ∈ B) → A = B
 | [],[],_,_,_=>rfl
 | [],b :: B,_,_,h=>by have:=(h b).2 (List.mem_cons_self ..);cases this
 | a :: A,[],_,_,h=>by have:=(h a).1 (List.mem_cons_self ..);cases this
 | a :: A,b :: B,hA,hB,h=>by
  obtain ⟨a1,a2⟩:=List.pairwise_cons.1 hA;obtain ⟨b1,b2⟩:=List.pairwise_cons.1 hB
  have e : a = b:=by
   rcases List.mem_cons.1 ((h a).1 (List.mem_cons_self ..)) with e | e
   ·exact e
   ·rcases List.mem_cons.1 ((h b).2 (List.mem_cons_self ..)) with e2 | e2
    ·exact e2.symm
    ·exact absurd (a1 b e2) (ha _ _ (b1 a e))
  subst e;rw [QlZ ha a2 b2 fun x=>?_];have hi : ¬ R a a:=fun h9=>ha a a h9 h9;constructor
  ·intro hx;rcases List.mem_cons.1 ((h x).1 (List.mem_cons_of_mem _ hx)) with e | e
   ·subst e;exact absurd (a1 _ hx) hi
   ·exact e
  ·intro hx;rcases List.mem_cons.1 ((h x).2 (List.mem_cons_of_mem _ hx)) with e | e
   ·subst e;exact absurd (b1 _ hx) hi
   ·exact e
theorem Qtu (co : Int) (l : List TEnt) : Qkd co l = inD co l:=by
 have hE:=QlK co l;obtain ⟨p1,p2⟩:=QhR (hE.ord l.length);obtain ⟨q1,q2⟩:=Qs9 hE p1 p2;obtain ⟨r1,r2,_⟩:=Qj0 co l l.length (Nat.le_refl _);rw [List.take_length] at r1 r2;refine QlZ (R:=fun a b : TEnt=>Xo co a.key b.key < 0) (fun x y h1 h2=>by have:=QbI co x.key y.key;omega) ?_ r1 fun x=>?_
 ·exact List.pairwise_map.2 q1
 ·unfold Qkd;rw [List.mem_map,r2];constructor
  ·rintro ⟨i,hi,rfl⟩;obtain ⟨h1,h2⟩:=(q2 i).1 hi;exact ⟨i,h1,rfl,h2⟩
  ·rintro ⟨i,hi,rfl,h2⟩;exact ⟨i,(q2 i).2 ⟨hi,h2⟩,rfl⟩
end Gx
namespace Go.Proofs
open Go Go.RowKit Gx
attribute [local irreducible] Go.Calls Gx.S Gx.O Gx.D Gx.OpP Gx.OpQ Gx.OpH
set_option maxRecDepth 20000
def X7 (x : Ixs) : Nat → List Nat
  | 0=>[]
  | k + 1=>if Y7 x (k + 1) = true ∧ ¬ (XD (x.blk (k + 1)) ((k + 1 : Nat) : Int)).e = 0 then X7 x k ++ [k + 1] else X7 x k
theorem Qc8 (x : Ixs) : ∀ k,(X7 x k).length ≤ k
  | 0=>Nat.le_refl _
  | k + 1=>by
    have:=Qc8 x k;rw [X7];split
    · rw [List.length_append,List.length_singleton];omega
    · omega
def bdI (x : Ixs) : List Nat:=if ixE x = 0 then X7 x x.n else []
theorem QtC {x : Ixs} {i : Nat} (h1 : Y7 x i = true) (h2 : ¬ (XD (x.blk i) ((i : Nat) : Int)).e = 0) : X7 x (i + 1 - 1) = X7 x (i - 1) ++ [i]:=by
  obtain ⟨h3,_⟩:=Qhq h1;obtain ⟨k,rfl⟩ : ∃ k,i = k + 1:=⟨i - 1,by omega⟩;rw [Nat.add_sub_cancel,X7,if_pos ⟨h1,h2⟩,Nat.add_sub_cancel]
theorem Qr9 {x : Ixs} {i : Nat} (h : ¬ (Y7 x i = true ∧ ¬ (XD (x.blk i) ((i : Nat) : Int)).e = 0)) : X7 x (i + 1 - 1) = X7 x (i - 1):=by
  cases i with
  | zero=>rfl
  | succ k=>rw [Nat.add_sub_cancel,X7,if_neg h,Nat.add_sub_cancel]
theorem c47 (w : World) (x : Ixs) (hl : x.al.length ≤ 900000) (hr : x.ro.length ≤ 1000000) (hb : x.bm.length ≤ 100000) : Calls Tryz.prog 47 #[.agg #[.string (bs x.ro),.string (bs x.al),.string (bs x.bm)]] w fun en w'=>∃ g : Option Addr × Nat,en = .returned (.tuple #[.slice g.1 (bdI x).length g.2,.int .i64 (ixE x)]) ∧ True ∧ HS w [] [.own (.slice g.1 (bdI x).length g.2) 3 1 (bdI x).length ((bdI x).map fun i : Nat=>Value.int .i64 (i : Int))] w':=by
 have hn9 : x.n ≤ x.al.length:=Nat.div_le_self _ _
 have hn8 : x.n = x.al.length / 512:=rfl
 refine eN1 Tryz.func47 Tryz.ntmps47 ?_
 refine aU2 ?_
 refine oBx fun b1 _=>?_
 refine aU6 ?_
 refine oCh rfl (fun w1 h1=>c56 w1 x hl hr hb) (fun ⟨⟨c1,m1,r1⟩,⟨ra,rc⟩,RL⟩ hRL=>?_)
 refine aU3 ?_
 refine oAl (fun b2 _=>?_) QeK
 refine aU9 ?_
 refine sCd rfl (fun h3=>?_) fun h3=>?_
 ·have hR : bdI x = []:=if_neg h3
  refine aU6 ?_
  exact Qs (rs:=[.tmp 2,.tmp 3]) rfl (.tmp rfl (.tmp rfl (.nil))) (fun w' h'=>⟨(none,0),by rw [hR];rfl,trivial,by rw [hR];exact (h'.nil.own_nil 3 1).ent aEt⟩)
 have hE : ixE x = 0:=h3
 obtain ⟨hA,hB,hC,hO,hLs⟩:=QgN hE
 have hb8 : x.n ≤ 8 * x.bm.length:=by have:=Y1 ((x.n + 7) / 8);omega
 have hR : bdI x = X7 x x.n:=if_pos hE
 refine aU9 ?_
 refine oCq rfl (fun w1 h1=>Qrc w1 x c1 m1 r1 ra RL.length rc (by omega)) ?_
 refine aT ?_
 refine aU3 ?_
 refine Qk (L':=[(2,_),(3,_),(4,_),(6,_),(20,_),(21,_)]) aSx (fun _ h=>h) ?_
 refine Qo (α:=Nat × Option Addr × Nat) [6,7,8,9,21,22,23,24,25,26,27,28,29,30,31,32,33,34,35,36,37,38,39,40,41] (fun y=>[(21,.int .i64 (y.1 : Int)),(6,.slice y.2.1 (X7 x (y.1 - 1)).length y.2.2)]) (fun y=>HS w [] [.own (.slice y.2.1 ((X7 x (y.1 - 1))).length y.2.2) 3 1 ((X7 x (y.1 - 1))).length (((X7 x (y.1 - 1))).map fun i : Nat=>Value.int .i64 (i : Int)),.blk b1 23 3 [.string (bs x.ro),.string (bs x.al),.string (bs x.bm)],.blk b2 108 7 [.string (bs x.ro),.string (bs x.al),.string (bs x.bm),.int .i64 c1,.int .i64 m1,.int .i64 r1,.slice ra RL.length rc]]) (fun y=>y.1 ≤ x.n + 1) (fun y=>x.n + 1 - y.1) (0,none,0) (Nat.zero_le _) aSx (fun w h=>(h.own_nil 3 1).ent aEt) (fun ⟨i,ga,gc⟩ hi1=>?_)
 dsimp only
 simp only [] at hi1
 have hkl:=Qc8 x (i - 1)
 refine aU5 ?_
 refine sCd rfl (fun h4=>?_) fun h4=>?_
 ·have hi : i < x.n + 1:=by have hq:=h4;omega
  refine QaE ?_
  refine oCq rfl (fun w1 h1=>c61 w1 x c1 m1 r1 ra RL.length rc i (by omega) hb8) ?_
  refine aU ?_
  refine sCd rfl (fun h5=>?_) fun h5=>?_
  ·have hnm9 : Y7 x i = true:=h5
   obtain ⟨hb1,hb2,hb3⟩:=Qhq hnm9
   have hbl9 : 1 ≤ i ∧ i * 512 ≤ x.al.length:=⟨hb1,hb3⟩
   have hb5:=Qei hbl9
   refine aU4 ?_
   refine oCq rfl (fun w1 h1=>c64 w1 x c1 m1 r1 ra RL.length rc i (by omega) hbl9) ?_
   refine aU ?_
   refine oCh rfl (fun w1 h1=>c63 w1 (x.blk i) ((i : Nat) : Int) (by omega)) (fun g2 hg2=>?_)
   refine aU3 ?_
   refine oAl (fun b6 _=>?_) QaH
   refine aU8 ?_
   refine sCd rfl (fun h7=>?_) fun h7=>?_
   ·have hst:=QtC hnm9 h7
    refine aU3 ?_
    refine o_h (Qm (cs:=[_]) rfl rfl Xp QcB rfl rfl rfl) rfl (fun b8 _=>?_)
    refine o_h (QK [_] rfl rfl rfl Xp Tryz.underlying28 QcB rfl aPk (Xa aPk) rfl (by intro u hu;simp only [List.mem_cons,List.mem_nil_iff,or_false] at hu;subst hu;rfl) (by omega) (by simp only [maxLen];omega)) rfl (fun b9 _=>?_)
    refine aT5 ?_
    refine aU2 ?_
    exact Qu (i + 1,b9.1,b9.2) (by (try simp only []);omega) (by (try simp only []);omega) (by dsimp only;rw [hst];simp only [List.length_append,List.length_singleton];exact aSx) (fun w h=>by have h2:=h;dsimp only;rw [hst];simp only [List.length_append,List.length_singleton,List.map_append,List.map_cons,List.map_nil];exact h2.ent aEt)
   have hst:=Qr9 (x:=x) (i:=i) (fun h9=>h9.2 h7)
   refine aT4 ?_
   refine aU2 ?_
   exact Qu (i + 1,ga,gc) (by (try simp only []);omega) (by (try simp only []);omega) (by dsimp only;rw [hst];exact aSx) (fun w h=>by dsimp only;rw [hst];exact h.ent aEt)
  have hnm9 : ¬ Y7 x i = true:=by have hq:=h5;simp [hq]
  have hst:=Qr9 (x:=x) (i:=i) (fun h9=>hnm9 h9.1)
  refine aT4 ?_
  refine aU2 ?_
  exact Qu (i + 1,ga,gc) (by (try simp only []);omega) (by (try simp only []);omega) (by dsimp only;rw [hst];exact aSx) (fun w h=>by dsimp only;rw [hst];exact h.ent aEt)
 obtain rfl : i = x.n + 1:=by have hq:=h4;omega
 refine Qh rfl ?_
 refine aU6 ?_
 exact Qs (rs:=[.tmp 2,.tmp 3]) rfl (.tmp rfl (.tmp rfl (.nil))) (fun w' h'=>⟨(ga,gc),by rw [hR,hE];rfl,trivial,by rw [hR];exact h'.ent aEt⟩)
theorem c50 (w : World) (x : Ixs) (hl : x.al.length ≤ 900000) (hb : x.bm.length ≤ 100000) : Calls Tryz.prog 50 #[.agg #[.string (bs x.ro),.string (bs x.al),.string (bs x.bm)]] w fun en w'=>∃ g : Option Addr × Nat,en = .returned (.slice g.1 (X7 x x.n).length g.2) ∧ True ∧ HS w [] [.own (.slice g.1 (X7 x x.n).length g.2) 3 1 (X7 x x.n).length ((X7 x x.n).map fun i : Nat=>Value.int .i64 (i : Int))] w':=by
 have hn9 : x.n ≤ x.al.length:=Nat.div_le_self _ _
 have hn8 : x.n = x.al.length / 512:=rfl
 refine eN1 Tryz.func50 Tryz.ntmps50 ?_
 refine aU2 ?_
 refine oBx fun b1 _=>?_
 refine QaE ?_
 refine Qo (α:=Nat × Option Addr × Nat) [3,4,5,6,7,8,9,10,11,12,13,14,15,16,17,18,19,20,21,22,23,24,25,26,27,28,29,30,31,32,33] (fun y=>[(4,.int .i64 ((y.1 + 1 : Nat) : Int)),(3,.slice y.2.1 (X7 x y.1).length y.2.2)]) (fun y=>HS w [] [.own (.slice y.2.1 ((X7 x y.1)).length y.2.2) 3 1 ((X7 x y.1)).length (((X7 x y.1)).map fun i : Nat=>Value.int .i64 (i : Int)),.blk b1 23 3 [.string (bs x.ro),.string (bs x.al),.string (bs x.bm)]]) (fun y=>y.1 ≤ x.n) (fun y=>x.n - y.1) (0,none,0) (Nat.zero_le _) aSx (fun w h=>(h.own_nil 3 1).ent aEt) (fun ⟨k,ga,gc⟩ hk1=>?_)
 dsimp only
 simp only [] at hk1
 have hkl:=Qc8 x k
 refine aU5 ?_
 refine oCq rfl (fun w1 h1=>c66 w1 x (by omega)) ?_
 refine aU2 ?_
 refine sCd rfl (fun h2=>?_) fun h2=>?_
 ·have hk : k < x.n:=by have hq:=h2;omega
  have hb5:=Qei (x:=x) (i:=k + 1) (by omega)
  refine aU7 ?_
  refine oCq rfl (fun w1 h1=>c67 w1 x (k + 1) (by omega) (by omega)) ?_
  refine aU ?_
  refine sCd rfl (fun h3=>?_) fun h3=>?_
  ·have hnm9 : Y7 x (k + 1) = true:=Qpq (by omega) (by omega) h3
   refine aU4 ?_
   refine oCq rfl (fun w1 h1=>c69 w1 x (k + 1) (by omega) (by omega)) ?_
   refine aU ?_
   refine oCh rfl (fun w1 h1=>c39 w1 (x.blk (k + 1)) ((k + 1 : Nat) : Int) (by omega)) (fun g2 hg2=>?_)
   refine aU5 ?_
   refine oAl (fun b4 _=>?_) Y6
   refine QaP ?_
   refine sCd rfl (fun h5=>?_) fun h5=>?_
   ·have hst : X7 x (k + 1) = X7 x k ++ [k + 1]:=by rw [X7,if_pos ⟨hnm9,h5⟩]
    refine aU3 ?_
    refine o_h (Qm (cs:=[_]) rfl rfl Xp QcB rfl rfl rfl) rfl (fun b6 _=>?_)
    refine o_h (QK [_] rfl rfl rfl Xp Tryz.underlying28 QcB rfl aPk (Xa aPk) rfl (by intro u hu;simp only [List.mem_cons,List.mem_nil_iff,or_false] at hu;subst hu;rfl) (by omega) (by simp only [maxLen];omega)) rfl (fun b7 _=>?_)
    refine aU3 ?_
    refine Qk (L':=[(0,_),(1,_),(2,_),(3,_),(4,_)]) aSx (fun _ h=>h) ?_
    refine aT3 ?_
    refine Qf (show _ = Value.int .i64 ((k + 1 + 1 : Nat) : Int) from congrArg (Value.int .i64) (by omega)) ?_
    refine aU2 ?_
    exact Qu (k + 1,b7.1,b7.2) (by (try simp only []);omega) (by (try simp only []);omega) (by dsimp only;rw [hst];simp only [List.length_append,List.length_singleton];exact aSx) (fun w h=>by have h2:=h;dsimp only;rw [hst];simp only [List.length_append,List.length_singleton,List.map_append,List.map_cons,List.map_nil];exact h2.ent aEt)
   have hst : X7 x (k + 1) = X7 x k:=by rw [X7,if_neg (fun h9=>h9.2 h5)]
   refine aT5 ?_
   refine Qf (show _ = Value.int .i64 ((k + 1 + 1 : Nat) : Int) from congrArg (Value.int .i64) (by omega)) ?_
   refine aU2 ?_
   exact Qu (k + 1,ga,gc) (by (try simp only []);omega) (by (try simp only []);omega) (by dsimp only;rw [hst];exact aSx) (fun w h=>by dsimp only;rw [hst];exact h.ent aEt)
  have hnm9 : ¬ Y7 x (k + 1) = true:=fun h9=>by have hq:=h3;rw [QkV h9] at hq;cases hq
  have hst : X7 x (k + 1) = X7 x k:=by rw [X7,if_neg (fun h9=>hnm9 h9.1)]
  refine aT5 ?_
  refine Qf (show _ = Value.int .i64 ((k + 1 + 1 : Nat) : Int) from congrArg (Value.int .i64) (by omega)) ?_
  refine aU2 ?_
  exact Qu (k + 1,ga,gc) (by (try simp only []);omega) (by (try simp only []);omega) (by dsimp only;rw [hst];exact aSx) (fun w h=>by dsimp only;rw [hst];exact h.ent aEt)
 obtain rfl : k = x.n:=by have hq:=h2;omega
 refine Qh rfl ?_
 refine aU5 ?_
 exact rT rfl rfl (fun w' h'=>⟨(ga,gc),rfl,trivial,h'.ent aEt⟩)
end Go.Proofs
namespace Gx
open Go Go.RowKit
def idV (i : Nat) : List Value:=[.int .i64 (i : Int)]
theorem HS.trans1 {w0 w w' : World} {M : List Nat} {As : List HA} (h0 : HS w0 M [] w) (h : HS w M As w') : HS w0 M [] w':=
 ⟨h.os.trans h0.os,h.tape.trans h0.tape,h.output.trans h0.output,Nat.le_trans h0.size h.size,fun b hb hm=>(h.old b (Nat.lt_of_lt_of_le hb h0.size) hm).trans (h0.old b hb hm),fun _ h=>(by cases h),fun _ h=>(by cases h),.nil⟩
section
variable {vv : Nat → List Value} {sz : Nat} {J : List Nat} {p q k : Nat}
theorem nget {J : List Nat} {k : Nat} (h : k < J.length) : J[k]? = some (J.getD k 0):=by
 rw [List.getD_eq_getElem?_getD,List.getElem?_eq_getElem h];rfl
theorem XN (hv : ∀ i,(vv i).length = sz) {w0 w : World} {M : List Nat} {As As' : List HA} {b t tot : Nat} (h : HS w0 M As w) (hp : QD As (.blk b t tot (J.flatMap vv)) As') (hk : k < J.length) : ∀ j v,(vv (J.getD k 0))[j]? = some v → Rd w [] b (0 + k * sz + j) v:=fun j v hj=>by
 have hlt : j < sz:=by
  rcases Nat.lt_or_ge j (vv (J.getD k 0)).length with h | h
  ·rwa [hv] at h
  ·rw [List.getElem?_eq_none h] at hj;cases hj
 rw [Nat.zero_add];exact h.rd_blk (Mc:=[]) hp (by rw [Qbh hv _ k j _ (nget hk) hlt];exact hj) (by simp)
theorem QmB (hv : ∀ i,(vv i).length = sz) (hp : p < J.length) (hq : q < J.length) : Qe (Qe (J.flatMap vv) (0 + p * sz) (vv (J.getD q 0))) (0 + q * sz) (vv (J.getD p 0)) = (swp J p q).flatMap vv:=by
 have one : ∀ (K : List Nat) (k y : Nat),k < K.length → Qe (K.flatMap vv) (0 + k * sz) (vv y) = (K.set k y).flatMap vv:=fun K k y hk=>by
  have h:=QcR hv K k 0 (vv y) (K.getD k 0) y (nget hk) (by
   have e1:=hv (K.getD k 0);have e2:=hv y;rw [ZT _ _ _ (by omega),List.take_zero,List.drop_eq_nil_of_le (by omega)];simp) (by rw [hv];omega)
  rw [Nat.add_zero] at h;rw [Nat.zero_add];exact h
 rw [one J p _ hp,one _ q _ (by rw [List.length_set];exact hq)];rfl
theorem Qes {w0 w : World} {M : List Nat} {As : List HA} {b t tot : Nat} (hv : ∀ i,(vv i).length = sz) (hp : p < J.length) (hq : q < J.length) (h : HS w0 M (.blk b t tot (Qe (Qe (J.flatMap vv) (0 + p * sz) (vv (J.getD q 0))) (0 + q * sz) (vv (J.getD p 0))) :: As) w) : HS w0 M (.blk b t tot ((swp J p q).flatMap vv) :: As) w:=by
 rw [QmB hv hp hq] at h;exact h
end
end Gx
namespace Go.Proofs
open Go Go.RowKit Gx
attribute [local irreducible] Go.Calls Gx.S Gx.O Gx.D Gx.OpP Gx.OpQ Gx.OpH
set_option maxRecDepth 20000
theorem QjA : QM Tryz.prog 267 = true:=by kernel_rfl
theorem QtG : QM Tryz.prog 253 = true:=by kernel_rfl
theorem Qhw : QM Tryz.prog 223 = true:=by kernel_rfl
theorem Qkb : QM Tryz.prog 222 = true:=by kernel_rfl
instance : TFn Tryz.prog 222:=⟨Qkb⟩
theorem QnJ : QM Tryz.prog 177 = true:=by kernel_rfl
instance : TFn Tryz.prog 177:=⟨QnJ⟩
def sV (l : List TEnt) (i : Nat) : List Value:=TEnt.vals (nth l i)
theorem Xj (l : List TEnt) (i : Nat) : (sV l i).length = 2:=rfl
theorem Qud (w : World) (l : List TEnt) (b n cap tot N : Nat) (I : List Nat) (x y k : Nat) (fv : Value) (hI : QQ N n I) (hw : HS w [b] [.blk b 27 tot ((I).flatMap (sV l))] w) (hn : n ≤ 1000000) (hx : x + k ≤ n) (hy : y + k ≤ n) : Calls Tryz.prog 267 #[.slice (some ⟨b,0,none⟩) n cap,.int .i64 (x : Int),.int .i64 (y : Int),.int .i64 (k : Int),fv] w fun en w'=>∃ g : Unit,en = .returned (.tuple #[]) ∧ True ∧ HS w [b] [.blk b 27 tot ((swr k x y I).flatMap (sV l))] w':=by
 refine eW5 Tryz.func267 Tryz.ntmps267 hw ?_
 refine aU5 ?_
 refine Qo (α:=Nat × List Nat) [10,11,12,13,14,15,16,17,18,19,20,21,22,23,24,25,26,27,28,29,30,31,32,33,34,35,36,37] (fun z=>[(10,.int .i64 (z.1 : Int))]) (fun z=>HS w [b] [.blk b 27 tot ((z.2).flatMap (sV l))]) (fun z=>z.1 ≤ k ∧ QQ N n z.2 ∧ swr (k - z.1) (x + z.1) (y + z.1) z.2 = swr k x y I) (fun z=>k - z.1) (0,I) ⟨Nat.zero_le _,hI,rfl⟩ aSx (fun w h=>h.ent aEt) (fun ⟨i,J⟩ hz=>?_)
 dsimp only
 obtain ⟨hi,hJ,hR⟩:=hz
 simp only [] at hi hJ hR
 refine aU7 ?_
 refine sCd rfl (fun h1=>?_) fun h1=>?_
 ·refine aU3 ?_
  refine QF [21,23] QV ?_
  refine dP 0 ?_
  refine dP 1 ?_
  refine dP 2 ?_
  refine dP 3 ?_
  try refine dWr ?_
  refine dP 4 ?_
  refine dP 5 ?_
  refine dP 6 ?_
  refine dP 7 ?_
  try refine dWr ?_
  refine dP 8 ?_
  refine dP 9 ?_
  refine dP 10 ?_
  refine dP 11 ?_
  try refine dWr ?_
  refine dV 12 rfl (Qc rfl rfl rfl Qn (y + i) (by omega) (by omega) rfl) ?_
  refine dQ 13 [[],[]] rfl (Qx _ rfl rfl Xc rfl (fun w h=>XN (Xj l) h aPk (k:=y + i) (by have h9:=hJ.1;omega))) ?_
  refine dP 14 ?_
  refine dP 15 ?_
  refine dP 16 ?_
  refine dP 17 ?_
  try refine dWr ?_
  refine dV 18 rfl (Qc rfl rfl rfl Qn (x + i) (by omega) (by omega) rfl) ?_
  refine dQ 19 [[],[]] rfl (Qx _ rfl rfl Xc rfl (fun w h=>XN (Xj l) h aPk (k:=x + i) (by have h9:=hJ.1;omega))) ?_
  refine dV 20 rfl (Qc rfl rfl rfl Qn (x + i) (by omega) (by omega) rfl) ?_
  refine QfV 21 rfl (X9 rfl rfl rfl Xc rfl aPt (by (try rw [Qd]);rw [Qr (Xj l)];have h9:=hJ.1;have h8 : (x + i) * 2 + 2 ≤ n * 2:=(by omega);omega) rfl) (by kernel_rfl) (fun w h=>h.ent aEt) (fun _ _=>?_)
  refine dTu [23] ?_
  refine dV 22 rfl (Qc rfl rfl rfl Qn (y + i) (by omega) (by omega) rfl) ?_
  refine QfV 23 rfl (X9 rfl rfl rfl Xc rfl aPt (by (try rw [Qd]);rw [Qr (Xj l)];have h9:=hJ.1;have h8 : (y + i) * 2 + 2 ≤ n * 2:=(by omega);omega) rfl) (by kernel_rfl) (fun w h=>h.ent aEt) (fun _ _=>?_)
  refine dTu [] ?_
  refine dNi ?_
  refine aU ?_
  refine Qk (L':=[(0,_),(1,_),(2,_),(3,_),(4,_),(10,_)]) aSx (fun _ h=>h) ?_
  refine aT3 ?_
  refine aU2 ?_
  exact Qu (i + 1,swp J (x + i) (y + i)) (by (try simp only []);omega) ⟨by (try simp only []);omega,hJ.swp _ _,by rw [← hR,show k - i = (k - (i + 1)) + 1 by omega,swr];rfl⟩ aSx (fun w h=>by exact Qes (vv:=(sV l)) (J:=J) (p:=x + i) (q:=y + i) (Xj l) (by have h9:=hJ.1;omega) (by have h9:=hJ.1;omega) h)
 refine Qh rfl ?_
 exact YY rfl (fun w' h'=>⟨(),rfl,trivial,by obtain rfl : i = k:=(by omega);rw [Nat.sub_self] at hR;rw [← hR];exact h'⟩)
theorem c253 (w : World) (l : List TEnt) (b n cap tot N : Nat) (I : List Nat) (x m y : Nat) (fv : Value) (hI : QQ N n I) (hw : HS w [b] [.blk b 27 tot ((I).flatMap (sV l))] w) (hn : n ≤ 1000000) (hxm : x < m) (hmy : m < y) (hy : y ≤ n) : Calls Tryz.prog 253 #[.slice (some ⟨b,0,none⟩) n cap,.int .i64 (x : Int),.int .i64 (m : Int),.int .i64 (y : Int),fv] w fun en w'=>∃ g : Unit,en = .returned (.tuple #[]) ∧ True ∧ HS w [b] [.blk b 27 tot ((rot x m y I).flatMap (sV l))] w':=by
 refine eW5 Tryz.func253 Tryz.ntmps253 hw ?_
 refine aT5 ?_
 refine Qf (show _ = Value.int .i64 ((m - x : Nat) : Int) from by first | rfl | (congr 1;omega)) ?_
 refine aT7 ?_
 refine Qf (show _ = Value.int .i64 ((y - m : Nat) : Int) from by first | rfl | (congr 1;omega)) ?_
 refine aU4 ?_
 refine Qo (α:=Nat × Nat × Nat × List Nat) [10,11,18,19,20,21,22,23,24,25,26,27,28,29,30,31,32,33,34,35,36,37,38,39,40,41,42,43,44,45,46,47,48,49] (fun z=>[(10,.int .i64 (z.2.1 : Int)),(11,.int .i64 (z.2.2.1 : Int))]) (fun z=>HS w [b] [.blk b 27 tot ((z.2.2.2).flatMap (sV l))]) (fun z=>0 < z.2.1 ∧ 0 < z.2.2.1 ∧ z.2.1 + z.2.2.1 ≤ z.1 ∧ z.2.1 ≤ m ∧ m + z.2.2.1 ≤ y ∧ QQ N n z.2.2.2 ∧ rotS z.1 z.2.1 z.2.2.1 m z.2.2.2 = rot x m y I) (fun z=>z.1) ((m - x) + (y - m),m - x,y - m,I) ⟨by (try simp only []);omega,by (try simp only []);omega,Nat.le_refl _,by (try simp only []);omega,by (try simp only []);omega,hI,rfl⟩ aSx (fun w h=>h.ent aEt) (fun ⟨f,i,j,J⟩ hz=>?_)
 dsimp only
 obtain ⟨hi,hj,hf9,him,hjy,hJ,hR⟩:=hz
 simp only [] at hi hj hf9 him hjy hJ hR
 obtain ⟨g,rfl⟩ : ∃ g,f = g + 1:=⟨f - 1,by omega⟩
 refine aU7 ?_
 refine sCd rfl (fun h1=>?_) fun h1=>?_
 ·refine aU8 ?_
  refine sCd rfl (fun h2=>?_) fun h2=>?_
  ·refine aT6 ?_
   refine Qf (show _ = Value.int .i64 ((m - i : Nat) : Int) from by first | rfl | (congr 1;omega)) ?_
   refine aU3 ?_
   refine o_h (QH (Cs:=[.blk b 27 tot ((J).flatMap (sV l))]) rfl QjA rfl aPs (fun w1 h1 hf=>Qud w1 l b n cap tot N J (m - i) (m) (j) _ hJ hf hn (by omega) (by omega))) rfl (fun _ _=>?_)
   refine aT5 ?_
   refine Qf (show _ = Value.int .i64 ((i - j : Nat) : Int) from by first | rfl | (congr 1;omega)) ?_
   refine aU3 ?_
   exact sBk (g,i - j,j,swr j (m - i) m J) (by (try simp only []);omega) ⟨by (try simp only []);omega,hj,by (try simp only []);omega,by (try simp only []);omega,hjy,hJ.swr _ _ _,by rw [← hR,rotS,if_neg (by omega),if_pos (by omega)]⟩
  refine aT6 ?_
  refine Qf (show _ = Value.int .i64 ((m - i : Nat) : Int) from by first | rfl | (congr 1;omega)) ?_
  refine aT3 ?_
  refine aT2 ?_
  refine Qf (show _ = Value.int .i64 ((m + j - i : Nat) : Int) from by first | rfl | (congr 1;omega)) ?_
  refine aU2 ?_
  refine o_h (QH (Cs:=[.blk b 27 tot ((J).flatMap (sV l))]) rfl QjA rfl aPs (fun w1 h1 hf=>Qud w1 l b n cap tot N J (m - i) (m + j - i) (i) _ hJ hf hn (by omega) (by omega))) rfl (fun _ _=>?_)
  refine aU ?_
  refine Qk (L':=[(0,_),(1,_),(2,_),(3,_),(4,_),(10,_),(11,_),(12,_),(13,_),(14,_),(15,_),(16,_),(17,_)]) aSx (fun _ h=>h) ?_
  refine aT4 ?_
  refine Qf (show _ = Value.int .i64 ((j - i : Nat) : Int) from by first | rfl | (congr 1;omega)) ?_
  refine aU3 ?_
  exact sBk (g,i,j - i,swr i (m - i) (m + j - i) J) (by (try simp only []);omega) ⟨hi,by (try simp only []);omega,by (try simp only []);omega,him,by (try simp only []);omega,hJ.swr _ _ _,by rw [← hR,rotS,if_neg (by omega),if_neg (by omega)]⟩
 refine Qh rfl ?_
 refine aT5 ?_
 refine Qf (show _ = Value.int .i64 ((m - i : Nat) : Int) from by first | rfl | (congr 1;omega)) ?_
 refine aU3 ?_
 refine o_h (QH (Cs:=[.blk b 27 tot ((J).flatMap (sV l))]) rfl QjA rfl aPs (fun w1 h1 hf=>Qud w1 l b n cap tot N J (m - i) (m) (i) _ hJ hf hn (by omega) (by omega))) rfl (fun _ _=>?_)
 refine aU ?_
 exact YY rfl (fun w' h'=>⟨(),rfl,trivial,by rw [← hR,rotS,if_pos (by omega)];exact h'.ent aEt⟩)
theorem c222 (w : World) (l : List TEnt) (b n cap tot N : Nat) (I : List Nat) (x y : Nat) (w00 : World) (q : Nat) (cv : Array Value) (c : Nat → Nat → Int) (hI : QQ N n I) (hw : HS w [b] [.blk b 27 tot ((I).flatMap (sV l))] w) (hn : n ≤ 1000000) (hxy : x ≤ y) (hy : y ≤ n) (h0 : HS w00 [b] [] w) (hq : QM Tryz.prog q = true) (hc : ∀ p p1 w1,p < N → p1 < N → HS w00 [b] [] w1 → Calls Tryz.prog q (#[] ++ [.agg (sV l (p)).toArray,.agg (sV l (p1)).toArray].toArray ++ cv) w1 fun en w2=>en = .returned (.int .i64 (c p p1)) ∧ Below w1.heap.size w1 w2) : Calls Tryz.prog 222 #[.slice (some ⟨b,0,none⟩) n cap,.int .i64 (x : Int),.int .i64 (y : Int),.func (.func q) #[] cv] w fun en w'=>∃ g : Unit,en = .returned (.tuple #[]) ∧ True ∧ HS w [b] [.blk b 27 tot ((ins c x y I).flatMap (sV l))] w':=by
 refine eW4 Tryz.func222 Tryz.ntmps222 hw ?_
 refine aT4 ?_
 refine aU3 ?_
 refine Qo (α:=Nat × List Nat) [8,9,12,13,14,15,16,17,18,19,20,21,22,23,24,25,26,27,28,29,30,31,32,33,34,35,36,37,38,39,40,41,42,43,44,45,46,47,48,49,50,51,52] (fun z=>[(8,.int .i64 (z.1 : Int))]) (fun z=>HS w [b] [.blk b 27 tot ((z.2).flatMap (sV l))]) (fun z=>x + 1 ≤ z.1 ∧ QQ N n z.2 ∧ insS c x (y - z.1) z.1 z.2 = ins c x y I) (fun z=>y - z.1) (x + 1,I) ⟨Nat.le_refl _,hI,rfl⟩ aSx (fun w h=>h.ent aEt) (fun ⟨i,J⟩ hz=>?_)
 dsimp only
 obtain ⟨hi,hJ,hR⟩:=hz
 simp only [] at hi hJ hR
 refine aU7 ?_
 refine sCd rfl (fun h1=>?_) fun h1=>?_
 ·refine aU9 ?_
  refine Qo (α:=Nat × List Nat) [9,18,19,20,21,22,23,24,25,26,27,28,29,30,31,32,33,34,35,36,37,38,39,40,41,42,43,44,45,46,47,48,49,50,51,52] (fun z=>[(9,.int .i64 (z.1 : Int))]) (fun z=>HS w [b] [.blk b 27 tot ((z.2).flatMap (sV l))]) (fun z=>x ≤ z.1 ∧ z.1 ≤ i ∧ QQ N n z.2 ∧ bub c x z.1 z.2 = bub c x i J) (fun z=>z.1) (i,J) ⟨by (try simp only []);omega,Nat.le_refl _,hJ,rfl⟩ aSx (fun w h=>h.ent aEt) (fun ⟨j,K⟩ hz=>?_)
  dsimp only
  obtain ⟨hj,hji,hK,hB⟩:=hz
  simp only [] at hj hji hK hB
  refine aU2 ?_
  refine QhB (α:=Bool) [18,19,20,21,22,23,24,25,26,27,28,29,30,31,32,33,34] (fun z=>[(34,.bool z)]) (fun z=>z = decide (x < j ∧ c (K.getD j 0) (K.getD (j - 1) 0) < 0)) ?_ ?_
  ·skip
   refine QF [] QV ?_
   refine dP 0 ?_
   refine dP 1 ?_
   refine dP 2 ?_
   refine dP 3 ?_
   apply Qbz 21
   ·exact rfl
   ·intro hg2
    have hs3:=hg2;try simp only [dT] at hs3
    refine dPo 4 21 hg2 ?_
    refine dPo 5 21 hg2 ?_
    refine dPo 6 21 hg2 ?_
    refine dVo 7 21 hg2 rfl rfl rfl (Qc rfl rfl rfl Qn (j) (by omega) (by omega) rfl) ?_
    refine dQo 8 21 [] hg2 rfl rfl rfl (Qx _ rfl rfl Xc rfl (fun w h=>XN (Xj l) h aPk (k:=j) (by have h9:=hK.1;omega))) ?_
    refine dPo 9 21 hg2 ?_
    refine dPo 10 21 hg2 ?_
    refine dPo 11 21 hg2 ?_
    try refine dWr ?_
    refine dVo 12 21 hg2 rfl rfl rfl (Qc rfl rfl rfl Qn (j - 1) (by omega) (by omega) rfl) ?_
    refine dQo 13 21 [] hg2 rfl rfl rfl (Qx _ rfl rfl Xc rfl (fun w h=>XN (Xj l) h aPk (k:=j - 1) (by have h9:=hK.1;omega))) ?_
    refine dQo 14 21 [] hg2 rfl rfl rfl (Yb rfl rfl hq rfl (fun w1 h1=>hc (K.getD (j) 0) (K.getD (j - 1) 0) w1 (hK.get (by omega)) (hK.get (by omega)) (h0.trans1 h1))) ?_
    refine dPo 15 21 hg2 ?_
    refine dV 16 rfl (Zz rfl rfl hg2 rfl) ?_
    refine dNi ?_
    exact QA (decide (c (K.getD j 0) (K.getD (j - 1) 0) < 0)) (by have hq9 : x < j:=(by have hq:=hg2;simp at hq;omega);simp [hq9]) aSx (fun w h=>h.ent aEt)
   intro hg4
   have hs5:=hg4;try simp only [dN] at hs5
   refine dOf 4 21 hg4 ?_
   refine dOf 5 21 hg4 ?_
   refine dOf 6 21 hg4 ?_
   refine dOf 7 21 hg4 ?_
   refine dOf 8 21 hg4 ?_
   refine dOf 9 21 hg4 ?_
   refine dOf 10 21 hg4 ?_
   refine dOf 11 21 hg4 ?_
   refine dOf 12 21 hg4 ?_
   refine dOf 13 21 hg4 ?_
   refine dOf 14 21 hg4 ?_
   refine dOf 15 21 hg4 ?_
   refine dV 16 rfl (ZC rfl rfl hg4 rfl) ?_
   refine dNi ?_
   exact QA false (by have hq9 : ¬ x < j:=(by have hq:=hg4;simp at hq;omega);simp [hq9]) aSx (fun w h=>h.ent aEt)
  intro z9 hz9
  subst hz9
  refine sCd rfl (fun h6=>?_) fun h6=>?_
  ·have hcc : x < j ∧ c (K.getD j 0) (K.getD (j - 1) 0) < 0:=by simpa using h6
   refine aU3 ?_
   refine QF [15,17] QV ?_
   refine dP 0 ?_
   refine dP 1 ?_
   refine dP 2 ?_
   refine dP 3 ?_
   refine dP 4 ?_
   try refine dWr ?_
   refine dP 5 ?_
   refine dP 6 ?_
   refine dP 7 ?_
   try refine dWr ?_
   refine dV 8 rfl (Qc rfl rfl rfl Qn (j - 1) (by omega) (by omega) rfl) ?_
   refine dQ 9 [[],[]] rfl (Qx _ rfl rfl Xc rfl (fun w h=>XN (Xj l) h aPk (k:=j - 1) (by have h9:=hK.1;omega))) ?_
   refine dP 10 ?_
   refine dP 11 ?_
   refine dV 12 rfl (Qc rfl rfl rfl Qn (j) (by omega) (by omega) rfl) ?_
   refine dQ 13 [[],[]] rfl (Qx _ rfl rfl Xc rfl (fun w h=>XN (Xj l) h aPk (k:=j) (by have h9:=hK.1;omega))) ?_
   refine dV 14 rfl (Qc rfl rfl rfl Qn (j) (by omega) (by omega) rfl) ?_
   refine QfV 15 rfl (X9 rfl rfl rfl Xc rfl aPt (by (try rw [Qd]);rw [Qr (Xj l)];have h9:=hK.1;have h8 : (j) * 2 + 2 ≤ n * 2:=(by omega);omega) rfl) (by kernel_rfl) (fun w h=>h.ent aEt) (fun _ _=>?_)
   refine dTu [17] ?_
   refine dV 16 rfl (Qc rfl rfl rfl Qn (j - 1) (by omega) (by omega) rfl) ?_
   refine QfV 17 rfl (X9 rfl rfl rfl Xc rfl aPt (by (try rw [Qd]);rw [Qr (Xj l)];have h9:=hK.1;have h8 : (j - 1) * 2 + 2 ≤ n * 2:=(by omega);omega) rfl) (by kernel_rfl) (fun w h=>h.ent aEt) (fun _ _=>?_)
   refine dTu [] ?_
   refine dNi ?_
   refine aT4 ?_
   refine aU2 ?_
   exact Qu (j - 1,swp K j (j - 1)) (by (try simp only []);omega) ⟨by (try simp only []);omega,by (try simp only []);omega,hK.swp _ _,by rw [← hB];exact (Qts (c:=c) hcc).symm⟩ (by refine ZA (congrArg (fun e=>some (Value.int .i64 e)) (show (j : Int) - 1 = ((j - 1 : Nat) : Int) by omega)) ?_;repeat (first | exact QeU | refine ZA rfl ?_)) (fun w h=>by exact Qes (vv:=(sV l)) (J:=K) (p:=j) (q:=j - 1) (Xj l) (by have h9:=hK.1;omega) (by have h9:=hK.1;omega) h)
  have hcc : ¬ (x < j ∧ c (K.getD j 0) (K.getD (j - 1) 0) < 0):=by simpa using h6
  have hE : bub c x j K = K:=Qq2 (c:=c) hj hcc
  refine Qh rfl ?_
  refine aT4 ?_
  refine aU2 ?_
  exact sBk (i + 1,K) (by (try simp only []);omega) ⟨by (try simp only []);omega,hK,by rw [← hR,show y - i = (y - (i + 1)) + 1 by omega,insS,← hB,hE]⟩
 refine Qh rfl ?_
 exact YY rfl (fun w' h'=>⟨(),rfl,trivial,by rw [show y - i = 0 by omega] at hR;rw [← hR];exact h'⟩)
set_option maxHeartbeats 4000000 in
theorem QvC (w : World) (l : List TEnt) (b n cap tot N : Nat) (I : List Nat) (f x m y : Nat) (w00 : World) (q : Nat) (cv : Array Value) (c : Nat → Nat → Int) (hI : QQ N n I) (hw : HS w [b] [.blk b 27 tot ((I).flatMap (sV l))] w) (hn : n ≤ 1000000) (hxm : x < m) (hmy : m < y) (hy : y ≤ n) (hf0 : y - x ≤ f + 1) (h0 : HS w00 [b] [] w) (hq : QM Tryz.prog q = true) (hc : ∀ p p1 w1,p < N → p1 < N → HS w00 [b] [] w1 → Calls Tryz.prog q (#[] ++ [.agg (sV l (p)).toArray,.agg (sV l (p1)).toArray].toArray ++ cv) w1 fun en w2=>en = .returned (.int .i64 (c p p1)) ∧ Below w1.heap.size w1 w2) (hrec : ∀ (w1 : World) (J : List Nat) (x1 m1 y1 : Nat),QQ N n J → HS w00 [b] [] w1 → HS w1 [b] [.blk b 27 tot ((J).flatMap (sV l))] w1 → x1 < m1 → m1 < y1 → y1 ≤ n → y1 - x1 ≤ f → Calls Tryz.prog 223 #[.slice (some ⟨b,0,none⟩) n cap,.int .i64 (x1 : Int),.int .i64 (m1 : Int),.int .i64 (y1 : Int),.func (.func q) #[] cv] w1 fun en w2=>∃ g : Unit,en = .returned (.tuple #[]) ∧ True ∧ HS w1 [b] [.blk b 27 tot ((symM c f x1 m1 y1 J).flatMap (sV l))] w2) : Calls Tryz.prog 223 #[.slice (some ⟨b,0,none⟩) n cap,.int .i64 (x : Int),.int .i64 (m : Int),.int .i64 (y : Int),.func (.func q) #[] cv] w fun en w'=>∃ g : Unit,en = .returned (.tuple #[]) ∧ True ∧ HS w [b] [.blk b 27 tot ((symM c (f + 1) x m y I).flatMap (sV l))] w':=by
 refine eW5 Tryz.func223 Tryz.ntmps223 hw ?_
 refine aT6 ?_
 refine Qf (show _ = Value.int .i64 ((m - x : Nat) : Int) from by first | rfl | (congr 1;omega)) ?_
 refine aU2 ?_
 refine sCd rfl (fun h1=>?_) fun h1=>?_
 ·refine QaE ?_
  refine Qo (α:=Nat × Nat × Nat) [10,11,12,31,32,33,34,35,36,37,38,39,40,41,42,43,44,45,46,47,48,49,50,51,52,53] (fun z=>[(10,.int .i64 (z.2.1 : Int)),(11,.int .i64 (z.2.2 : Int))]) (fun _=>HS w [b] [.blk b 27 tot ((I).flatMap (sV l))]) (fun z=>m ≤ z.2.1 ∧ z.2.1 ≤ z.2.2 ∧ z.2.2 ≤ y ∧ z.2.2 - z.2.1 ≤ z.1 ∧ Yv (p1 c I x) z.1 z.2.1 z.2.2 = Yv (p1 c I x) (y - m) m y) (fun z=>z.1) (y - m,m,y) ⟨Nat.le_refl _,by (try simp only []);omega,Nat.le_refl _,by (try simp only []);omega,rfl⟩ aSx (fun w h=>h.ent aEt) (fun ⟨f9,i,j⟩ hz=>?_)
  dsimp only
  obtain ⟨hi1,hi2,hi3,hi4,hR⟩:=hz
  simp only [] at hi1 hi2 hi3 hi4 hR
  refine aU7 ?_
  refine sCd rfl (fun h2=>?_) fun h2=>?_
  ·obtain ⟨g9,rfl,hS9⟩:=QdD (p:=p1 c I x) (show i < j by omega) hi4
   refine aT7 ?_
   refine o_p (Qg rfl rfl Yf Qbq) rfl ?_
   rw [show IntKind.u64.wrap ((i : Int) + (j : Int)) = ((i + j : Nat) : Int) from QgJ _ (by omega)]
   refine o_p (Qam rfl rfl rfl (by decide) 1 rfl) rfl ?_
   refine o_p (Qg rfl rfl Qbq Yf) rfl ?_
   try refine oWr ?_
   refine Qf (show _ = Value.int .i64 (((i + j) / 2 : Nat) : Int) from by congr 1) ?_
   refine aU3 ?_
   refine QF [] QV ?_
   refine dP 0 ?_
   refine dP 1 ?_
   refine dP 2 ?_
   refine dV 3 rfl (Qc rfl rfl rfl Qn ((i + j) / 2) (by omega) (by omega) rfl) ?_
   refine dQ 4 [] rfl (Qx _ rfl rfl Xc rfl (fun w h=>XN (Xj l) h aPk (k:=(i + j) / 2) (by have h9:=hI.1;omega))) ?_
   refine dP 5 ?_
   refine dP 6 ?_
   refine dV 7 rfl (Qc rfl rfl rfl Qn (x) (by omega) (by omega) rfl) ?_
   refine dQ 8 [] rfl (Qx _ rfl rfl Xc rfl (fun w h=>XN (Xj l) h aPk (k:=x) (by have h9:=hI.1;omega))) ?_
   refine dQ 9 [] rfl (Yb rfl rfl hq rfl (fun w1 h1=>hc (I.getD ((i + j) / 2) 0) (I.getD (x) 0) w1 (hI.get (by omega)) (hI.get (by omega)) (h0.trans1 h1))) ?_
   refine dP 10 ?_
   refine dNi ?_
   refine sCd rfl (fun h3=>?_) fun h3=>?_
   ·refine Qk (L':=[(0,_),(1,_),(2,_),(3,_),(4,_),(10,_),(11,_),(12,_),(25,_),(26,_),(27,_),(28,_),(29,_),(30,_)]) aSx (fun _ h=>h) ?_
    refine aT3 ?_
    refine aU3 ?_
    exact sBk (g9,(i + j) / 2 + 1,j) (by (try simp only []);omega) ⟨by (try simp only []);omega,by (try simp only []);omega,hi3,by (try simp only []);omega,by rw [← hR,hS9,if_pos (by unfold p1;simpa using h3)]⟩ (by refine ZA (congrArg (fun e=>some (Value.int .i64 e)) (show (((i + j) / 2 : Nat) : Int) + 1 = (((i + j) / 2 + 1 : Nat) : Int) by omega)) ?_;repeat (first | exact QeU | refine ZA rfl ?_))
   refine Qk (L':=[(0,_),(1,_),(2,_),(3,_),(4,_),(10,_),(11,_),(12,_),(25,_),(26,_),(27,_),(28,_),(29,_),(30,_)]) aSx (fun _ h=>h) ?_
   refine aU5 ?_
   exact sBk (g9,i,(i + j) / 2) (by (try simp only []);omega) ⟨hi1,by (try simp only []);omega,by (try simp only []);omega,by (try simp only []);omega,by rw [← hR,hS9,if_neg (by unfold p1;simpa using h3)]⟩
  have hE9 : Yv (p1 c I x) (y - m) m y = i:=by rw [← hR,Qfx (by omega)]
  refine Qh rfl ?_
  refine aU7 ?_
  refine Qo (α:=Nat × List Nat) [13,55,56,57,58,59,60,61,62,63,64,65,66,67,68,69,70,71,72,73,74,75,76] (fun z=>[(13,.int .i64 (z.1 : Int))]) (fun z=>HS w [b] [.blk b 27 tot ((z.2).flatMap (sV l))]) (fun z=>x ≤ z.1 ∧ z.1 ≤ i - 1 ∧ QQ N n z.2 ∧ mvR (i - 1 - z.1) z.1 z.2 = mvR (i - 1 - x) x I) (fun z=>i - 1 - z.1) (x,I) ⟨Nat.le_refl _,by (try simp only []);omega,hI,rfl⟩ aSx (fun w h=>h.ent aEt) (fun ⟨k,J⟩ hz=>?_)
  dsimp only
  obtain ⟨hk1,hk2,hJ,hR2⟩:=hz
  simp only [] at hk1 hk2 hJ hR2
  refine aT6 ?_
  refine aU2 ?_
  refine sCd rfl (fun h4=>?_) fun h4=>?_
  ·refine aU3 ?_
   refine QF [15,17] QV ?_
   refine dP 0 ?_
   refine dP 1 ?_
   refine dP 2 ?_
   refine dP 3 ?_
   refine dP 4 ?_
   try refine dWr ?_
   refine dP 5 ?_
   refine dP 6 ?_
   refine dP 7 ?_
   try refine dWr ?_
   refine dV 8 rfl (Qc rfl rfl rfl Qn (k + 1) (by omega) (by omega) rfl) ?_
   refine dQ 9 [[],[]] rfl (Qx _ rfl rfl Xc rfl (fun w h=>XN (Xj l) h aPk (k:=k + 1) (by have h9:=hJ.1;omega))) ?_
   refine dP 10 ?_
   refine dP 11 ?_
   refine dV 12 rfl (Qc rfl rfl rfl Qn (k) (by omega) (by omega) rfl) ?_
   refine dQ 13 [[],[]] rfl (Qx _ rfl rfl Xc rfl (fun w h=>XN (Xj l) h aPk (k:=k) (by have h9:=hJ.1;omega))) ?_
   refine dV 14 rfl (Qc rfl rfl rfl Qn (k) (by omega) (by omega) rfl) ?_
   refine QfV 15 rfl (X9 rfl rfl rfl Xc rfl aPt (by (try rw [Qd]);rw [Qr (Xj l)];have h9:=hJ.1;have h8 : (k) * 2 + 2 ≤ n * 2:=(by omega);omega) rfl) (by kernel_rfl) (fun w h=>h.ent aEt) (fun _ _=>?_)
   refine dTu [17] ?_
   refine dV 16 rfl (Qc rfl rfl rfl Qn (k + 1) (by omega) (by omega) rfl) ?_
   refine QfV 17 rfl (X9 rfl rfl rfl Xc rfl aPt (by (try rw [Qd]);rw [Qr (Xj l)];have h9:=hJ.1;have h8 : (k + 1) * 2 + 2 ≤ n * 2:=(by omega);omega) rfl) (by kernel_rfl) (fun w h=>h.ent aEt) (fun _ _=>?_)
   refine dTu [] ?_
   refine dNi ?_
   refine aU ?_
   refine Qk (L':=[(0,_),(1,_),(2,_),(3,_),(4,_),(10,_),(11,_),(13,_),(25,_),(26,_),(27,_),(28,_),(29,_),(30,_),(31,_),(32,_),(33,_),(54,_)]) aSx (fun _ h=>h) ?_
   refine aT3 ?_
   refine aU2 ?_
   exact Qu (k + 1,swp J k (k + 1)) (by (try simp only []);omega) ⟨by (try simp only []);omega,by (try simp only []);omega,hJ.swp _ _,by rw [← hR2,show i - 1 - k = (i - 1 - (k + 1)) + 1 by omega,mvR]⟩ aSx (fun w h=>by exact Qes (vv:=(sV l)) (J:=J) (p:=k) (q:=k + 1) (Xj l) (by have h9:=hJ.1;omega) (by have h9:=hJ.1;omega) h)
  refine Qh rfl ?_
  exact Qpb rfl (fun w' h'=>⟨(),rfl,trivial,by rw [symM,if_pos (by omega),hE9];obtain rfl : k = i - 1:=(by omega);rw [Nat.sub_self] at hR2;rw [show i - 1 - x = i - 1 - x from rfl,← hR2];exact h'⟩)
 refine aT7 ?_
 refine Qf (show _ = Value.int .i64 ((y - m : Nat) : Int) from by first | rfl | (congr 1;omega)) ?_
 refine aU2 ?_
 refine sCd rfl (fun h5=>?_) fun h5=>?_
 ·refine QaE ?_
  refine Qk (L':=[(0,_),(1,_),(2,_),(3,_),(4,_),(14,_),(15,_)]) aSx (fun _ h=>h) ?_
  refine Qo (α:=Nat × Nat × Nat) [14,15,16,83,84,85,86,87,88,89,90,91,92,93,94,95,96,97,98,99,100,101,102,103,104,105,106] (fun z=>[(14,.int .i64 (z.2.1 : Int)),(15,.int .i64 (z.2.2 : Int))]) (fun _=>HS w [b] [.blk b 27 tot ((I).flatMap (sV l))]) (fun z=>x ≤ z.2.1 ∧ z.2.1 ≤ z.2.2 ∧ z.2.2 ≤ m ∧ z.2.2 - z.2.1 ≤ z.1 ∧ Yv (p2 c I m) z.1 z.2.1 z.2.2 = Yv (p2 c I m) (m - x) x m) (fun z=>z.1) (m - x,x,m) ⟨Nat.le_refl _,by (try simp only []);omega,Nat.le_refl _,by (try simp only []);omega,rfl⟩ aSx (fun w h=>h.ent aEt) (fun ⟨f9,i,j⟩ hz=>?_)
  dsimp only
  obtain ⟨hi1,hi2,hi3,hi4,hR⟩:=hz
  simp only [] at hi1 hi2 hi3 hi4 hR
  refine aU7 ?_
  refine sCd rfl (fun h6=>?_) fun h6=>?_
  ·obtain ⟨g9,rfl,hS9⟩:=QdD (p:=p2 c I m) (show i < j by omega) hi4
   refine aT7 ?_
   refine o_p (Qg rfl rfl Yf Qbq) rfl ?_
   rw [show IntKind.u64.wrap ((i : Int) + (j : Int)) = ((i + j : Nat) : Int) from QgJ _ (by omega)]
   refine o_p (Qam rfl rfl rfl (by decide) 1 rfl) rfl ?_
   refine o_p (Qg rfl rfl Qbq Yf) rfl ?_
   try refine oWr ?_
   refine Qf (show _ = Value.int .i64 (((i + j) / 2 : Nat) : Int) from by congr 1) ?_
   refine aU3 ?_
   refine QF [] QV ?_
   refine dP 0 ?_
   refine dP 1 ?_
   refine dP 2 ?_
   refine dV 3 rfl (Qc rfl rfl rfl Qn (m) (by omega) (by omega) rfl) ?_
   refine dQ 4 [] rfl (Qx _ rfl rfl Xc rfl (fun w h=>XN (Xj l) h aPk (k:=m) (by have h9:=hI.1;omega))) ?_
   refine dP 5 ?_
   refine dP 6 ?_
   refine dV 7 rfl (Qc rfl rfl rfl Qn ((i + j) / 2) (by omega) (by omega) rfl) ?_
   refine dQ 8 [] rfl (Qx _ rfl rfl Xc rfl (fun w h=>XN (Xj l) h aPk (k:=(i + j) / 2) (by have h9:=hI.1;omega))) ?_
   refine dQ 9 [] rfl (Yb rfl rfl hq rfl (fun w1 h1=>hc (I.getD (m) 0) (I.getD ((i + j) / 2) 0) w1 (hI.get (by omega)) (hI.get (by omega)) (h0.trans1 h1))) ?_
   refine dP 10 ?_
   refine dP 11 ?_
   refine dNi ?_
   refine sCd rfl (fun h7=>?_) fun h7=>?_
   ·refine aT3 ?_
    refine aU3 ?_
    exact sBk (g9,(i + j) / 2 + 1,j) (by (try simp only []);omega) ⟨by (try simp only []);omega,by (try simp only []);omega,hi3,by (try simp only []);omega,by rw [← hR,hS9,if_pos (by unfold p2;simpa using h7)]⟩ (by refine ZA (congrArg (fun e=>some (Value.int .i64 e)) (show (((i + j) / 2 : Nat) : Int) + 1 = (((i + j) / 2 + 1 : Nat) : Int) by omega)) ?_;repeat (first | exact QeU | refine ZA rfl ?_))
   refine aU5 ?_
   exact sBk (g9,i,(i + j) / 2) (by (try simp only []);omega) ⟨hi1,by (try simp only []);omega,by (try simp only []);omega,by (try simp only []);omega,by rw [← hR,hS9,if_neg (by unfold p2;simpa using h7)]⟩
  have hE9 : Yv (p2 c I m) (m - x) x m = i:=by rw [← hR,Qfx (by omega)]
  refine Qh rfl ?_
  refine aU7 ?_
  refine Qo (α:=Nat × List Nat) [17,108,109,110,111,112,113,114,115,116,117,118,119,120,121,122,123,124,125,126,127,128] (fun z=>[(17,.int .i64 (z.1 : Int))]) (fun z=>HS w [b] [.blk b 27 tot ((z.2).flatMap (sV l))]) (fun z=>i ≤ z.1 ∧ z.1 ≤ m ∧ QQ N n z.2 ∧ mvL (z.1 - i) z.1 z.2 = mvL (m - i) m I) (fun z=>z.1) (m,I) ⟨by (try simp only []);omega,Nat.le_refl _,hI,rfl⟩ aSx (fun w h=>h.ent aEt) (fun ⟨k,J⟩ hz=>?_)
  dsimp only
  obtain ⟨hk1,hk2,hJ,hR2⟩:=hz
  simp only [] at hk1 hk2 hJ hR2
  refine aU7 ?_
  refine sCd rfl (fun h8=>?_) fun h8=>?_
  ·refine aU3 ?_
   refine QF [15,17] QV ?_
   refine dP 0 ?_
   refine dP 1 ?_
   refine dP 2 ?_
   refine dP 3 ?_
   refine dP 4 ?_
   try refine dWr ?_
   refine dP 5 ?_
   refine dP 6 ?_
   refine dP 7 ?_
   try refine dWr ?_
   refine dV 8 rfl (Qc rfl rfl rfl Qn (k - 1) (by omega) (by omega) rfl) ?_
   refine dQ 9 [[],[]] rfl (Qx _ rfl rfl Xc rfl (fun w h=>XN (Xj l) h aPk (k:=k - 1) (by have h9:=hJ.1;omega))) ?_
   refine dP 10 ?_
   refine dP 11 ?_
   refine dV 12 rfl (Qc rfl rfl rfl Qn (k) (by omega) (by omega) rfl) ?_
   refine dQ 13 [[],[]] rfl (Qx _ rfl rfl Xc rfl (fun w h=>XN (Xj l) h aPk (k:=k) (by have h9:=hJ.1;omega))) ?_
   refine dV 14 rfl (Qc rfl rfl rfl Qn (k) (by omega) (by omega) rfl) ?_
   refine QfV 15 rfl (X9 rfl rfl rfl Xc rfl aPt (by (try rw [Qd]);rw [Qr (Xj l)];have h9:=hJ.1;have h8 : (k) * 2 + 2 ≤ n * 2:=(by omega);omega) rfl) (by kernel_rfl) (fun w h=>h.ent aEt) (fun _ _=>?_)
   refine dTu [17] ?_
   refine dV 16 rfl (Qc rfl rfl rfl Qn (k - 1) (by omega) (by omega) rfl) ?_
   refine QfV 17 rfl (X9 rfl rfl rfl Xc rfl aPt (by (try rw [Qd]);rw [Qr (Xj l)];have h9:=hJ.1;have h8 : (k - 1) * 2 + 2 ≤ n * 2:=(by omega);omega) rfl) (by kernel_rfl) (fun w h=>h.ent aEt) (fun _ _=>?_)
   refine dTu [] ?_
   refine dNi ?_
   refine aU ?_
   refine Qk (L':=[(0,_),(1,_),(2,_),(3,_),(4,_),(14,_),(15,_),(17,_),(83,_),(84,_),(85,_),(107,_)]) aSx (fun _ h=>h) ?_
   refine aT3 ?_
   refine aU2 ?_
   exact Qu (k - 1,swp J k (k - 1)) (by (try simp only []);omega) ⟨by (try simp only []);omega,by (try simp only []);omega,hJ.swp _ _,by rw [← hR2,show k - i = (k - 1 - i) + 1 by omega,mvL]⟩ (by refine ZA (congrArg (fun e=>some (Value.int .i64 e)) (show (k : Int) - 1 = ((k - 1 : Nat) : Int) by omega)) ?_;repeat (first | exact QeU | refine ZA rfl ?_)) (fun w h=>by exact Qes (vv:=(sV l)) (J:=J) (p:=k) (q:=k - 1) (Xj l) (by have h9:=hJ.1;omega) (by have h9:=hJ.1;omega) h)
  refine Qh rfl ?_
  exact Qpb rfl (fun w' h'=>⟨(),rfl,trivial,by rw [symM,if_neg (by omega),if_pos (by omega),hE9];obtain rfl : k = i:=(by omega);rw [Nat.sub_self] at hR2;rw [← hR2];exact h'⟩)
 refine aT6 ?_
 refine o_p (Qg rfl rfl Yf Qbq) rfl ?_
 rw [show IntKind.u64.wrap ((x : Int) + (y : Int)) = ((x + y : Nat) : Int) from QgJ _ (by omega)]
 refine o_p (Qam rfl rfl rfl (by decide) 1 rfl) rfl ?_
 refine o_p (Qg rfl rfl Qbq Yf) rfl ?_
 try refine oWr ?_
 refine Qf (show _ = Value.int .i64 (((x + y) / 2 : Nat) : Int) from by congr 1) ?_
 generalize hmid : (x + y) / 2 = mid
 refine aT7 ?_
 refine Qf (show _ = Value.int .i64 ((mid + m : Nat) : Int) from rfl) ?_
 refine QgI ?_
 refine Qk (L':=[(0,_),(1,_),(2,_),(3,_),(4,_),(18,_),(19,_),(20,_),(21,_),(140,_)]) aSx (fun _ h=>h) ?_
 refine QhB (α:=Nat × Nat) [20,21,141,142,143,144,145,146] (fun z=>[(20,.int .i64 (z.1 : Int)),(21,.int .i64 (z.2 : Int))]) (fun z=>(mid < m ∧ z.1 = mid + m - y ∧ z.2 = mid) ∨ (¬ mid < m ∧ z.1 = x ∧ z.2 = m)) ?_ ?_
 ·skip
  refine sCd rfl (fun h9=>?_) fun h9=>?_
  ·refine aT5 ?_
   refine Qf (show _ = Value.int .i64 ((mid + m - y : Nat) : Int) from by congr 1;omega) ?_
   refine aU6 ?_
   exact QA (mid + m - y,mid) (.inl ⟨by omega,rfl,rfl⟩) aSx (fun w h=>h.ent aEt)
  refine aU9 ?_
  exact QA (x,m) (.inr ⟨by omega,rfl,rfl⟩) aSx (fun w h=>h.ent aEt)
 intro ⟨s0,r0⟩ hz
 dsimp only
 simp only [] at hz
 have hs0 : s0 = (if mid < m then mid + m - y else x):=by rcases hz with h9 | h9 <;> simp [h9]
 have hr0 : r0 = (if mid < m then mid else m):=by rcases hz with h9 | h9 <;> simp [h9]
 have hsr : x ≤ s0 ∧ s0 ≤ r0 ∧ r0 ≤ mid ∧ r0 ≤ m ∧ mid + m - r0 ≤ y ∧ mid + m - s0 ≤ y ∧ mid < y ∧ x ≤ mid:=by omega
 clear hz
 refine aT4 ?_
 refine Qf (show _ = Value.int .i64 ((mid + m - 1 : Nat) : Int) from by first | rfl | (congr 1;omega)) ?_
 refine aU4 ?_
 refine Qo (α:=Nat × Nat × Nat) [20,21,23,149,150,151,152,153,154,155,156,157,158,159,160,161,162,163,164,165,166,167,168,169,170,171,172,173,174] (fun z=>[(20,.int .i64 (z.2.1 : Int)),(21,.int .i64 (z.2.2 : Int))]) (fun _=>HS w [b] [.blk b 27 tot ((I).flatMap (sV l))]) (fun z=>s0 ≤ z.2.1 ∧ z.2.1 ≤ z.2.2 ∧ z.2.2 ≤ r0 ∧ z.2.2 - z.2.1 ≤ z.1 ∧ Yv (p3 c I (mid + m - 1)) z.1 z.2.1 z.2.2 = Yv (p3 c I (mid + m - 1)) (y - x) s0 r0) (fun z=>z.1) (y - x,s0,r0) ⟨Nat.le_refl _,by (try simp only []);omega,Nat.le_refl _,by (try simp only []);omega,rfl⟩ aSx (fun w h=>h.ent aEt) (fun ⟨f9,i,j⟩ hz=>?_)
 dsimp only
 obtain ⟨hi1,hi2,hi3,hi4,hR⟩:=hz
 simp only [] at hi1 hi2 hi3 hi4 hR
 refine aU7 ?_
 refine sCd rfl (fun h10=>?_) fun h10=>?_
 ·obtain ⟨g9,rfl,hS9⟩:=QdD (p:=p3 c I (mid + m - 1)) (show i < j by omega) hi4
  refine aT7 ?_
  refine o_p (Qg rfl rfl Yf Qbq) rfl ?_
  rw [show IntKind.u64.wrap ((i : Int) + (j : Int)) = ((i + j : Nat) : Int) from QgJ _ (by omega)]
  refine o_p (Qam rfl rfl rfl (by decide) 1 rfl) rfl ?_
  refine o_p (Qg rfl rfl Qbq Yf) rfl ?_
  try refine oWr ?_
  refine Qf (show _ = Value.int .i64 (((i + j) / 2 : Nat) : Int) from by congr 1) ?_
  refine aU3 ?_
  refine QF [] QV ?_
  refine dP 0 ?_
  refine dP 1 ?_
  refine dP 2 ?_
  refine dP 3 ?_
  refine dP 4 ?_
  try refine dWr ?_
  refine dV 5 rfl (Qc rfl rfl rfl Qn (mid + m - 1 - (i + j) / 2) (by omega) (by omega) rfl) ?_
  refine dQ 6 [] rfl (Qx _ rfl rfl Xc rfl (fun w h=>XN (Xj l) h aPk (k:=mid + m - 1 - (i + j) / 2) (by have h9:=hI.1;omega))) ?_
  refine dP 7 ?_
  refine dP 8 ?_
  refine dV 9 rfl (Qc rfl rfl rfl Qn ((i + j) / 2) (by omega) (by omega) rfl) ?_
  refine dQ 10 [] rfl (Qx _ rfl rfl Xc rfl (fun w h=>XN (Xj l) h aPk (k:=(i + j) / 2) (by have h9:=hI.1;omega))) ?_
  refine dQ 11 [] rfl (Yb rfl rfl hq rfl (fun w1 h1=>hc (I.getD (mid + m - 1 - (i + j) / 2) 0) (I.getD ((i + j) / 2) 0) w1 (hI.get (by omega)) (hI.get (by omega)) (h0.trans1 h1))) ?_
  refine dP 12 ?_
  refine dP 13 ?_
  refine dNi ?_
  refine sCd rfl (fun h11=>?_) fun h11=>?_
  ·refine Qk (L':=[(0,_),(1,_),(2,_),(3,_),(4,_),(18,_),(19,_),(20,_),(21,_),(22,_),(23,_),(140,_),(147,_),(148,_)]) aSx (fun _ h=>h) ?_
   refine aT3 ?_
   refine aU3 ?_
   exact sBk (g9,(i + j) / 2 + 1,j) (by (try simp only []);omega) ⟨by (try simp only []);omega,by (try simp only []);omega,hi3,by (try simp only []);omega,by rw [← hR,hS9,if_pos (by unfold p3;simpa using h11)]⟩ (by refine ZA (congrArg (fun e=>some (Value.int .i64 e)) (show (((i + j) / 2 : Nat) : Int) + 1 = (((i + j) / 2 + 1 : Nat) : Int) by omega)) ?_;repeat (first | exact QeU | refine ZA rfl ?_))
  refine Qk (L':=[(0,_),(1,_),(2,_),(3,_),(4,_),(18,_),(19,_),(20,_),(21,_),(22,_),(23,_),(140,_),(147,_),(148,_)]) aSx (fun _ h=>h) ?_
  refine aU5 ?_
  exact sBk (g9,i,(i + j) / 2) (by (try simp only []);omega) ⟨hi1,by (try simp only []);omega,by (try simp only []);omega,by (try simp only []);omega,by rw [← hR,hS9,if_neg (by unfold p3;simpa using h11)]⟩
 have hE9 : Yv (p3 c I (mid + m - 1)) (y - x) s0 r0 = i:=by rw [← hR,Qfx (by omega)]
 have hS : ZQ c I x m y = i:=(QmQ (c:=c) hmid hs0 hr0).trans hE9
 obtain ⟨s,hs9⟩ : ∃ s,s = i:=⟨i,rfl⟩
 subst hs9
 have hsb : x ≤ s ∧ s ≤ m ∧ s ≤ mid:=by omega
 refine Qh rfl ?_
 refine aT5 ?_
 refine Qf (show _ = Value.int .i64 ((mid + m - s : Nat) : Int) from by first | rfl | (congr 1;omega)) ?_
 refine aU9 ?_
 refine YH 4 181 185 rfl
  (fun hg12 _=>by
   refine aU6 ?_
   exact oJt 4 185)
  (fun hg14 _=>by
   refine aU3 ?_
   exact oJf 4 185) ?_
 refine aU ?_
 refine Qk (L':=[(0,_),(1,_),(2,_),(3,_),(4,_),(18,_),(19,_),(20,_),(21,_),(22,_),(24,_),(140,_),(147,_),(148,_),(185,_)]) aSx (fun _ h=>h) ?_
 refine Zq (α:=List Nat) [186,187,188,189,190,191] (fun _=>[]) (fun z=>HS w [b] [.blk b 27 tot ((z).flatMap (sV l))]) (fun z=>QQ N n z ∧ z = (if s < m ∧ m < mid + m - s then rot s m (mid + m - s) I else I)) ?_ ?_
 ·skip
  refine sCd rfl (fun h16=>?_) fun h16=>?_
  ·refine aU6 ?_
   refine o_h (QH (Cs:=[.blk b 27 tot ((I).flatMap (sV l))]) rfl QtG rfl aPs (fun w1 h1 hf=>c253 w1 l b n cap tot N I s m (mid + m - s) _ hI hf hn (by have hq:=h16;simp at hq;omega) (by have hq:=h16;simp at hq;omega) (by omega))) rfl (fun _ _=>?_)
   refine aU ?_
   exact QA (rot s m (mid + m - s) I) ⟨hI.rot,(if_pos (by have hq:=h16;simp at hq;omega)).symm⟩ aSx (fun w h=>h.ent aEt)
  refine aU ?_
  exact QA I ⟨hI,(if_neg (by have hq:=h16;simp at hq;omega)).symm⟩ aSx (fun w h=>h.ent aEt)
 intro J1 hz
 obtain ⟨hJ1,hV1⟩:=hz
 refine aU7 ?_
 refine YH 4 195 199 rfl
  (fun hg17 _=>by
   refine aU6 ?_
   exact oJt 4 199)
  (fun hg19 _=>by
   refine aU3 ?_
   exact oJf 4 199) ?_
 refine aU ?_
 refine Zq (α:=List Nat) [200,201,202,203,204,205] (fun _=>[]) (fun z=>HS w [b] [.blk b 27 tot ((z).flatMap (sV l))]) (fun z=>QQ N n z ∧ z = (if x < s ∧ s < mid then symM c f x s mid J1 else J1)) ?_ ?_
 ·skip
  refine sCd rfl (fun h21=>?_) fun h21=>?_
  ·refine aU6 ?_
   refine o_h (QH (Cs:=[.blk b 27 tot ((J1).flatMap (sV l))]) rfl Qhw rfl aPs (fun w1 h1 hf=>hrec w1 J1 (x) (s) (mid) hJ1 (h0.trans1 h1) hf (by have hq:=h21;simp at hq;omega) (by have hq:=h21;simp at hq;omega) (by omega) (by omega))) rfl (fun _ _=>?_)
   refine aU ?_
   exact QA (symM c f x s mid J1) ⟨hJ1.symM _ _ _ _,(if_pos (by have hq:=h21;simp at hq;omega)).symm⟩ aSx (fun w h=>h.ent aEt)
  refine aU ?_
  exact QA J1 ⟨hJ1,(if_neg (by have hq:=h21;simp at hq;omega)).symm⟩ aSx (fun w h=>h.ent aEt)
 intro J2 hz
 obtain ⟨hJ2,hV2⟩:=hz
 refine aU6 ?_
 refine YH 4 209 213 rfl
  (fun hg22 _=>by
   refine aU6 ?_
   exact oJt 4 213)
  (fun hg24 _=>by
   refine aU3 ?_
   exact oJf 4 213) ?_
 refine aU ?_
 refine Qk (L':=[(0,_),(1,_),(2,_),(3,_),(4,_),(18,_),(19,_),(20,_),(21,_),(22,_),(24,_),(140,_),(147,_),(148,_),(213,_)]) aSx (fun _ h=>h) ?_
 refine Zq (α:=List Nat) [214,215,216,217,218,219] (fun _=>[]) (fun z=>HS w [b] [.blk b 27 tot ((z).flatMap (sV l))]) (fun z=>QQ N n z ∧ z = (if mid < mid + m - s ∧ mid + m - s < y then symM c f mid (mid + m - s) y J2 else J2)) ?_ ?_
 ·skip
  refine sCd rfl (fun h26=>?_) fun h26=>?_
  ·refine aU6 ?_
   refine o_h (QH (Cs:=[.blk b 27 tot ((J2).flatMap (sV l))]) rfl Qhw rfl aPs (fun w1 h1 hf=>hrec w1 J2 (mid) ((mid + m - s)) (y) hJ2 (h0.trans1 h1) hf (by have hq:=h26;simp at hq;omega) (by have hq:=h26;simp at hq;omega) (by omega) (by omega))) rfl (fun _ _=>?_)
   refine aU ?_
   exact QA (symM c f mid (mid + m - s) y J2) ⟨hJ2.symM _ _ _ _,(if_pos (by have hq:=h26;simp at hq;omega)).symm⟩ aSx (fun w h=>h.ent aEt)
  refine aU ?_
  exact QA J2 ⟨hJ2,(if_neg (by have hq:=h26;simp at hq;omega)).symm⟩ aSx (fun w h=>h.ent aEt)
 intro J3 hz
 obtain ⟨hJ3,hV3⟩:=hz
 exact YY rfl (fun w' h'=>⟨(),rfl,trivial,by rw [symM,if_neg (by omega),if_neg (by omega),hmid,hS,← hV1];unfold symR;rw [← hV2,← hV3];exact h'⟩)
theorem Qu1 (l : List TEnt) (b n cap tot N : Nat) (w00 : World) (q : Nat) (cv : Array Value) (c : Nat → Nat → Int) (hn : n ≤ 1000000) (hq : QM Tryz.prog q = true) (hc : ∀ p p1 w1,p < N → p1 < N → HS w00 [b] [] w1 → Calls Tryz.prog q (#[] ++ [.agg (sV l (p)).toArray,.agg (sV l (p1)).toArray].toArray ++ cv) w1 fun en w2=>en = .returned (.int .i64 (c p p1)) ∧ Below w1.heap.size w1 w2) : ∀ (f : Nat) (w : World) (I : List Nat) (x m y : Nat),QQ N n I → HS w00 [b] [] w → HS w [b] [.blk b 27 tot ((I).flatMap (sV l))] w → x < m → m < y → y ≤ n → y - x ≤ f → Calls Tryz.prog 223 #[.slice (some ⟨b,0,none⟩) n cap,.int .i64 (x : Int),.int .i64 (m : Int),.int .i64 (y : Int),.func (.func q) #[] cv] w fun en w'=>∃ g : Unit,en = .returned (.tuple #[]) ∧ True ∧ HS w [b] [.blk b 27 tot ((symM c f x m y I).flatMap (sV l))] w'
  | 0,w,I,x,m,y,hI,h0,hw,hxm,hmy,hy,hf=>by omega
  | f + 1,w,I,x,m,y,hI,h0,hw,hxm,hmy,hy,hf=>QvC w l b n cap tot N I f x m y w00 q cv c hI hw hn hxm hmy hy hf h0 hq hc fun w1 J x1 m1 y1 hJ h01 hw1 hx hm hy1 hf1=>Qu1 l b n cap tot N w00 q cv c hn hq hc f w1 J x1 m1 y1 hJ h01 hw1 hx hm hy1 hf1
set_option maxHeartbeats 4000000 in
theorem c177 (w : World) (l : List TEnt) (b n cap tot N : Nat) (I : List Nat) (w00 : World) (q : Nat) (cv : Array Value) (c : Nat → Nat → Int) (hI : QQ N n I) (hw : HS w [b] [.blk b 27 tot ((I).flatMap (sV l))] w) (hn : n ≤ 1000000) (h0 : HS w00 [b] [] w) (hq : QM Tryz.prog q = true) (hc : ∀ p p1 w1,p < N → p1 < N → HS w00 [b] [] w1 → Calls Tryz.prog q (#[] ++ [.agg (sV l (p)).toArray,.agg (sV l (p1)).toArray].toArray ++ cv) w1 fun en w2=>en = .returned (.int .i64 (c p p1)) ∧ Below w1.heap.size w1 w2) : Calls Tryz.prog 177 #[.slice (some ⟨b,0,none⟩) n cap,.int .i64 (n : Int),.func (.func q) #[] cv] w fun en w'=>∃ g : Unit,en = .returned (.tuple #[]) ∧ True ∧ HS w [b] [.blk b 27 tot ((stab c n I).flatMap (sV l))] w':=by
 refine eW3 Tryz.func177 Tryz.ntmps177 hw ?_
 refine QaE ?_
 refine Qo (α:=Nat × Nat × List Nat) [7,8,11,12,13,14,15,16,17,18,19,20,21,22] (fun z=>[(7,.int .i64 (z.2.1 : Int)),(8,.int .i64 ((z.2.1 + 20 : Nat) : Int))]) (fun z=>HS w [b] [.blk b 27 tot ((z.2.2).flatMap (sV l))]) (fun z=>z.2.1 ≤ n ∧ n - z.2.1 ≤ z.1 ∧ QQ N n z.2.2 ∧ stI c n z.1 z.2.1 z.2.2 = stI c n n 0 I) (fun z=>z.1) (n,0,I) ⟨Nat.zero_le _,Nat.sub_le _ _,hI,rfl⟩ aSx (fun w h=>h.ent aEt) (fun ⟨f9,a,J⟩ hz=>?_)
 dsimp only
 obtain ⟨ha,hf9,hJ,hR⟩:=hz
 simp only [] at ha hf9 hJ hR
 refine aU7 ?_
 refine sCd rfl (fun h1=>?_) fun h1=>?_
 ·refine aU8 ?_
  refine o_h (QH (Cs:=[.blk b 27 tot ((J).flatMap (sV l))]) rfl Qkb rfl aPs (fun w1 h1 hf=>c222 w1 l b n cap tot N J (a) (a + 20) w00 q cv c hJ hf hn (by omega) (by omega) (h0.trans1 h1) hq hc)) rfl (fun _ _=>?_)
  refine Qj6 ?_
  refine aU3 ?_
  obtain ⟨g9,rfl⟩ : ∃ g,f9 = g + 1:=⟨f9 - 1,by omega⟩
  exact sBk (g9,a + 20,ins c a (a + 20) J) (by (try simp only []);omega) ⟨by (try simp only []);omega,by (try simp only []);omega,hJ.ins,by rw [← hR,stI,if_pos (by omega)]⟩ (by refine ZA rfl ?_;refine ZA (congrArg (fun e=>some (Value.int .i64 e)) (show _ = ((a + 20 + 20 : Nat) : Int) by (try simp only []);omega)) ?_;repeat (first | exact QeU | refine ZA rfl ?_))
 have hE9 : ins c a n J = stI c n n 0 I:=by rw [← hR];cases f9 with | zero=>rfl | succ f9=>rw [stI,if_neg (by omega)]
 refine Qh rfl ?_
 refine aU6 ?_
 refine o_h (QH (Cs:=[.blk b 27 tot ((J).flatMap (sV l))]) rfl Qkb rfl aPs (fun w1 h1 hf=>c222 w1 l b n cap tot N J (a) (n) w00 q cv c hJ hf hn (by omega) (by omega) (h0.trans1 h1) hq hc)) rfl (fun _ _=>?_)
 refine aU2 ?_
 rw [hE9]
 refine Qo (α:=Nat × Nat × List Nat) [6,7,8,9,28,29,30,31,32,33,34,35,36,37,38,39,40,41,42,43,44,45,46,47,48,49,50,51,52,53,54,55,56,57,58,59,60,61,62] (fun z=>[(6,.int .i64 (z.2.1 : Int))]) (fun z=>HS w [b] [.blk b 27 tot ((z.2.2).flatMap (sV l))]) (fun z=>0 < z.2.1 ∧ z.2.1 ≤ 20 + 2 * n ∧ n ≤ z.2.1 + z.1 ∧ QQ N n z.2.2 ∧ QhM c n z.1 z.2.1 z.2.2 = QhM c n n 20 (stI c n n 0 I)) (fun z=>z.1) (n,20,stI c n n 0 I) ⟨by (try simp only []);omega,by (try simp only []);omega,by (try simp only []);omega,hI.stI _ _,rfl⟩ aSx (fun w h=>h.ent aEt) (fun ⟨f8,bs,J⟩ hz=>?_)
 dsimp only
 clear hJ hR hE9
 obtain ⟨hb1,hb2,hf8,hJ,hR2⟩:=hz
 simp only [] at hb1 hb2 hf8 hJ hR2
 refine aU7 ?_
 refine sCd rfl (fun h2=>?_) fun h2=>?_
 ·obtain ⟨f9,rfl⟩ : ∃ g,f8 = g + 1:=⟨f8 - 1,by omega⟩
  refine aT6 ?_
  refine Qf (show _ = Value.int .i64 ((2 * bs : Nat) : Int) from by first | rfl | (congr 1;omega)) ?_
  refine aU5 ?_
  refine Qo (α:=Nat × Nat × List Nat) [7,8,33,34,35,36,37,38,39,40,41,42,43,44,45,46,47,48] (fun z=>[(7,.int .i64 (z.2.1 : Int)),(8,.int .i64 ((z.2.1 + 2 * bs : Nat) : Int))]) (fun z=>HS w [b] [.blk b 27 tot ((z.2.2).flatMap (sV l))]) (fun z=>z.2.1 ≤ n ∧ n - z.2.1 ≤ z.1 ∧ QQ N n z.2.2 ∧ stP c n bs z.1 z.2.1 z.2.2 = stP c n bs n 0 J) (fun z=>z.1) (n,0,J) ⟨Nat.zero_le _,Nat.sub_le _ _,hJ,rfl⟩ (by refine ZA rfl ?_;refine ZA (congrArg (fun e=>some (Value.int .i64 e)) (show _ = ((0 + 2 * bs : Nat) : Int) by (try simp only []);omega)) ?_;repeat (first | exact QeU | refine ZA rfl ?_)) (fun w h=>h.ent aEt) (fun ⟨f7,a,K⟩ hz=>?_)
  dsimp only
  obtain ⟨ha,hf7,hK,hR3⟩:=hz
  simp only [] at ha hf7 hK hR3
  refine aU7 ?_
  refine sCd rfl (fun h3=>?_) fun h3=>?_
  ·refine aT9 ?_
   refine Qf (show _ = Value.int .i64 ((a + bs : Nat) : Int) from by first | rfl | (congr 1;omega)) ?_
   refine aU2 ?_
   refine o_h (QH (Cs:=[.blk b 27 tot ((K).flatMap (sV l))]) rfl Qhw rfl aPs (fun w1 h1 hf=>Qu1 l b n cap tot N w00 q cv c hn hq hc n w1 K (a) (a + bs) (a + 2 * bs) hK (h0.trans1 h1) hf (by omega) (by omega) (by omega) (by omega))) rfl (fun _ _=>?_)
   refine aU2 ?_
   refine Qk (L':=[(0,_),(1,_),(2,_),(6,_),(7,_),(8,_),(10,_),(11,_),(12,_),(13,_),(23,_),(24,_),(25,_),(26,_),(27,_),(28,_),(29,_),(30,_),(31,_),(32,_)]) aSx (fun _ h=>h) ?_
   refine aT8 ?_
   refine Qf (show _ = Value.int .i64 ((2 * bs : Nat) : Int) from by first | rfl | (congr 1;omega)) ?_
   refine aT ?_
   refine aU3 ?_
   obtain ⟨g7,rfl⟩ : ∃ g,f7 = g + 1:=⟨f7 - 1,by omega⟩
   exact sBk (g7,a + 2 * bs,symM c n a (a + bs) (a + 2 * bs) K) (by (try simp only []);omega) ⟨by (try simp only []);omega,by (try simp only []);omega,hK.symM _ _ _ _,by rw [← hR3,stP,if_pos (by omega)]⟩ (by refine ZA rfl ?_;refine ZA (congrArg (fun e=>some (Value.int .i64 e)) (show _ = ((a + 2 * bs + 2 * bs : Nat) : Int) by (try simp only []);omega)) ?_;repeat (first | exact QeU | refine ZA rfl ?_))
  refine Qh rfl ?_
  refine aT6 ?_
  refine Qf (show _ = Value.int .i64 ((a + bs : Nat) : Int) from by first | rfl | (congr 1;omega)) ?_
  refine aU8 ?_
  refine Zq (α:=List Nat) [55,56,57,58,59,60] (fun _=>[]) (fun z=>HS w [b] [.blk b 27 tot ((z).flatMap (sV l))]) (fun z=>QQ N n z ∧ z = stP c n bs n 0 J) ?_ ?_
  ·skip
   refine sCd rfl (fun h4=>?_) fun h4=>?_
   ·refine aU6 ?_
    refine o_h (QH (Cs:=[.blk b 27 tot ((K).flatMap (sV l))]) rfl Qhw rfl aPs (fun w1 h1 hf=>Qu1 l b n cap tot N w00 q cv c hn hq hc n w1 K (a) (a + bs) (n) hK (h0.trans1 h1) hf (by omega) (by omega) (by omega) (by omega))) rfl (fun _ _=>?_)
    refine aU ?_
    exact QA (symM c n a (a + bs) n K) ⟨hK.symM _ _ _ _,by rw [← hR3];cases f7 with | zero=>omega | succ f7=>rw [stP,if_neg (by omega),if_pos (by omega)]⟩ aSx (fun w h=>h.ent aEt)
   refine aU ?_
   exact QA K ⟨hK,by rw [← hR3];cases f7 with | zero=>rfl | succ f7=>rw [stP,if_neg (by omega),if_neg (by omega)]⟩ aSx (fun w h=>h.ent aEt)
  intro Z hz
  obtain ⟨hZ,hV⟩:=hz
  refine Qk (L':=[(0,_),(1,_),(2,_),(6,_),(7,_),(8,_),(10,_),(11,_),(12,_),(13,_),(23,_),(24,_),(25,_),(26,_),(27,_),(28,_),(29,_),(30,_),(31,_),(32,_)]) aSx (fun _ h=>h) ?_
  refine aT3 ?_
  refine Qf (show _ = Value.int .i64 ((2 * bs : Nat) : Int) from by first | rfl | (congr 1;omega)) ?_
  refine aU3 ?_
  exact sBk (f9,2 * bs,Z) (by (try simp only []);omega) ⟨by (try simp only []);omega,by (try simp only []);omega,by (try simp only []);omega,hZ,by rw [← hR2,QhM,if_pos (by omega),hV]⟩
 have hE8 : J = stab c n I:=by unfold stab;rw [← hR2];cases f8 with | zero=>rfl | succ f8=>rw [QhM,if_neg (by omega)]
 refine Qh rfl ?_
 exact YY rfl (fun w' h'=>⟨(),rfl,trivial,by rw [← hE8];exact h'⟩)
theorem c118 (w : World) (l : List TEnt) (b n cap tot N : Nat) (I : List Nat) (w00 : World) (q : Nat) (cv : Array Value) (c : Nat → Nat → Int) (hI : QQ N n I) (hw : HS w [b] [.blk b 27 tot ((I).flatMap (sV l))] w) (hn : n ≤ 1000000) (h0 : HS w00 [b] [] w) (hq : QM Tryz.prog q = true) (hc : ∀ p p1 w1,p < N → p1 < N → HS w00 [b] [] w1 → Calls Tryz.prog q (#[] ++ [.agg (sV l (p)).toArray,.agg (sV l (p1)).toArray].toArray ++ cv) w1 fun en w2=>en = .returned (.int .i64 (c p p1)) ∧ Below w1.heap.size w1 w2) : Calls Tryz.prog 118 #[.slice (some ⟨b,0,none⟩) n cap,.func (.func q) #[] cv] w fun en w'=>∃ g : Unit,en = .returned (.tuple #[]) ∧ True ∧ HS w [b] [.blk b 27 tot ((stab c n I).flatMap (sV l))] w':=by
 refine eW2 Tryz.func118 Tryz.ntmps118 hw ?_
 refine aU5 ?_
 refine o_h (QH (Cs:=[.blk b 27 tot ((I).flatMap (sV l))]) rfl QnJ rfl aPs (fun w1 h1 hf=>c177 w1 l b n cap tot N I w00 q cv c hI hf hn (h0.trans1 h1) hq hc)) rfl (fun _ _=>?_)
 refine aU ?_
 exact YY rfl (fun w' h'=>⟨(),rfl,trivial,h'⟩)
end Go.Proofs
namespace Gx
open Go Go.RowKit
section
variable {w0 w : World} {M : List Nat} {As As' : List HA} {b t tot : Nat} {l : List TEnt}
theorem Qht (h : HS w0 M As w) (hp : QD As (.blk b t tot (l.flatMap TEnt.vals)) As') {k : Nat} (hk : k < l.length) : ∀ j v,(TEnt.vals (nth l k))[j]? = some v → Rd w [] b (0 + k * 2 + j) v:=fun j v hj=>by
 have hlt : j < 2:=by
  rcases Nat.lt_or_ge j (TEnt.vals (nth l k)).length with h | h
  ·exact h
  ·rw [List.getElem?_eq_none h] at hj;cases hj
 rw [Nat.zero_add];exact h.rd_blk (Mc:=[]) hp (by rw [Qbh ev2 l k j _ (Ya hk) hlt];exact hj) (by simp)
theorem Qep (h : HS w0 M As w) (hp : QD As (.blk b t tot (l.flatMap TEnt.vals)) As') {k o : Nat} {x : TEnt} (hk : k < l.length) (ho : o = k * 2) (hx : nth l k = x) : ∀ j v,(TEnt.vals x)[j]? = some v → Rd w [] b (o + j) v:=by
 subst hx ho;intro j v hv;have h9:=Qht h hp hk j v hv
 rwa [Nat.zero_add] at h9
theorem Qtm (h : HS w0 M As w) (hp : QD As (.blk b t tot (l.flatMap TEnt.vals)) As') : Rw TEnt.vals 2 w [] (some ⟨b,0,none⟩) l:=⟨fun h0=>⟨b,0,rfl,fun i hi=>⟨rfl,fun j v hv=>Qht h hp hi j v hv⟩⟩⟩
end
theorem QrT {l : List TEnt} {i : Nat} (hi : i < l.length) (x : TEnt) : Qe (l.flatMap TEnt.vals) (0 + i * 2) (TEnt.vals x) = (l.set i x).flatMap TEnt.vals:=by
 have h:=QcR ev2 l i 0 (TEnt.vals x) (nth l i) x (Ya hi) rfl (by simp [TEnt.vals])
 rwa [Nat.add_zero,← Nat.zero_add (i * 2)] at h
theorem QrU {l : List TEnt} {i : Nat} (hi : i ≤ l.length) {zs : List Value} (hz : zs.length = (l.length - i) * 2) : Qe (l.flatMap TEnt.vals) (i * 2) zs = (l.take i).flatMap TEnt.vals ++ zs:=by
 have hl:=Qr ev2 l;have ht : ((l.take i).flatMap TEnt.vals).length = i * 2:=by rw [Qr ev2,List.length_take];omega
 rw [ZT _ _ _ (by omega)];have e : l.flatMap TEnt.vals = (l.take i).flatMap TEnt.vals ++ (l.drop i).flatMap TEnt.vals:=by rw [← List.flatMap_append,List.take_append_drop]
 rw [List.drop_eq_nil_of_le (by omega),List.append_nil];congr 1;rw [e,List.take_left' ht]
def QbX (K l : List TEnt) : List TEnt:=K ++ l.drop K.length
theorem Yi {K l : List TEnt} (h : K.length ≤ l.length) : (QbX K l).length = l.length:=by
 unfold QbX;rw [List.length_append,List.length_drop];omega
theorem Qda {K l : List TEnt} {j : Nat} (h : K.length ≤ j) (hj : j < l.length) : nth (QbX K l) j = nth l j:=by
 apply QdC;unfold QbX;rw [List.getElem?_append_right h,List.getElem?_drop,show K.length + (j - K.length) = j by omega];exact Ya hj
theorem Qpw {K l : List TEnt} (h : K.length < l.length) (x : TEnt) : (QbX K l).set K.length x = QbX (K ++ [x]) l:=by
 unfold QbX;rw [List.drop_eq_getElem_cons h,List.set_append_right _ _ (Nat.le_refl _),Nat.sub_self,List.set_cons_zero,List.length_append,List.length_singleton,List.append_assoc];rfl
theorem Qgt (l : List TEnt) (i : Nat) : QbX (l.take i) l = l:=by
 unfold QbX;rw [List.length_take];rcases Nat.le_total i l.length with h | h
 ·rw [Nat.min_eq_left h,List.take_append_drop]
 ·rw [Nat.min_eq_right h,List.drop_length,List.append_nil,List.take_of_length_le h]
theorem Qpk (K l : List TEnt) : (QbX K l).take K.length = K:=by
 unfold QbX;rw [List.take_left' rfl]
section
variable {w0 w : World} {M : List Nat} {As As' : List HA} {b t tot : Nat} {K l : List TEnt} {x : TEnt} {zs : List Value}
theorem Qh7 (hK : K.length < l.length) (hp : QD As (.blk b t tot (Qe ((QbX K l).flatMap TEnt.vals) (0 + K.length * 2) (TEnt.vals x))) As') (h : HS w0 M As w) : HS w0 M (.blk b t tot ((QbX (K ++ [x]) l).flatMap TEnt.vals) :: As') w:=by
 have h1:=h.pick hp;rw [QrT (by rw [Yi (by omega)];exact hK),Qpw hK] at h1;exact h1
theorem Qis (h : HS w0 M As w) (hp : QD As (.blk b t tot (Qe ((QbX K l).flatMap TEnt.vals) (K.length * 2) zs)) As') (hK : K.length ≤ l.length) (hz : zs.length = (l.length - K.length) * 2) : HS w0 M (.blk b t tot (K.flatMap TEnt.vals) :: As') w:=by
 have h1:=h.pick hp;rw [QrU (by rw [Yi hK];exact hK) (by rw [Yi hK];exact hz),Qpk] at h1;exact HS.blk_less .here h1
end
def kpt (p : TEnt → Bool) (l : List TEnt) (j : Nat) : List TEnt:=(l.take j).filter fun x=>!p x
section
variable {p : TEnt → Bool} {l : List TEnt} {j : Nat}
theorem QqY : (kpt p l j).length ≤ j ∧ (kpt p l j).length ≤ l.length:=by
 have:=List.length_filter_le (fun x=>!p x) (l.take j);rw [List.length_take] at this;unfold kpt;omega
theorem QhU (hj : j < l.length) : kpt p l (j + 1) = if p (nth l j) = true then kpt p l j else kpt p l j ++ [nth l j]:=by
 unfold kpt;rw [List.take_add_one,Ya hj,List.filter_append]
 by_cases h : p (nth l j) = true
 ·simp [h]
 ·simp [h]
theorem Qg5 : kpt p l l.length = l.filter fun x=>!p x:=by unfold kpt;rw [List.take_length]
theorem Qjl (h : ∀ k,k < j → p (nth l k) = false) (hj : j ≤ l.length) : kpt p l j = l.take j:=by
 unfold kpt;rw [List.filter_eq_self];intro x hx;obtain ⟨i,hi,rfl⟩:=List.getElem_of_mem hx;rw [List.length_take] at hi;have h1:=h i (by omega);rw [List.getElem_take];rw [show nth l i = l[i] from QdC (List.getElem?_eq_getElem (by omega))] at h1;rw [h1];rfl
end
theorem QuE (bt : List Bool) : (ixI bt = -1 ∧ ∀ k,k < bt.length → bt.getD k false = false) ∨ ∃ i,i < bt.length ∧ ixI bt = (i : Int) ∧ bt.getD i false = true ∧ ∀ k,k < i → bt.getD k false = false:=by
 have key : ∀ l : List Bool,(∀ k,k < ixB l → l.getD k false = false) ∧ (ixB l < l.length → l.getD (ixB l) false = true):=fun l=>by
  induction l with
  | nil=>exact ⟨fun k hk=>by simp [ixB] at hk,fun h=>by simp at h⟩
  | cons a l ih=>
   rw [ixB];cases a with
   | true=>exact ⟨fun k hk=>by simp at hk,fun _=>by simp⟩
   | false=>
    refine ⟨fun k hk=>?_,fun h=>?_⟩
    ·cases k with
     | zero=>rfl
     | succ k=>simpa using ih.1 k (by simpa using hk)
    ·simpa using ih.2 (by simpa using h)
 obtain ⟨h1,h2⟩:=key bt;unfold ixI;split
 ·rename_i h;exact .inr ⟨ixB bt,h,rfl,h2 h,h1⟩
 ·rename_i h;exact .inl ⟨rfl,fun k hk=>h1 k (by omega)⟩
def cpT (e : TEnt → TEnt → Bool) (l : List TEnt) : Nat → List TEnt
 | 0=>[]
 | j + 1=>if j ≠ 0 ∧ e (nth l j) (nth l (j - 1)) = true then cpT e l j else cpT e l j ++ [nth l j]
section
variable {e : TEnt → TEnt → Bool} {l : List TEnt}
theorem Qlt : ∀ j,(cpT e l j).length ≤ j
 | 0=>Nat.le_refl _
 | j + 1=>by
  have:=Qlt j;rw [cpT];split
  ·omega
  ·rw [List.length_append,List.length_singleton];omega
theorem QpJ {j : Nat} (hj : j < l.length) (h : j = 0 ∨ ¬ e (nth l j) (nth l (j - 1)) = true) (ht : cpT e l j = l.take j) : cpT e l (j + 1) = l.take (j + 1):=by
 rw [cpT,if_neg (fun h9=>h.elim h9.1 fun h8=>h8 h9.2),ht,List.take_add_one,Ya hj];rfl
theorem QkS {j : Nat} (h0 : j ≠ 0) (h : e (nth l j) (nth l (j - 1)) = true) : cpT e l (j + 1) = cpT e l j:=by rw [cpT,if_pos ⟨h0,h⟩]
theorem Qq1 {j : Nat} (h : ¬ e (nth l j) (nth l (j - 1)) = true) : cpT e l (j + 1) = cpT e l j ++ [nth l j]:=by rw [cpT,if_neg fun h9=>h h9.2]
end
theorem Qmw {e : TEnt → TEnt → Bool} {l : List TEnt} (h : l.length < 2) : cpT e l l.length = l:=by
 match l,h with
 | [],_=>rfl
 | [x],_=>rfl
theorem Qga {c : Nat → Nat → Int} {a : Nat} : ∀ (l : List Nat) (p : Nat),Qaf c p (l ++ [a]) = if c a (l.getLastD p) = 0 then Qaf c p l else Qaf c p l ++ [a]
 | [],p=>by simp [Qaf]
 | b :: l,p=>by
  rw [List.cons_append,Qaf,Qaf,Qga l b,List.getLastD_cons];generalize l.getLastD b = z
  by_cases h1 : c b p = 0 <;> by_cases h2 : c a z = 0 <;> simp only [h1,h2,if_true,if_false,List.cons_append]
theorem QoK (co : Int) (l : List TEnt) (S : List Nat) : ∀ j,j ≤ S.length → cpT (fun x y=>decide (Xo co x.key y.key = 0)) (S.map (nth l)) j = (cpt (cI co l) (S.take j)).map (nth l)
 | 0,_=>rfl
 | j + 1,hj=>by
  have hn : ∀ k,k < S.length → nth (S.map (nth l)) k = nth l (S.getD k 0):=fun k hk=>by
   apply QdC;rw [List.getElem?_map,List.getElem?_eq_getElem hk,List.getD_eq_getElem?_getD,List.getElem?_eq_getElem hk];rfl
  rw [cpT,QoK co l S j (by omega),List.take_add_one,List.getElem?_eq_getElem (show j < S.length by omega),hn j (by omega)];have hg : S.getD j 0 = S[j]:=by rw [List.getD_eq_getElem?_getD,List.getElem?_eq_getElem (show j < S.length by omega)];rfl
  cases j with
  | zero=>
   rw [if_neg (fun h=>h.1 rfl),hg];rfl
  | succ j=>
   rw [hn (j + 1 - 1) (by omega),Nat.add_sub_cancel];cases hS : S.take (j + 1) with
   | nil=>
    have:=congrArg List.length hS;rw [List.length_take] at this;simp only [List.length_nil] at this;omega
   | cons a r=>
    have hl : r.getLastD a = S.getD j 0:=by
     have h1 : (S.take (j + 1)).getLastD 0 = S.getD j 0:=by
      rw [List.getLastD_eq_getLast?,List.getLast?_take];simp [List.getElem?_eq_getElem (show j < S.length by omega)]
     rw [hS,List.getLastD_cons] at h1;exact h1
    show _ = ((a :: Qaf (cI co l) a (r ++ [S[j + 1]])).map (nth l));rw [Qga,hl,← hg]
    by_cases h2 : Xo co (nth l (S.getD (j + 1) 0)).key (nth l (S.getD j 0)).key = 0
    ·rw [if_pos ⟨by omega,decide_eq_true h2⟩,if_pos (show cI co l (S.getD (j + 1) 0) (S.getD j 0) = 0 from h2)];rfl
    ·rw [if_neg (fun h=>h2 (of_decide_eq_true h.2)),if_neg (show ¬ cI co l (S.getD (j + 1) 0) (S.getD j 0) = 0 from h2)];simp [cpt]
end Gx
namespace Go.Proofs
open Go Go.RowKit Gx
attribute [local irreducible] Go.Calls Gx.S Gx.O Gx.D Gx.OpP Gx.OpQ Gx.OpH
set_option maxRecDepth 20000
theorem Qof : tsz Tryz.prog 174 = some (1,false):=by kernel_rfl
instance : TSz Tryz.prog 174 1 false:=⟨Qof⟩
theorem Qpo : QM Tryz.prog 117 = true:=by kernel_rfl
theorem c116 (w : World) (b4 : Nat) (co : Int) (x : TEnt) (hb : Rd w [] b4 3 (.int .i64 co)) (hco : Qw co = 0) (hx : x.key.length ≤ 1000000) : Calls Tryz.prog 116 #[.agg #[.string (bs x.key),.string (bs x.val)],.pointer (some ⟨b4,0,none⟩)] w fun en w'=>en = .returned (.bool (!Qz co x.key)) ∧ Below w.heap.size w w':=by
 refine eN2 Tryz.func116 Tryz.ntmps116 ?_
 refine aU2 ?_
 refine oBx fun b1 _=>?_
 refine aU6 ?_
 refine o_q (QG rfl rfl Qhh (hb)) rfl ?_
 refine aU4 ?_
 refine oCq rfl (fun w1 h1=>c58 w1 co x.key x.key hx hx) ?_
 refine QaE ?_
 exact rT rfl rfl (fun w' h'=>⟨by simp only [Xd];congr 2;unfold QfT;rw [if_pos hco];unfold X8;cases Qz co x.key <;> rfl,h'.below⟩)
theorem c117 (w : World) (b4 : Nat) (co : Int) (x y : TEnt) (hb : Rd w [] b4 3 (.int .i64 co)) (hco : Qw co = 0) (hx : x.key.length ≤ 1000000) (hy : y.key.length ≤ 1000000) (hkx : Qz co x.key = true) (hky : Qz co y.key = true) : Calls Tryz.prog 117 #[.agg #[.string (bs x.key),.string (bs x.val)],.agg #[.string (bs y.key),.string (bs y.val)],.pointer (some ⟨b4,0,none⟩)] w fun en w'=>en = .returned (.int .i64 (Xo co x.key y.key)) ∧ Below w.heap.size w w':=by
 refine eN3 Tryz.func117 Tryz.ntmps117 ?_
 refine aU2 ?_
 refine oBx fun b1 _=>?_
 refine oBx fun b2 _=>?_
 refine aU6 ?_
 refine o_q (QG rfl rfl Qhh (hb)) rfl ?_
 refine aU4 ?_
 refine oCq rfl (fun w1 h1=>c58 w1 co x.key y.key hx hy) ?_
 refine QiV ?_
 exact rT rfl rfl (fun w' h'=>⟨by simp only [Xd];rw [if_pos];unfold QfT X8;rw [if_pos hco,if_pos hkx];simp [hky],h'.below⟩)
theorem c120 (w : World) (b10 b4 : Nat) (co : Int) (x y : TEnt) (hb10 : Rd w [] b10 0 (.func (.func 117) #[] #[.pointer (some ⟨b4,0,none⟩)])) (hb : Rd w [] b4 3 (.int .i64 co)) (hco : Qw co = 0) (hx : x.key.length ≤ 1000000) (hy : y.key.length ≤ 1000000) (hkx : Qz co x.key = true) (hky : Qz co y.key = true) : Calls Tryz.prog 120 #[.agg #[.string (bs x.key),.string (bs x.val)],.agg #[.string (bs y.key),.string (bs y.val)],.pointer (some ⟨b10,0,none⟩)] w fun en w'=>en = .returned (.bool (decide (Xo co x.key y.key = 0))) ∧ Below w.heap.size w w':=by
 refine eN3 Tryz.func120 Tryz.ntmps120 ?_
 refine aU2 ?_
 refine oBx fun b1 _=>?_
 refine oBx fun b2 _=>?_
 refine aU4 ?_
 refine o_q (QG rfl rfl Qof (hb10)) rfl ?_
 refine aU2 ?_
 refine o_q (Yb rfl rfl Qpo rfl (fun w1 h1=>c117 w1 b4 co x y (hb.next h1) hco hx hy hkx hky)) rfl ?_
 refine aU3 ?_
 exact rT rfl rfl (fun w' h'=>⟨by rfl,h'.below⟩)
theorem c115 (w : World) (b cap tot : Nat) (l : List TEnt) (w00 : World) (q : Nat) (cv : Array Value) (p : TEnt → Bool) (h0 : HS w00 [b] [] w) (hw : HS w [b] [.blk b 27 tot (l.flatMap TEnt.vals)] w) (hn : l.length ≤ 1000000) (hnc : l.length ≤ cap) (hq : QM Tryz.prog q = true) (hc : ∀ x w1,x ∈ l → HS w00 [b] [] w1 → Calls Tryz.prog q (#[] ++ [.agg (TEnt.vals (x)).toArray].toArray ++ cv) w1 fun en w2=>en = .returned (.bool (p x)) ∧ Below w1.heap.size w1 w2) : Calls Tryz.prog 115 #[.slice (some ⟨b,0,none⟩) l.length cap,.func (.func q) #[] cv] w fun en w'=>∃ g : Unit,en = .returned (.slice (some ⟨b,0,none⟩) (l.filter fun x=>!p x).length cap) ∧ True ∧ HS w [b] [.blk b 27 tot ((l.filter fun x=>!p x).flatMap TEnt.vals)] w':=by
 have hix:=QuE (l.map p)
 rw [List.length_map] at hix
 have hg9 : ∀ k,k < l.length → (l.map p).getD k false = p (nth l k):=fun k hk=>QeE (d:=default) hk
 refine eW2 Tryz.func115 Tryz.ntmps115 hw ?_
 refine aU8 ?_
 refine oCq rfl (fun w1 h1=>c176 w1 (some ⟨b,0,none⟩) cap l q cv (l.map p) (Qtm h1 aPk) hn hq (by simp) (fun k w2 hk h2=>by rw [hg9 k hk];exact hc (nth l k) w2 (Xg hk) ((h0.trans1 h1).call h2))) ?_
 refine aU8 ?_
 refine sCd rfl (fun h1=>?_) fun h1=>?_
 ·have hfl : (l.filter fun x=>!p x) = l:=by rw [← Qg5,Qjl (fun k hk=>?_) (Nat.le_refl _),List.take_length];rcases hix with h9 | ⟨i,h9,h8,_⟩;rw [← hg9 k hk];exact h9.2 k hk;have hq8:=h1;omega
  refine aU5 ?_
  exact rT rfl rfl (fun w' h'=>⟨(),by rw [hfl];rfl,trivial,by rw [hfl];exact h'.ent aEt⟩)
 obtain ⟨i,hil,hie,hip,hin⟩:=hix.resolve_left (fun h9=>h1 h9.1)
 rw [hie]
 have hki2 : (kpt p l (i + 1)) = l.take i:=by rw [QhU hil,← hg9 i hil,if_pos hip,Qjl (fun k hk=>by rw [← hg9 k (by omega)];exact hin k hk) (by omega)]
 have hki : (kpt p l (i + 1)).length = i:=by rw [hki2,List.length_take];omega
 refine aT6 ?_
 refine aU3 ?_
 refine Qo (α:=Nat) [5,6,7,16,17,18,19,20,21,22,23,24,25,26,27,28,29,30,31,32,33,34,35] (fun j=>[(6,.int .i64 (j : Int)),(5,.int .i64 ((kpt p l j).length : Int))]) (fun j=>HS w [b] [.blk b 27 tot ((QbX (kpt p l j) l).flatMap TEnt.vals)]) (fun j=>j ≤ l.length) (fun j=>l.length - j) (i + 1) (by omega) (by rw [hki];exact aSx) (fun w h=>by rw [hki2,Qgt];exact h.ent aEt) (fun j hj1=>?_)
 have hkl:=QqY (p:=p) (l:=l) (j:=j)
 refine aU8 ?_
 refine sCd rfl (fun h2=>?_) fun h2=>?_
 ·have hj : j < l.length:=by have hq8:=h2;omega
  have hst:=QhU (p:=p) hj
  refine aU7 ?_
  refine o_p (Qc rfl rfl rfl Qn (j) (by omega) (by omega) rfl) rfl ?_
  refine o_q (Qx _ rfl rfl Xc rfl (fun w h=>Qep h aPk (k:=j) (by rw [Yi (by omega)];omega) (Nat.zero_add _) (Qda (by omega) hj))) rfl ?_
  refine oAl (fun b3 _=>?_) Xz
  refine aU6 ?_
  refine o_q (Yb rfl rfl hq rfl (fun w1 h1=>hc (nth l j) w1 (Xg hj) (h0.trans1 h1))) rfl ?_
  refine aU2 ?_
  refine sCd rfl (fun h4=>?_) fun h4=>?_
  ·rw [if_neg (by have hq8:=h4;simp [hq8])] at hst
   refine aU5 ?_
   refine o_p (Qc rfl rfl rfl Qn ((kpt p l j).length) (by omega) (by omega) rfl) rfl ?_
   refine Qjq (X9 rfl rfl rfl Xc rfl aPt (by (try rw [Qd]);rw [Qr ev2,Yi (by omega)];omega) rfl) (fun _ _=>?_)
   refine aT4 ?_
   refine aU3 ?_
   refine Qk (L':=[(0,_),(1,_),(4,_),(5,_),(6,_),(8,_),(9,_),(10,_),(11,_),(12,_),(14,_),(15,_)]) aSx (fun _ h=>h) ?_
   refine aT3 ?_
   refine aU2 ?_
   exact Qu (j + 1) (by omega) (by omega) (by rw [hst,List.length_append,List.length_singleton];exact aSx) (fun w h=>by have h2:=Qh7 (K:=(kpt p l j)) (x:=nth l j) (l:=l) (by omega) aPk h;rw [hst];exact h2.ent aEt)
  rw [if_pos (by have hq8:=h4;simpa using hq8)] at hst
  refine aT5 ?_
  refine aU2 ?_
  exact Qu (j + 1) (by omega) (by omega) (by rw [hst];exact aSx) (fun w h=>by rw [hst];exact h.ent aEt)
 obtain rfl : j = l.length:=by have hq8:=h2;omega
 refine Qh rfl ?_
 refine aU4 ?_
 refine o_p (Qp _ _ (kpt p l l.length).length l.length rfl rfl Qn ⟨_,_,rfl,rfl⟩ rfl (by omega) (by omega)) rfl ?_
 refine Qjq (Qel rfl rfl Qn Xz rfl rfl (by simp) aPt (fun hn=>Xk (by omega)) (by rw [Qr ev2,Yi (by omega)];omega)) (fun _ _=>?_)
 refine aU5 ?_
 refine o_p (Qp _ _ 0 (kpt p l l.length).length rfl rfl Qn rfl ⟨_,_,rfl,rfl⟩ (by omega) (by omega)) rfl ?_
 refine Qf (show _ = Value.slice (some ⟨b,0,none⟩) (kpt p l l.length).length cap from by rw [Yq] <;> rfl) ?_
 refine aU2 ?_
 exact rT rfl rfl (fun w' h'=>⟨(),by rw [← Qg5];rfl,trivial,by rw [← Qg5];exact (Qis (K:=(kpt p l l.length)) (l:=l) h' aPk (by omega) (by rw [Qv])).ent aEt⟩)
theorem c119 (w : World) (b cap tot : Nat) (l : List TEnt) (w00 : World) (q : Nat) (cv : Array Value) (e : TEnt → TEnt → Bool) (h0 : HS w00 [b] [] w) (hw : HS w [b] [.blk b 27 tot (l.flatMap TEnt.vals)] w) (hn : l.length ≤ 1000000) (hnc : l.length ≤ cap) (hq : QM Tryz.prog q = true) (hc : ∀ x y w1,x ∈ l → y ∈ l → HS w00 [b] [] w1 → Calls Tryz.prog q (#[] ++ [.agg (TEnt.vals (x)).toArray,.agg (TEnt.vals (y)).toArray].toArray ++ cv) w1 fun en w2=>en = .returned (.bool (e x y)) ∧ Below w1.heap.size w1 w2) : Calls Tryz.prog 119 #[.slice (some ⟨b,0,none⟩) l.length cap,.func (.func q) #[] cv] w fun en w'=>∃ g : Unit,en = .returned (.slice (some ⟨b,0,none⟩) (cpT e l l.length).length cap) ∧ True ∧ HS w [b] [.blk b 27 tot ((cpT e l l.length).flatMap TEnt.vals)] w':=by
 refine eW2 Tryz.func119 Tryz.ntmps119 hw ?_
 refine QiV ?_
 refine sCd rfl (fun h1=>?_) fun h1=>?_
 ·have hfl : cpT e l l.length = l:=Qmw (by have hq8:=h1;omega)
  refine aU5 ?_
  exact rT rfl rfl (fun w' h'=>⟨(),by rw [hfl];rfl,trivial,by rw [hfl];exact h'.ent aEt⟩)
 have hl2 : 2 ≤ l.length:=by have hq8:=h1;omega
 refine aU7 ?_
 refine Qo (α:=Nat) [4,5,6,7,12,13,14,15,16,17,18,19,20,21,22,23,24,25,26,27,28,29,30,31,32,33,34,35,36,37,38,39,40,41,42,43,44,45,46,47,48,49,50,51,52,53,54,55,56,57,58,59,60,61,62,63,64] (fun k=>[(5,.int .i64 (k : Int))]) (fun _=>HS w [b] [.blk b 27 tot (l.flatMap TEnt.vals)]) (fun k=>1 ≤ k ∧ k ≤ l.length ∧ cpT e l k = l.take k) (fun k=>l.length - k) 1 ⟨Nat.le_refl _,by omega,QpJ (by omega) (.inl rfl) rfl⟩ aSx (fun w h=>h.ent aEt) (fun k hkk=>?_)
 obtain ⟨hk1,hk2,hkt⟩:=hkk
 refine aU8 ?_
 refine sCd rfl (fun h2=>?_) fun h2=>?_
 ·have hk : k < l.length:=by have hq8:=h2;omega
  refine aU4 ?_
  refine QF [] QV ?_
  refine dP 0 ?_
  refine dP 1 ?_
  refine dP 2 ?_
  refine dV 3 rfl (Qc rfl rfl rfl Qn (k) (by omega) (by omega) rfl) ?_
  refine dQ 4 [] rfl (Qx _ rfl rfl Xc rfl (fun w h=>Qht h aPk (k:=k) (by omega))) ?_
  refine dP 5 ?_
  refine dP 6 ?_
  refine dP 7 ?_
  try refine dWr ?_
  refine Q5 (show _ = Value.int .i64 ((k - 1 : Nat) : Int) from congrArg (Value.int .i64) (by omega)) ?_
  refine dV 8 rfl (Qc rfl rfl rfl Qn ((k - 1)) (by omega) (by omega) rfl) ?_
  refine dQ 9 [] rfl (Qx _ rfl rfl Xc rfl (fun w h=>Qht h aPk (k:=k - 1) (by omega))) ?_
  refine dQ 10 [] rfl (Yb rfl rfl hq rfl (fun w1 h1=>hc (nth l k) (nth l (k - 1)) w1 (Xg (by omega)) (Xg (by omega)) (h0.trans1 h1))) ?_
  refine dNi ?_
  refine sCd rfl (fun h3=>?_) fun h3=>?_
  ·have hcy : cpT e l (k + 1) = l.take k:=by rw [QkS (by omega) h3,hkt]
   have hcl : (cpT e l (k + 1)).length = k:=by rw [hcy,List.length_take];omega
   refine aU4 ?_
   refine o_p (Qp _ _ k l.length rfl rfl Qn ⟨_,_,rfl,rfl⟩ rfl (by omega) (by omega)) rfl ?_
   refine Qf (show _ = Value.slice (some ⟨b,k * 2,none⟩) (l.length - k) (cap - k) from by rw [Xk (by omega)] <;> (congr 1 <;> omega)) ?_
   refine aU8 ?_
   refine Qk (L':=[(0,_),(1,_),(5,_),(6,_),(7,_),(8,_),(9,_),(10,_)]) aSx (fun _ h=>h) ?_
   refine Qo (α:=Nat) [5,7,32,33,34,35,36,37,38,39,40,41,42,43,44,45,46,47,48,49,50,51,52,53,54,55,56,57,58] (fun m=>[(7,.int .i64 (m : Int)),(5,.int .i64 ((cpT e l (k + m)).length : Int))]) (fun m=>HS w [b] [.blk b 27 tot ((QbX (cpT e l (k + m)) l).flatMap TEnt.vals)]) (fun m=>1 ≤ m ∧ k + m ≤ l.length ∧ (cpT e l (k + m)).length ≤ k + m - 1) (fun m=>l.length - (k + m)) 1 ⟨Nat.le_refl _,by omega,by rw [hcl];omega⟩ (by rw [hcl];exact aSx) (fun w h=>by rw [hcy,Qgt];exact h.ent aEt) (fun m hmm=>?_)
   obtain ⟨hm1,hm2,hml⟩:=hmm
   refine aU8 ?_
   refine sCd rfl (fun h4=>?_) fun h4=>?_
   ·have hm3 : k + m < l.length:=by have hq8:=h4;omega
    refine aU4 ?_
    refine QF [] QV ?_
    refine dP 0 ?_
    refine dP 1 ?_
    refine dP 2 ?_
    refine dV 3 rfl (Qc rfl rfl rfl Qn (m) (by omega) (by omega) rfl) ?_
    refine dQ 4 [] rfl (Qx _ rfl rfl Xc rfl (fun w h=>Qep h aPk (k:=k + m) (by rw [Yi (by omega)];omega) (by omega) (Qda (by omega) (by omega)))) ?_
    refine dP 5 ?_
    refine dP 6 ?_
    refine dP 7 ?_
    try refine dWr ?_
    refine Q5 (show _ = Value.int .i64 ((m - 1 : Nat) : Int) from congrArg (Value.int .i64) (by omega)) ?_
    refine dV 8 rfl (Qc rfl rfl rfl Qn ((m - 1)) (by omega) (by omega) rfl) ?_
    refine dQ 9 [] rfl (Qx _ rfl rfl Xc rfl (fun w h=>Qep h aPk (k:=k + m - 1) (by rw [Yi (by omega)];omega) (by omega) (Qda (by omega) (by omega)))) ?_
    refine dQ 10 [] rfl (Yb rfl rfl hq rfl (fun w1 h1=>hc (nth l (k + m)) (nth l (k + m - 1)) w1 (Xg (by omega)) (Xg (by omega)) (h0.trans1 h1))) ?_
    refine dP 11 ?_
    refine dNi ?_
    refine sCd rfl (fun h5=>?_) fun h5=>?_
    ·have hst : cpT e l (k + (m + 1)) = (cpT e l (k + m)) ++ [nth l (k + m)]:=Qq1 (by have hq8:=h5;simp [hq8])
     refine aU6 ?_
     refine o_p (Qc rfl rfl rfl Qn (m) (by omega) (by omega) rfl) rfl ?_
     refine o_q (Qx _ rfl rfl Xc rfl (fun w h=>Qep h aPk (k:=k + m) (by rw [Yi (by omega)];omega) (by omega) (Qda (by omega) (by omega)))) rfl ?_
     refine o_p (Qc rfl rfl rfl Qn ((cpT e l (k + m)).length) (by omega) (by omega) rfl) rfl ?_
     refine Qjq (X9 rfl rfl rfl Xc rfl aPt (by (try rw [Qd]);rw [Qr ev2,Yi (by omega)];omega) rfl) (fun _ _=>?_)
     refine aU ?_
     refine Qk (L':=[(0,_),(1,_),(5,_),(6,_),(7,_),(8,_),(9,_),(10,_)]) aSx (fun _ h=>h) ?_
     refine aT3 ?_
     refine aT6 ?_
     refine aU2 ?_
     exact Qu (m + 1) (by omega) ⟨by omega,by omega,by rw [hst,List.length_append,List.length_singleton];omega⟩ (by rw [hst,List.length_append,List.length_singleton];exact aSx) (fun w h=>by have h2:=Qh7 (K:=(cpT e l (k + m))) (x:=nth l (k + m)) (l:=l) (by omega) aPk h;rw [hst];exact h2.ent aEt)
    have hst : cpT e l (k + (m + 1)) = (cpT e l (k + m)):=QkS (j:=k + m) (by omega) (by have hq8:=h5;simpa using hq8)
    refine aT5 ?_
    refine aU2 ?_
    exact Qu (m + 1) (by omega) ⟨by omega,by omega,by rw [hst];omega⟩ (by rw [hst];exact aSx) (fun w h=>by rw [hst];exact h.ent aEt)
   have hm3 : k + m = l.length:=by have hq8:=h4;omega
   refine Qh rfl ?_
   refine aU4 ?_
   refine o_p (Qp _ _ (cpT e l (k + m)).length l.length rfl rfl Qn ⟨_,_,rfl,rfl⟩ rfl (by omega) (by omega)) rfl ?_
   refine Qjq (Qel rfl rfl Qn Xz rfl rfl (by simp) aPt (fun hn=>Xk (by omega)) (by rw [Qr ev2,Yi (by omega)];omega)) (fun _ _=>?_)
   refine aU5 ?_
   refine o_p (Qp _ _ 0 (cpT e l (k + m)).length rfl rfl Qn rfl ⟨_,_,rfl,rfl⟩ (by omega) (by omega)) rfl ?_
   refine Qf (show _ = Value.slice (some ⟨b,0,none⟩) (cpT e l (k + m)).length cap from by rw [Yq] <;> rfl) ?_
   refine aU2 ?_
   exact rT rfl rfl (fun w' h'=>⟨(),by rw [← hm3];rfl,trivial,by have h2:=(Qis (K:=(cpT e l (k + m))) (l:=l) h' aPk (by omega) (by rw [Qv]));rw [← hm3];exact h2.ent aEt⟩)
  have hcn:=QpJ hk (.inr (by have hq8:=h3;simp [hq8])) hkt
  refine aT5 ?_
  refine aU2 ?_
  exact sBk (k + 1) (by omega) ⟨by omega,by omega,hcn⟩
 obtain rfl : k = l.length:=by have hq8:=h2;omega
 have hfl : cpT e l l.length = l:=by rw [hkt,List.take_length]
 refine Qh rfl ?_
 refine aU5 ?_
 exact rT rfl rfl (fun w' h'=>⟨(),by rw [hfl];rfl,trivial,by rw [hfl];exact h'.ent aEt⟩)
theorem QvR (w : World) (a : Option Addr) (cap : Nat) (q : Nat) (cv : Array Value) (hq : QM Tryz.prog q = true) : Calls Tryz.prog 115 #[.slice a 0 cap,.func (.func q) #[] cv] w fun en w'=>en = .returned (.slice a 0 cap) ∧ Below w.heap.size w w':=by
 refine eN2 Tryz.func115 Tryz.ntmps115 ?_
 refine aU8 ?_
 refine oCq rfl (fun w1 h1=>c176 w1 a cap [] q cv [] ⟨fun h9=>absurd h9 (by simp)⟩ (by decide) hq rfl (fun k w2 hk h2=>absurd hk (by simp))) ?_
 refine aU8 ?_
 refine sCd rfl (fun h1=>?_) fun h1=>?_
 ·refine aU5 ?_
  exact rT rfl rfl (fun w' h'=>⟨by rfl,h'.below⟩)
 exfalso;exact h1 rfl
theorem QvG (w : World) (a : Option Addr) (cap : Nat) (q : Nat) (cv : Array Value) (hq : QM Tryz.prog q = true) : Calls Tryz.prog 119 #[.slice a 0 cap,.func (.func q) #[] cv] w fun en w'=>en = .returned (.slice a 0 cap) ∧ Below w.heap.size w w':=by
 refine eN2 Tryz.func119 Tryz.ntmps119 ?_
 refine QiV ?_
 refine sCd rfl (fun h1=>?_) fun h1=>?_
 ·refine aU5 ?_
  exact rT rfl rfl (fun w' h'=>⟨by rfl,h'.below⟩)
 exfalso;have hq8:=h1;omega
theorem Qvc (w : World) (a : Option Addr) (cap : Nat) (q : Nat) (cv : Array Value) : Calls Tryz.prog 222 #[.slice a 0 cap,.int .i64 0,.int .i64 0,.func (.func q) #[] cv] w fun en w'=>en = .returned (.tuple #[]) ∧ Below w.heap.size w w':=by
 refine eN4 Tryz.func222 Tryz.ntmps222 ?_
 refine aT4 ?_
 refine aU3 ?_
 refine Qo (α:=Unit) [8,9,12,13,14,15,16,17,18,19,20,21,22,23,24,25,26,27,28,29,30,31,32,33,34,35,36,37,38,39,40,41,42,43,44,45,46,47,48,49,50,51,52] (fun _=>[(8,.int .i64 1)]) (fun _=>HS w [] []) (fun _=>True) (fun _=>0) () trivial aSx (fun w h=>h.ent aEt) (fun _ _=>?_)
 refine aU7 ?_
 refine sCd rfl (fun h1=>?_) fun h1=>?_
 ·exfalso;have hq8:=h1;omega
 refine Qh rfl ?_
 exact YY rfl (fun w' h'=>⟨rfl,h'.below⟩)
theorem QvQ (w : World) (a : Option Addr) (cap : Nat) (q : Nat) (cv : Array Value) : Calls Tryz.prog 177 #[.slice a 0 cap,.int .i64 0,.func (.func q) #[] cv] w fun en w'=>en = .returned (.tuple #[]) ∧ Below w.heap.size w w':=by
 refine eN3 Tryz.func177 Tryz.ntmps177 ?_
 refine QaE ?_
 refine Qo (α:=Unit) [7,8,11,12,13,14,15,16,17,18,19,20,21,22] (fun _=>[(7,.int .i64 0),(8,.int .i64 20)]) (fun _=>HS w [] []) (fun _=>True) (fun _=>0) () trivial aSx (fun w h=>h.ent aEt) (fun _ _=>?_)
 refine aU7 ?_
 refine sCd rfl (fun h1=>?_) fun h1=>?_
 ·exfalso;have hq8:=h1;omega
 refine Qh rfl ?_
 refine aU6 ?_
 refine oCq rfl (fun w1 h1=>Qvc w1 a cap q cv) ?_
 refine aU2 ?_
 refine Qo (α:=Unit) [6,7,8,9,28,29,30,31,32,33,34,35,36,37,38,39,40,41,42,43,44,45,46,47,48,49,50,51,52,53,54,55,56,57,58,59,60,61,62] (fun _=>[(6,.int .i64 20)]) (fun _=>HS w [] []) (fun _=>True) (fun _=>0) () trivial aSx (fun w h=>h.ent aEt) (fun _ _=>?_)
 refine aU7 ?_
 refine sCd rfl (fun h2=>?_) fun h2=>?_
 ·exfalso;have hq8:=h2;omega
 refine Qh rfl ?_
 exact YY rfl (fun w' h'=>⟨rfl,h'.below⟩)
theorem Qvs (w : World) (a : Option Addr) (cap : Nat) (q : Nat) (cv : Array Value) : Calls Tryz.prog 118 #[.slice a 0 cap,.func (.func q) #[] cv] w fun en w'=>en = .returned (.tuple #[]) ∧ Below w.heap.size w w':=by
 refine eN2 Tryz.func118 Tryz.ntmps118 ?_
 refine aU5 ?_
 refine oCq rfl (fun w1 h1=>QvQ w1 a cap q cv) ?_
 refine aU ?_
 exact YY rfl (fun w' h'=>⟨rfl,h'.below⟩)
theorem Qtt : QM Tryz.prog 116 = true:=by kernel_rfl
theorem QsR : QM Tryz.prog 120 = true:=by kernel_rfl
theorem Qs8 : QM Tryz.prog 115 = true:=by kernel_rfl
theorem Qtc : QL Tryz.prog 174 = some [.nilFunc]:=by kernel_rfl
theorem Qul : QM Tryz.prog 118 = true:=by kernel_rfl
theorem Qtd : QM Tryz.prog 119 = true:=by kernel_rfl
theorem QvB (w : World) (a : Option Addr) (cap : Nat) (l : List TEnt) (q : Nat) (cv : Array Value) (p : TEnt → Bool) (hw : HS w (fps [.own (.slice a (l).length cap) 27 2 (l).length ((l).flatMap TEnt.vals)]) [.own (.slice a (l).length cap) 27 2 (l).length ((l).flatMap TEnt.vals)] w) (hn : l.length ≤ 1000000) (hq : QM Tryz.prog q = true) (hc : ∀ x w1,x ∈ l → HS w (fps [.own (.slice a (l).length cap) 27 2 (l).length ((l).flatMap TEnt.vals)]) [] w1 → Calls Tryz.prog q (#[] ++ [.agg (TEnt.vals (x)).toArray].toArray ++ cv) w1 fun en w2=>en = .returned (.bool (p x)) ∧ Below w1.heap.size w1 w2) : Calls Tryz.prog 115 #[.slice a l.length cap,.func (.func q) #[] cv] w fun en w'=>∃ g : Unit,en = .returned (.slice a (l.filter fun x=>!p x).length cap) ∧ True ∧ HS w (fps [.own (.slice a (l).length cap) 27 2 (l).length ((l).flatMap TEnt.vals)]) [.own (.slice a (l.filter fun x=>!p x).length cap) 27 2 (l.filter fun x=>!p x).length ((l.filter fun x=>!p x).flatMap TEnt.vals)] w':=by
  rcases Nat.eq_zero_or_pos l.length with h0 | h0
  · obtain rfl : l = []:=List.eq_nil_of_length_eq_zero h0;refine (QvR w a cap q cv hq).mono fun en w' ⟨he,hb⟩=>⟨(),he,trivial,hw.stable hb⟩
  · obtain ⟨b,rfl,_,hnc,hcm,hxl,hb⟩:=hw.own_blk h0 .here;refine (c115 w b cap (cap * 2) l w q cv p (HS.refl w [b]) hb hn hnc hq hc).mono fun en w' ⟨_,he,_,h⟩=>⟨(),he,trivial,?_⟩;exact HS.own_shut h (Qr ev2 _) (Nat.le_trans (List.length_filter_le _ l) hnc) hcm
theorem Qvi (w : World) (a : Option Addr) (cap : Nat) (l : List TEnt) (q : Nat) (cv : Array Value) (e : TEnt → TEnt → Bool) (hw : HS w (fps [.own (.slice a (l).length cap) 27 2 (l).length ((l).flatMap TEnt.vals)]) [.own (.slice a (l).length cap) 27 2 (l).length ((l).flatMap TEnt.vals)] w) (hn : l.length ≤ 1000000) (hq : QM Tryz.prog q = true) (hc : ∀ x y w1,x ∈ l → y ∈ l → HS w (fps [.own (.slice a (l).length cap) 27 2 (l).length ((l).flatMap TEnt.vals)]) [] w1 → Calls Tryz.prog q (#[] ++ [.agg (TEnt.vals (x)).toArray,.agg (TEnt.vals (y)).toArray].toArray ++ cv) w1 fun en w2=>en = .returned (.bool (e x y)) ∧ Below w1.heap.size w1 w2) : Calls Tryz.prog 119 #[.slice a l.length cap,.func (.func q) #[] cv] w fun en w'=>∃ g : Unit,en = .returned (.slice a (cpT e l l.length).length cap) ∧ True ∧ HS w (fps [.own (.slice a (l).length cap) 27 2 (l).length ((l).flatMap TEnt.vals)]) [.own (.slice a (cpT e l l.length).length cap) 27 2 (cpT e l l.length).length ((cpT e l l.length).flatMap TEnt.vals)] w':=by
  rcases Nat.eq_zero_or_pos l.length with h0 | h0
  · obtain rfl : l = []:=List.eq_nil_of_length_eq_zero h0;refine (QvG w a cap q cv hq).mono fun en w' ⟨he,hb⟩=>⟨(),he,trivial,hw.stable hb⟩
  · obtain ⟨b,rfl,_,hnc,hcm,hxl,hb⟩:=hw.own_blk h0 .here;refine (c119 w b cap (cap * 2) l w q cv e (HS.refl w [b]) hb hn hnc hq hc).mono fun en w' ⟨_,he,_,h⟩=>⟨(),he,trivial,?_⟩;exact HS.own_shut h (Qr ev2 _) (Nat.le_trans (Qlt _) hnc) hcm
theorem QnV (co : Int) (l : List TEnt) : (stab (cI co l) l.length (List.range l.length)).flatMap (sV l) = ((Qd1 co l).map (nth l)).flatMap TEnt.vals:=by
  rw [List.flatMap_map];rfl
theorem QpE (l : List TEnt) : (List.range l.length).flatMap (sV l) = l.flatMap TEnt.vals:=by
  have h : (List.range l.length).map (nth l) = l:=by
    apply List.ext_getElem?;intro i;rw [List.getElem?_map];rcases Nat.lt_or_ge i l.length with hi | hi
    · rw [List.getElem?_range hi,Option.map_some,Ya hi]
    · rw [List.getElem?_eq_none (by rw [List.length_range];exact hi),List.getElem?_eq_none hi];rfl
  conv=>rhs;rw [← h]
  rw [List.flatMap_map];rfl
theorem QeZ (co : Int) (l : List TEnt) : ((Qd1 co l).map (nth l)).length = l.length:=by
  rw [List.length_map];exact (QhR ((QlK co l).ord l.length)).1.length_eq.trans List.length_range
theorem QnH {co : Int} {l : List TEnt} {x : TEnt} (h : x ∈ (Qd1 co l).map (nth l)) : x ∈ l:=by
  obtain ⟨i,hi,rfl⟩:=List.mem_map.1 h;have h1:=(QhR ((QlK co l).ord l.length)).1.mem_iff.1 hi;rw [List.mem_range] at h1;exact Xg h1
theorem Qvb (w : World) (a : Option Addr) (cap : Nat) (l : List TEnt) (q : Nat) (cv : Array Value) (co : Int) (hw : HS w (fps [.own (.slice a (l).length cap) 27 2 (l).length ((l).flatMap TEnt.vals)]) [.own (.slice a (l).length cap) 27 2 (l).length ((l).flatMap TEnt.vals)] w) (hn : l.length ≤ 1000000) (hq : QM Tryz.prog q = true) (hc : ∀ x y w1,x ∈ l → y ∈ l → HS w (fps [.own (.slice a (l).length cap) 27 2 (l).length ((l).flatMap TEnt.vals)]) [] w1 → Calls Tryz.prog q (#[] ++ [.agg (TEnt.vals (x)).toArray,.agg (TEnt.vals (y)).toArray].toArray ++ cv) w1 fun en w2=>en = .returned (.int .i64 (Xo co x.key y.key)) ∧ Below w1.heap.size w1 w2) : Calls Tryz.prog 118 #[.slice a l.length cap,.func (.func q) #[] cv] w fun en w'=>∃ g : Unit,en = .returned (.tuple #[]) ∧ True ∧ HS w (fps [.own (.slice a (l).length cap) 27 2 (l).length ((l).flatMap TEnt.vals)]) [.own (.slice a ((Qd1 co l).map (nth l)).length cap) 27 2 ((Qd1 co l).map (nth l)).length (((Qd1 co l).map (nth l)).flatMap TEnt.vals)] w':=by
  rw [QeZ];rcases Nat.eq_zero_or_pos l.length with h0 | h0
  · obtain rfl : l = []:=List.eq_nil_of_length_eq_zero h0;refine (Qvs w a cap q cv).mono fun en w' ⟨he,hb⟩=>⟨(),he,trivial,hw.stable hb⟩
  · obtain ⟨b,rfl,_,hnc,hcm,hxl,hb⟩:=hw.own_blk h0 .here;rw [← QpE] at hb;refine (c118 w l b l.length cap (cap * 2) l.length (List.range l.length) w q cv (cI co l) ⟨List.length_range,fun i hi=>List.mem_range.1 hi⟩ hb hn (HS.refl w [b]) hq (fun p p1 w1 hp hp1 h1=>hc _ _ w1 (Xg hp) (Xg hp1) h1)).mono fun en w' ⟨_,he,_,h⟩=>⟨(),he,trivial,?_⟩;rw [QnV] at h;exact HS.own_shut h (by rw [Qr ev2,QeZ]) hnc hcm
def Ye (x : Ixs) : Nat → List TEnt
  | 0=>(nth (Qa x.ro).1.ns 0).es
  | k + 1=>if Y7 x (k + 1) = true then Ye x k ++ (XD (x.blk (k + 1)) ((k + 1 : Nat) : Int)).n.es else Ye x k
def Y5 (x : Ixs) : List TEnt:=if ixE x = 0 then Qkd (Qa x.ro).1.co ((Ye x x.n).filter fun y=>!!Qz (Qa x.ro).1.co y.key) else []
theorem Qr4 {x : Ixs} {i : Nat} (h1 : Y7 x i = true) : Ye x (i + 1 - 1) = Ye x (i - 1) ++ (XD (x.blk i) ((i : Nat) : Int)).n.es:=by
  obtain ⟨h3,_⟩:=Qhq h1;obtain ⟨k,rfl⟩ : ∃ k,i = k + 1:=⟨i - 1,by omega⟩;rw [Nat.add_sub_cancel,Ye,if_pos h1,Nat.add_sub_cancel]
theorem QsZ {x : Ixs} {i : Nat} (h : ¬ Y7 x i = true) : Ye x (i + 1 - 1) = Ye x (i - 1):=by
  cases i with
  | zero=>rfl
  | succ k=>rw [Nat.add_sub_cancel,Ye,if_neg h,Nat.add_sub_cancel]
theorem Qbl {x : Ixs} (h : (Qa x.ro).2 = 0) : ∀ k,(Ye x k).length ≤ 255 * (k + 1) ∧ ∀ y ∈ Ye x k,y.key.length ≤ 1000000 ∧ y.val.length ≤ 1000000
  | 0=>⟨by have:=(NdF.root h).1.sm.es;show (nth (Qa x.ro).1.ns 0).es.length ≤ _;omega,(NdF.root h).1.sm.ent⟩
  | k + 1=>by
    obtain ⟨h1,h2⟩:=Qbl h k;have h3:=NdS.of (x.blk (k + 1)) ((k + 1 : Nat) : Int);rw [Ye];split
    · refine ⟨by rw [List.length_append];have:=h3.es;omega,fun y hy=>?_⟩;rcases List.mem_append.1 hy with hy | hy
      · exact h2 y hy
      · exact h3.ent y hy
    · exact ⟨by omega,h2⟩
theorem QtE (co : Int) (l : List TEnt) : cpT (fun x y=>decide (Xo co x.key y.key = 0)) ((Qd1 co l).map (nth l)) ((Qd1 co l).map (nth l)).length = Qkd co l:=by
  rw [List.length_map,QoK co l (Qd1 co l) _ (Nat.le_refl _),List.take_length];rfl
set_option maxHeartbeats 4000000 in
theorem c48 (w : World) (x : Ixs) (hl : x.al.length ≤ 900000) (hr : x.ro.length ≤ 1000000) (hb : x.bm.length ≤ 100000) : Calls Tryz.prog 48 #[.agg #[.string (bs x.ro),.string (bs x.al),.string (bs x.bm)]] w fun en w'=>∃ g : Option Addr × Nat,en = .returned (.tuple #[.slice g.1 (Y5 x).length g.2,.int .i64 (ixE x)]) ∧ True ∧ HS w [] [.own (.slice g.1 (Y5 x).length g.2) 27 2 (Y5 x).length ((Y5 x).flatMap TEnt.vals)] w':=by
 have hn9 : x.n ≤ x.al.length:=Nat.div_le_self _ _
 have hn8 : x.n = x.al.length / 512:=rfl
 refine eN1 Tryz.func48 Tryz.ntmps48 ?_
 refine aU2 ?_
 refine oBx fun b1 _=>?_
 refine aU6 ?_
 refine oCh rfl (fun w1 h1=>c56 w1 x hl hr hb) (fun ⟨⟨c1,m1,r1⟩,⟨ra,rc⟩,RL⟩ hRL=>?_)
 refine aU3 ?_
 refine oAl (fun b2 _=>?_) QeK
 refine aU9 ?_
 refine sCd rfl (fun h3=>?_) fun h3=>?_
 ·have hR : Y5 x = []:=if_neg h3
  refine aU6 ?_
  exact Qs (rs:=[.tmp 2,.tmp 3]) rfl (.tmp rfl (.tmp rfl (.nil))) (fun w' h'=>⟨(none,0),by rw [hR];rfl,trivial,by rw [hR];exact (h'.nil.own_nil 27 2).ent aEt⟩)
 have hE : ixE x = 0:=h3
 have hRT:=hRL hE
 dsimp only at hRT
 obtain rfl : c1 = (Qa x.ro).1.co:=congrArg Tre.co hRT
 obtain rfl : m1 = (Qa x.ro).1.mo:=congrArg Tre.mo hRT
 obtain rfl : r1 = (Qa x.ro).1.rm:=congrArg Tre.rm hRT
 have hRn : pln RL = (Qa x.ro).1.ns:=congrArg Tre.ns hRT
 obtain ⟨hA,hB,hC,hO,hLs⟩:=QgN hE
 have hb8 : x.n ≤ 8 * x.bm.length:=by have:=Y1 ((x.n + 7) / 8);omega
 obtain ⟨n0,l0,_,_,_,hrt,_,_,hco,_⟩:=Qds hC
 have hco : Qw (Qa x.ro).1.co = 0:=by rw [hrt];exact hco
 have hns : (Qa x.ro).1.ns = [n0]:=by rw [hrt]
 have hs0 : Ye x 0 = n0.es:=by show (nth (Qa x.ro).1.ns 0).es = _;rw [hns];rfl
 rw [hns] at hRn
 obtain ⟨x9,hx9,hxp⟩:=QjL hRn
 subst hx9
 refine Qcw (fun w9 h=>HS.nodes_some (L:=[x9]) (Nat.succ_pos _) h aPk) fun hna=>?_
 obtain ⟨g9,rfl,hna1,hna2⟩:=hna
 refine Qk3 (fun w9 h=>(show HS w [] (.blk g9 69 (rc * 3) [.bool x9.us,.slice x9.ea x9.es.length x9.ec,.slice x9.ca x9.cs.length x9.cc] :: .ents 27 x9.ea x9.ec x9.es :: .kids x9.ca x9.cc x9.cs :: _) w9 from QgD h aPk)) ?_
 have hx9e : Ye x 0 = x9.es:=by rw [hs0,← hxp];rfl
 have hsm0:=(Qbl hC 0).1
 rw [hx9e] at hsm0
 refine aU6 ?_
 refine Qf (show _ = Value.slice (some ⟨g9,0,none⟩) 1 rc from rfl) ?_
 refine o_p (Qc rfl rfl rfl Qjf 0 rfl (by omega) rfl) rfl ?_
 refine aU2 ?_
 refine oCh rfl (fun w1 h1=>c114 w1 x9.ea x9.ec x9.es (HS.rw_own (l:=x9.es) ev2 h1 aPk rfl) (by omega)) (fun ⟨sa,sc⟩ _=>?_)
 refine aU6 ?_
 refine oCq rfl (fun w1 h1=>Qrc w1 x (Qa x.ro).1.co (Qa x.ro).1.mo (Qa x.ro).1.rm (some ⟨g9,0,none⟩) 1 rc (by omega)) ?_
 refine aT ?_
 refine aU3 ?_
 refine Qk (L':=[(2,_),(3,_),(4,_),(6,_),(28,_),(29,_)]) aSx (fun _ h=>h) ?_
 refine Qo (α:=Nat × Option Addr × Nat) [6,7,8,9,29,30,31,32,33,34,35,36,37,38,39,40,41,42,43,44,45,46,47,48] (fun y=>[(29,.int .i64 (y.1 : Int)),(6,.slice y.2.1 (Ye x (y.1 - 1)).length y.2.2)]) (fun y=>HS w [] [.own (.slice y.2.1 ((Ye x (y.1 - 1))).length y.2.2) 27 2 ((Ye x (y.1 - 1))).length (((Ye x (y.1 - 1))).flatMap TEnt.vals),.blk b1 23 3 [.string (bs x.ro),.string (bs x.al),.string (bs x.bm)],.blk b2 108 7 [.string (bs x.ro),.string (bs x.al),.string (bs x.bm),.int .i64 (Qa x.ro).1.co,.int .i64 (Qa x.ro).1.mo,.int .i64 (Qa x.ro).1.rm,.slice (some ⟨g9,0,none⟩) 1 rc]]) (fun y=>y.1 ≤ x.n + 1) (fun y=>x.n + 1 - y.1) (0,sa,sc) (Nat.zero_le _) (by rw [show Ye x (0 - 1) = x9.es from hx9e];exact aSx) (fun w h=>by dsimp only;rw [show Ye x (0 - 1) = x9.es from hx9e];exact h.ent aEt) (fun ⟨i,ga,gc⟩ hi1=>?_)
 dsimp only
 simp only [] at hi1
 have hkl:=(Qbl hC (i - 1)).1
 refine aU5 ?_
 refine sCd rfl (fun h4=>?_) fun h4=>?_
 ·have hi : i < x.n + 1:=by have hq:=h4;omega
  refine QaE ?_
  refine oCq rfl (fun w1 h1=>c61 w1 x (Qa x.ro).1.co (Qa x.ro).1.mo (Qa x.ro).1.rm (some ⟨g9,0,none⟩) 1 rc i (by omega) hb8) ?_
  refine aU ?_
  refine sCd rfl (fun h5=>?_) fun h5=>?_
  ·have hnm9 : Y7 x i = true:=h5
   obtain ⟨hb1,hb2,hb3⟩:=Qhq hnm9
   have hbl9 : 1 ≤ i ∧ i * 512 ≤ x.al.length:=⟨hb1,hb3⟩
   have hb5:=Qei hbl9
   have hst:=Qr4 hnm9
   refine aU4 ?_
   refine oCq rfl (fun w1 h1=>c64 w1 x (Qa x.ro).1.co (Qa x.ro).1.mo (Qa x.ro).1.rm (some ⟨g9,0,none⟩) 1 rc i (by omega) hbl9) ?_
   refine aU ?_
   refine oCh rfl (fun w1 h1=>c63 w1 (x.blk i) ((i : Nat) : Int) (by omega)) (fun g2 hg2=>?_)
   refine aU3 ?_
   refine oAl (fun b6 _=>?_) QaH
   refine aU8 ?_
   have hges : g2.es = (XD (x.blk i) ((i : Nat) : Int)).n.es:=congrArg Nd.es hg2
   have hgel:=(NdS.of (x.blk i) ((i : Nat) : Int)).es
   rw [← hges] at hgel
   refine o_h (QK (g2.es.flatMap TEnt.vals) rfl rfl rfl Qn Tryz.underlying67 Xz rfl aPk (fun w h=>Rw.src ev2 (HS.rw_own (l:=g2.es) ev2 h aPk rfl) (HS.refl w [])) (by rw [Qr ev2]) (Zh ev1 _) (by omega) (by simp only [maxLen];omega)) rfl (fun b7 _=>?_)
   refine aT5 ?_
   refine aU2 ?_
   exact Qu (i + 1,b7.1,b7.2) (by (try simp only []);omega) (by (try simp only []);omega) (by dsimp only;rw [hst,← hges,List.length_append];exact aSx) (fun w h=>by have h2:=h;dsimp only;rw [hst,← hges,List.length_append,List.flatMap_append];exact h2.ent aEt)
  have hst:=QsZ (x:=x) (i:=i) (by have hq:=h5;simp [hq])
  refine aT4 ?_
  refine aU2 ?_
  exact Qu (i + 1,ga,gc) (by (try simp only []);omega) (by (try simp only []);omega) (by dsimp only;rw [hst];exact aSx) (fun w h=>by dsimp only;rw [hst];exact h.ent aEt)
 obtain rfl : i = x.n + 1:=by have hq:=h4;omega
 rw [Nat.add_sub_cancel]
 have hsm:=Qbl hC x.n
 have hR : Y5 x = Qkd (Qa x.ro).1.co ((Ye x x.n).filter fun y=>!!Qz (Qa x.ro).1.co y.key):=if_pos hE
 generalize Ye x x.n = G1 at hsm hR ⊢
 refine Qh rfl ?_
 refine aU4 ?_
 refine o_h (QH (Cs:=[.own (.slice ga (G1).length gc) 27 2 (G1).length ((G1).flatMap TEnt.vals)]) rfl Qs8 rfl aPs (fun w1 h1 hf=>QvB w1 ga gc G1 116 #[.pointer (some ⟨b2,0,none⟩)] (fun y=>!Qz (Qa x.ro).1.co y.key) hf (by omega) Qtt (fun y w2 hy h2=>c116 w2 b2 (Qa x.ro).1.co y ((HS.rd_blkF h1 aPs aPk rfl).later h2 (by simp)) hco (hsm.2 y hy).1))) rfl (fun _ _=>?_)
 have hF2 : ∀ y ∈ (G1.filter fun y=>!!Qz (Qa x.ro).1.co y.key),y.key.length ≤ 1000000 ∧ Qz (Qa x.ro).1.co y.key = true:=fun y hy=>by have h9:=List.mem_filter.1 hy;exact ⟨(hsm.2 y h9.1).1,by simpa using h9.2⟩
 have hFl : (G1.filter fun y=>!!Qz (Qa x.ro).1.co y.key).length ≤ 1000000:=Nat.le_trans (List.length_filter_le _ _) (by omega)
 generalize (G1.filter fun y=>!!Qz (Qa x.ro).1.co y.key) = G2 at hR hF2 hFl ⊢
 refine aU5 ?_
 refine oAl (fun b8 _=>?_) Qtc
 refine aU6 ?_
 refine o_h (QH (Cs:=[.own (.slice ga (G2).length gc) 27 2 (G2).length ((G2).flatMap TEnt.vals)]) rfl Qul rfl aPs (fun w1 h1 hf=>Qvb w1 ga gc G2 117 #[.pointer (some ⟨b2,0,none⟩)] (Qa x.ro).1.co hf (by omega) Qpo (fun y z w2 hy hz h2=>c117 w2 b2 (Qa x.ro).1.co y z ((HS.rd_blkF h1 aPs aPk rfl).later h2 (by simp)) hco (hF2 y hy).1 (hF2 z hz).1 (hF2 y hy).2 (hF2 z hz).2))) rfl (fun _ _=>?_)
 have hGl:=QeZ (Qa x.ro).1.co G2
 have hGm : ∀ y ∈ (Qd1 (Qa x.ro).1.co G2).map (nth G2),y ∈ G2:=fun y hy=>QnH hy
 have hGd:=QtE (Qa x.ro).1.co G2
 generalize (Qd1 (Qa x.ro).1.co G2).map (nth G2) = G3 at hGl hGm hGd ⊢
 refine aU4 ?_
 refine Qf (show _ = Value.slice ga G3.length gc from by rw [hGl]) ?_
 refine aU ?_
 refine o_h (QH (Cs:=[.own (.slice ga (G3).length gc) 27 2 (G3).length ((G3).flatMap TEnt.vals)]) rfl Qtd rfl aPs (fun w1 h1 hf=>Qvi w1 ga gc G3 120 #[.pointer (some ⟨b8,0,none⟩)] (fun y z=>decide (Xo (Qa x.ro).1.co y.key z.key = 0)) hf (by omega) QsR (fun y z w2 hy hz h2=>c120 w2 b8 b2 (Qa x.ro).1.co y z ((HS.rd_blkF h1 aPs aPk rfl).later h2 (by simp)) ((HS.rd_blkF h1 aPs aPk rfl).later h2 (by simp)) hco (hF2 y (hGm y hy)).1 (hF2 z (hGm z hz)).1 (hF2 y (hGm y hy)).2 (hF2 z (hGm z hz)).2))) rfl (fun _ _=>?_)
 rw [hGd]
 refine aU3 ?_
 exact Qs (rs:=[.tmp 2,.tmp 3]) rfl (.tmp rfl (.tmp rfl (.nil))) (fun w' h'=>⟨(ga,gc),by rw [hR,hE];rfl,trivial,by rw [hR];exact h'.ent aEt⟩)
theorem QqT (w : World) (a : Option Addr) (cap : Nat) (l : List TEnt) (m : Nat) (hs : Rw TEnt.vals 2 w [] a (l.take m)) (hm : m ≤ l.length) (hl : l.length ≤ 100000) : Calls Tryz.prog 80 #[.slice a m cap] w fun en w'=>∃ g : Option Addr × Nat,en = .returned (.slice g.1 m g.2) ∧ True ∧ HS w [] [.own (.slice g.1 m g.2) 27 2 m ((l.take m).flatMap TEnt.vals)] w':=by
  have h:=c80 w a cap (l.take m) hs (by rw [List.length_take];omega);rw [List.length_take,Nat.min_eq_left hm] at h;exact h
theorem QcH (l : List TEnt) (m : Nat) (x : TEnt) : (XB l m x).flatMap TEnt.vals = (l.take m).flatMap TEnt.vals ++ TEnt.vals x ++ (l.drop m).flatMap TEnt.vals:=by simp [XB]
theorem QrC {co : Int} {l : List TEnt} {x : TEnt} (h : x ∈ inD co l) : x ∈ l:=by
  have h1:=(Qj0 co l l.length (Nat.le_refl _)).2.1 x;rw [List.take_length] at h1;obtain ⟨i,hi,rfl,_⟩:=h1.1 h;exact Xg hi
def keO (co : Int) (G : List TEnt) (i : Nat) : List TEnt:=inD co ((G.take i).filter fun y=>!!Qz co y.key)
theorem QkX {co : Int} {G : List TEnt} {i : Nat} (hi : i < G.length) (h : Qz co (nth G i).key = false) : keO co G (i + 1) = keO co G i:=by
  unfold keO;rw [List.take_add_one,Ya hi,List.filter_append];simp [h]
theorem Qpg {co : Int} {G : List TEnt} {i : Nat} (hi : i < G.length) (h : Qz co (nth G i).key = true) : keO co G (i + 1) = Qf0 co (keO co G i) (nth G i):=by
  unfold keO inD;rw [List.take_add_one,Ya hi,List.filter_append,List.foldl_append];simp [h]
theorem Qlf {co : Int} {G : List TEnt} {i : Nat} {x : TEnt} (h : x ∈ keO co G i) : x ∈ G ∧ Qz co x.key = true:=by
  have h1:=List.mem_filter.1 (QrC h);exact ⟨List.mem_of_mem_take h1.1,by simpa using h1.2⟩
theorem Qqa (co : Int) (o : List TEnt) (x : TEnt) : (Qf0 co o x).length ≤ o.length + 1:=by
  unfold Qf0;split
  · omega
  · rw [Zx (QjO co x.key o)];omega
theorem QhF {co : Int} {G : List TEnt} : ∀ i,(keO co G i).length ≤ i
  | 0=>by simp [keO,inD]
  | i + 1=>by
    have h:=QhF (G:=G) (co:=co) i;rcases Nat.lt_or_ge i G.length with hi | hi
    · cases hk : Qz co (nth G i).key with
      | false=>rw [QkX hi hk];omega
      | true=>rw [Qpg hi hk];have:=Qqa co (keO co G i) (nth G i);omega
    · unfold keO at h ⊢;rw [List.take_of_length_le hi] at h;rw [List.take_of_length_le (by omega)];omega
theorem Ql0 (co : Int) (G : List TEnt) : keO co G G.length = Qkd co (G.filter fun y=>!!Qz co y.key):=by
  unfold keO;rw [List.take_length,Qtu]
set_option maxHeartbeats 4000000 in
theorem c52 (w : World) (x : Ixs) (hE : ixE x = 0) (hl : x.al.length ≤ 200000) (hr : x.ro.length ≤ 1000000) (hb : x.bm.length ≤ 100000) : Calls Tryz.prog 52 #[.agg #[.string (bs x.ro),.string (bs x.al),.string (bs x.bm)]] w fun en w'=>∃ g : Option Addr × Nat,en = .returned (.slice g.1 (Y5 x).length g.2) ∧ True ∧ HS w [] [.own (.slice g.1 (Y5 x).length g.2) 27 2 (Y5 x).length ((Y5 x).flatMap TEnt.vals)] w':=by
 have hn9 : x.n ≤ x.al.length:=Nat.div_le_self _ _
 have hn8 : x.n = x.al.length / 512:=rfl
 obtain ⟨hA,hB,hC,hO,hLs⟩:=QgN hE
 obtain ⟨n0,l0,_,_,_,hrt,_,_,hco,_⟩:=Qds hC
 have hco : Qw (Qa x.ro).1.co = 0:=by rw [hrt];exact hco
 have hns : (Qa x.ro).1.ns = [n0]:=by rw [hrt]
 have hs0 : Ye x 0 = n0.es:=by show (nth (Qa x.ro).1.ns 0).es = _;rw [hns];rfl
 refine eN1 Tryz.func52 Tryz.ntmps52 ?_
 refine aU2 ?_
 refine oBx fun b1 _=>?_
 refine aU6 ?_
 refine oCh rfl (fun w1 h1=>c31 w1 x.ro hr) (fun ⟨⟨ra,rc⟩,RL⟩ hRn=>?_)
 refine aU3 ?_
 rw [hns] at hRn
 obtain ⟨x9,hx9,hxp⟩:=QjL hRn
 subst hx9
 refine Qkg (fun w9 h=>HS.nodes_some (L:=[x9]) (Nat.succ_pos _) h aPk) fun hna=>?_
 obtain ⟨g9,e9,hna1,hna2⟩:=hna
 subst e9
 refine YN (fun w9 h=>(show HS w [] (.blk g9 69 (rc * 3) [.bool x9.us,.slice x9.ea x9.es.length x9.ec,.slice x9.ca x9.cs.length x9.cc] :: .ents 27 x9.ea x9.ec x9.es :: .kids x9.ca x9.cc x9.cs :: _) w9 from QgD h aPk)) ?_
 have hx9e : Ye x 0 = x9.es:=by rw [hs0,← hxp];rfl
 have hsm0:=(Qbl hC 0).1
 rw [hx9e] at hsm0
 refine oAl (fun b2 _=>?_) Zv
 refine aU7 ?_
 refine Qf (show _ = Value.slice (some ⟨g9,0,none⟩) 1 rc from rfl) ?_
 refine o_p (Qc rfl rfl rfl Qjf 0 rfl (by omega) rfl) rfl ?_
 refine aU2 ?_
 refine oCh rfl (fun w1 h1=>c80 w1 x9.ea x9.ec x9.es (HS.rw_own (l:=x9.es) ev2 h1 aPk rfl) (by omega)) (fun ⟨sa,sc⟩ _=>?_)
 refine aU8 ?_
 refine Qk (L':=[(1,_),(2,_),(3,_),(5,_),(6,_)]) aSx (fun _ h=>h) ?_
 refine Qo (α:=Nat × Option Addr × Nat) [5,6,7,8,9,10,28,29,30,31,32,33,34,35,36,37,38,39,40,41,42,43,44,45,46,47,48,49,50,51,52,53,54] (fun y=>[(6,.int .i64 ((y.1 + 1 : Nat) : Int)),(5,.slice y.2.1 (Ye x y.1).length y.2.2)]) (fun y=>HS w [] [.own (.slice y.2.1 (Ye x y.1).length y.2.2) 27 2 (Ye x y.1).length ((Ye x y.1).flatMap TEnt.vals),.blk b1 23 3 [.string (bs x.ro),.string (bs x.al),.string (bs x.bm)],.blk b2 37 4 [.int .i64 (Qa x.ro).1.co,.int .i64 (Qa x.ro).1.mo,.int .i64 (Qa x.ro).1.rm,.slice (some ⟨g9,0,none⟩) 1 rc]]) (fun y=>y.1 ≤ x.n) (fun y=>x.n - y.1) (0,sa,sc) (Nat.zero_le _) (by rw [hx9e];exact aSx) (fun w h=>by dsimp only;rw [hx9e];exact h.ent aEt) (fun ⟨k,ga,gc⟩ hk1=>?_)
 dsimp only
 simp only [] at hk1
 have hkl:=(Qbl hC k).1
 refine aU5 ?_
 refine oCq rfl (fun w1 h1=>c66 w1 x (by omega)) ?_
 refine aU2 ?_
 refine sCd rfl (fun h3=>?_) fun h3=>?_
 ·have hk : k < x.n:=by have hq:=h3;omega
  have hb5:=Qei (x:=x) (i:=k + 1) (by omega)
  refine aU7 ?_
  refine oCq rfl (fun w1 h1=>c69 w1 x (k + 1) (by omega) (by omega)) ?_
  refine aU ?_
  refine oCh rfl (fun w1 h1=>c39 w1 (x.blk (k + 1)) ((k + 1 : Nat) : Int) (by omega)) (fun g2 hg2=>?_)
  refine aU2 ?_
  have hges : g2.es = (XD (x.blk (k + 1)) ((k + 1 : Nat) : Int)).n.es:=congrArg Nd.es hg2
  have hgel:=(NdS.of (x.blk (k + 1)) ((k + 1 : Nat) : Int)).es
  rw [← hges] at hgel
  refine aU3 ?_
  refine oAl (fun b4 _=>?_) Y6
  refine aU9 ?_
  refine oCq rfl (fun w1 h1=>c67 w1 x (k + 1) (by omega) (by omega)) ?_
  refine aU ?_
  refine YH 3 47 50 rfl
   (fun hg5 _=>by
    refine aU4 ?_
    exact oJt 3 50)
   (fun hg7 _=>by
    refine aU2 ?_
    exact oJf 3 50) ?_
  refine aU ?_
  refine sCd rfl (fun h9=>?_) fun h9=>?_
  ·have hst : Ye x (k + 1) = Ye x k ++ g2.es:=by rw [Ye,if_pos (Qpq (by omega) (by omega) (by have hq:=h9;exact hq.1)),← hges]
   refine aU4 ?_
   refine o_h (QK (g2.es.flatMap TEnt.vals) rfl rfl rfl Qn Tryz.underlying67 Xz rfl aPk (fun w h=>Rw.src ev2 (HS.rw_own (l:=g2.es) ev2 h aPk rfl) (HS.refl w [])) (by rw [Qr ev2]) (Zh ev1 _) (by omega) (by simp only [maxLen];omega)) rfl (fun b10 _=>?_)
   refine aU3 ?_
   refine Qk (L':=[(1,_),(2,_),(3,_),(5,_),(6,_)]) aSx (fun _ h=>h) ?_
   refine aT3 ?_
   refine Qf (show _ = Value.int .i64 ((k + 1 + 1 : Nat) : Int) from congrArg (Value.int .i64) (by omega)) ?_
   refine aU2 ?_
   exact Qu (k + 1,b10.1,b10.2) (by (try simp only []);omega) (by (try simp only []);omega) (by dsimp only;rw [hst,List.length_append];exact aSx) (fun w h=>by have h2:=h;dsimp only;rw [hst,List.length_append,List.flatMap_append];exact h2.ent aEt)
  have hst : Ye x (k + 1) = Ye x k:=by rw [Ye];split;rename_i hN9;have he9 : ¬ (XD (x.blk (k + 1)) ((k + 1 : Nat) : Int)).e = 0:=(fun hN8=>by have hq:=h9;have hN7:=QkV hN9;rw [Nat.add_sub_cancel] at hN7;simp only [Nat.add_sub_cancel] at hq;rw [hN7,hN8] at hq;simp at hq);rw [QtF he9];exact List.append_nil _;rfl
  refine aT5 ?_
  refine Qf (show _ = Value.int .i64 ((k + 1 + 1 : Nat) : Int) from congrArg (Value.int .i64) (by omega)) ?_
  refine aU2 ?_
  exact Qu (k + 1,ga,gc) (by (try simp only []);omega) (by (try simp only []);omega) (by dsimp only;rw [hst];exact aSx) (fun w h=>by dsimp only;rw [hst];exact h.ent aEt)
 obtain rfl : k = x.n:=by have hq:=h3;omega
 have hsm:=Qbl hC x.n
 have hR : Y5 x = Qkd (Qa x.ro).1.co ((Ye x x.n).filter fun y=>!!Qz (Qa x.ro).1.co y.key):=if_pos hE
 rw [← Ql0] at hR
 generalize Ye x x.n = G at hsm hR ⊢
 refine Qcw (p:=0 < (G).length → ga = some ⟨ab ga,ao ga,none⟩) (fun w9 h h0=>Rw.some (HS.rw_own (l:=G) ev2 h aPk rfl) h0) fun hsG=>?_
 refine Qh rfl ?_
 refine QaP ?_
 refine Qo (α:=Nat × Option Addr × Nat) [11,12,13,14,15,55,56,57,58,59,60,61,62,63,64,65,66,67,68,69,70,71,72,73,74,75,76,77,78,79,80,81,82,83,84,85,86,87,88,89,90,91,92,93,94,95,96,97,98,99,100,101,102,103,104,105,106,107,108,109,110,111,112] (fun y=>[(12,.int .i64 (y.1 : Int)),(11,.slice y.2.1 (keO (Qa x.ro).1.co G y.1).length y.2.2)]) (fun y=>HS w [] [.own (.slice ga (G).length gc) 27 2 (G).length ((G).flatMap TEnt.vals),.own (.slice y.2.1 ((keO (Qa x.ro).1.co G y.1)).length y.2.2) 27 2 ((keO (Qa x.ro).1.co G y.1)).length (((keO (Qa x.ro).1.co G y.1)).flatMap TEnt.vals),.blk b1 23 3 [.string (bs x.ro),.string (bs x.al),.string (bs x.bm)],.blk b2 37 4 [.int .i64 (Qa x.ro).1.co,.int .i64 (Qa x.ro).1.mo,.int .i64 (Qa x.ro).1.rm,.slice (some ⟨g9,0,none⟩) 1 rc]]) (fun y=>y.1 ≤ G.length) (fun y=>G.length - y.1) (0,none,0) (Nat.zero_le _) aSx (fun w h=>(h.own_nil 27 2).ent aEt) (fun ⟨i,oa,oc⟩ hi1=>?_)
 dsimp only
 simp only [] at hi1
 have hol:=QhF (co:=(Qa x.ro).1.co) (G:=G) i
 refine Qcw (p:=0 < ((keO (Qa x.ro).1.co G i)).length → oa = some ⟨ab oa,ao oa,none⟩) (fun w9 h h0=>Rw.some (HS.rw_own (l:=(keO (Qa x.ro).1.co G i)) ev2 h aPk rfl) h0) fun hsO=>?_
 refine Qcw (fun w9 h=>(HS.own_facts (a:=oa) (n':=(keO (Qa x.ro).1.co G i).length) aPk h).2.1) fun hoc=>?_
 refine aU8 ?_
 refine sCd rfl (fun h11=>?_) fun h11=>?_
 ·have hi : i < G.length:=by have hq:=h11;omega
  refine aU5 ?_
  refine QF [] QV ?_
  refine dFa 0 ?_
  refine dLd 1 [] ?_
  refine dP 2 ?_
  refine dP 3 ?_
  refine dV 4 rfl (Qc rfl rfl rfl Qn (i) (by omega) (by omega) (hsG (by omega))) ?_
  refine dFa 5 ?_
  refine dQ 6 [] rfl (XQ rfl rfl Qd4 (fun w h=>(HS.rw_own (l:=G) ev2 h aPk rfl).rdj 0 (i:=i) (by omega) rfl)) ?_
  refine dQ 7 [] rfl (Q1 rfl QsE rfl (fun w1 h1=>c17c w1 (Qa x.ro).1.co (nth G i).key hco (hsm.2 _ (Xg hi)).1)) ?_
  refine dP 8 ?_
  refine dNi ?_
  refine sCd rfl (fun h12=>?_) fun h12=>?_
  ·have hkx : Qz (Qa x.ro).1.co (nth G i).key = false:=by have hq:=h12;unfold X8 at hq;grind
   have hst:=QkX hi hkx
   refine Qh rfl ?_
   refine aT3 ?_
   refine aU2 ?_
   exact Qu (i + 1,oa,oc) (by (try simp only []);omega) (by (try simp only []);omega) (by dsimp only;rw [hst];exact aSx) (fun w h=>by dsimp only;rw [hst];exact h.ent aEt)
  have hkx : Qz (Qa x.ro).1.co (nth G i).key = true:=by have hq:=h12;unfold X8 at hq;grind
  have hst:=Qpg hi hkx
  refine aU8 ?_
  refine Qk (L':=[(1,_),(2,_),(3,_),(5,_),(6,_),(11,_),(12,_),(13,_),(14,_),(28,_),(29,_),(30,_),(31,_)]) aSx (fun _ h=>h) ?_
  refine Qo (α:=Nat) [13,14,15,70,71,72,73,74,75,76,77,78,79,80,81,82,83,84,85,86,87,88,89,90,91,92,93,94,95,96] (fun m=>[(13,.int .i64 (m : Int)),(14,.bool false)]) (fun _=>HS w [] [.own (.slice ga (G).length gc) 27 2 (G).length ((G).flatMap TEnt.vals),.own (.slice oa ((keO (Qa x.ro).1.co G i)).length oc) 27 2 ((keO (Qa x.ro).1.co G i)).length (((keO (Qa x.ro).1.co G i)).flatMap TEnt.vals),.blk b1 23 3 [.string (bs x.ro),.string (bs x.al),.string (bs x.bm)],.blk b2 37 4 [.int .i64 (Qa x.ro).1.co,.int .i64 (Qa x.ro).1.mo,.int .i64 (Qa x.ro).1.rm,.slice (some ⟨g9,0,none⟩) 1 rc]]) (fun m=>m ≤ (keO (Qa x.ro).1.co G i).length ∧ ∀ q,q < m → Xo (Qa x.ro).1.co (nth (keO (Qa x.ro).1.co G i) q).key (nth G i).key < 0) (fun m=>(keO (Qa x.ro).1.co G i).length - m) 0 ⟨Nat.zero_le _,fun q h9=>absurd h9 (Nat.not_lt_zero q)⟩ aSx (fun w h=>h.ent aEt) (fun m hmm=>?_)
  obtain ⟨hm1,hm2⟩:=hmm
  refine aU8 ?_
  refine YH 3 74 77 rfl
   (fun hg13 _=>by
    refine aU4 ?_
    exact oJt 3 77)
   (fun hg15 _=>by
    refine aU2 ?_
    exact oJf 3 77) ?_
  refine aU ?_
  refine sCd rfl (fun h17=>?_) fun h17=>?_
  ·have hm9 : m < (keO (Qa x.ro).1.co G i).length:=by have hq:=h17;grind
   refine aU3 ?_
   refine QF [] QV ?_
   refine dFa 0 ?_
   refine dLd 1 [] ?_
   refine dP 2 ?_
   refine dP 3 ?_
   refine dV 4 rfl (Qc rfl rfl rfl Qn (m) (by omega) (by omega) (hsO (by omega))) ?_
   refine dFa 5 ?_
   refine dQ 6 [] rfl (XQ rfl rfl Qd4 (fun w h=>(HS.rw_own (l:=(keO (Qa x.ro).1.co G i)) ev2 h aPk rfl).rdj 0 (i:=m) (by omega) rfl)) ?_
   refine dP 7 ?_
   refine dP 8 ?_
   refine dV 9 rfl (Qc rfl rfl rfl Qn (i) (by omega) (by omega) (hsG (by omega))) ?_
   refine dFa 10 ?_
   refine dQ 11 [] rfl (XQ rfl rfl Qd4 (fun w h=>(HS.rw_own (l:=G) ev2 h aPk rfl).rdj 0 (i:=i) (by omega) rfl)) ?_
   refine dQ 12 [] rfl (Q1 rfl QsC rfl (fun w1 h1=>c65c w1 (Qa x.ro).1.co (nth (keO (Qa x.ro).1.co G i) m).key (nth G i).key hco (Qlf (Xg hm9)).2 hkx (hsm.2 _ (Qlf (Xg hm9)).1).1 (hsm.2 _ (Xg hi)).1)) ?_
   refine dP 13 ?_
   refine dNi ?_
   refine aU ?_
   refine Qk (L':=[(1,_),(2,_),(3,_),(5,_),(6,_),(11,_),(12,_),(13,_),(14,_),(15,_),(28,_),(29,_),(30,_),(31,_)]) aSx (fun _ h=>h) ?_
   refine QiV ?_
   refine sCd rfl (fun h18=>?_) fun h18=>?_
   ·have hpm : plc (Qa x.ro).1.co (keO (Qa x.ro).1.co G i) (nth G i).key = m:=Qqe hm1 hm2 (fun h9=>by have hq:=h18;omega)
    refine Qh rfl ?_
    refine aU5 ?_
    refine sCd rfl (fun h19=>?_) fun h19=>?_
    ·have hfn6 : ¬ fnd (Qa x.ro).1.co (keO (Qa x.ro).1.co G i) (nth G i).key = true:=by first | exact hfn | (intro h9;have hq:=h19;unfold fnd at h9;rw [hpm] at h9;simp at h9 hq;exact hq h9.2)
     have hst2 : (keO (Qa x.ro).1.co G (i + 1)) = (XB (keO (Qa x.ro).1.co G i) m (nth G i)):=by rw [hst,Qf0,if_neg hfn6,hpm]
     refine Zq (α:=Option Addr × Nat) [11,99,100,101,102,103,104,105,106,107,108,109,110,111,112] (fun y=>[(11,.slice y.1 (XB (keO (Qa x.ro).1.co G i) m (nth G i)).length y.2)]) (fun y=>HS w [] [.own (.slice ga (G).length gc) 27 2 (G).length ((G).flatMap TEnt.vals),.own (.slice y.1 ((XB (keO (Qa x.ro).1.co G i) m (nth G i))).length y.2) 27 2 ((XB (keO (Qa x.ro).1.co G i) m (nth G i))).length (((XB (keO (Qa x.ro).1.co G i) m (nth G i))).flatMap TEnt.vals),.blk b1 23 3 [.string (bs x.ro),.string (bs x.al),.string (bs x.bm)],.blk b2 37 4 [.int .i64 (Qa x.ro).1.co,.int .i64 (Qa x.ro).1.mo,.int .i64 (Qa x.ro).1.rm,.slice (some ⟨g9,0,none⟩) 1 rc]]) (fun _=>True) ?_ ?_
     ·skip
      refine QF [9,13] QV ?_
      refine dP 0 ?_
      refine dP 1 ?_
      refine dV 2 rfl (Qp _ _ 0 m rfl rfl Qn rfl ⟨_,_,rfl,rfl⟩ (by omega) (by omega)) ?_
      refine dP 4 ?_
      refine dP 5 ?_
      refine dV 6 rfl (Qc rfl rfl rfl Qn (i) (by omega) (by omega) (hsG (by omega))) ?_
      refine dQ 7 [[8],[9,8]] rfl (Qx _ rfl rfl Xc rfl (fun w h=>Rw.rd (HS.rw_own (l:=G) ev2 h aPk rfl) (i:=i) (by omega))) ?_
      refine dP 10 ?_
      refine dP 11 ?_
      refine dV 12 rfl (Qp _ _ m (keO (Qa x.ro).1.co G i).length rfl rfl Qn ⟨_,_,rfl,rfl⟩ rfl (by omega) (by omega)) ?_
      refine QsK 3 8 rfl rfl  (Qff rfl Qii rfl (fun w1 h1=>QqT w1 (Xy oa oc 0 2) (oc - 0) (keO (Qa x.ro).1.co G i) m (Qem (Rw.cut (cap:=oc) (i:=0) (HS.rw_own (l:=(keO (Qa x.ro).1.co G i)) ev2 h1 aPk rfl) hoc) m) hm1 (by omega))) (Qm (cs:=[_,_]) rfl rfl Qn Xz rfl rfl rfl) (by kernel_rfl) (fun w h=>h.ent aEt) rfl rfl  (fun ⟨sa,sc⟩ _=>?_) (fun b20 _=>?_)
      ·skip
       refine dBa ?_
       refine dH 8 rfl (Qm (cs:=[_,_]) rfl rfl Qn Xz rfl rfl rfl) (fun b21 _=>?_)
       refine dBa ?_
       refine dH 9 rfl (QK (TEnt.vals (nth G i)) rfl rfl rfl Qn Tryz.underlying67 Xz rfl aPk (Xa aPk) rfl (ev1 _) (by omega) (by simp only [maxLen];omega)) (fun b22 _=>?_)
       refine dTu [13] ?_
       refine dH 13 rfl (QK (((keO (Qa x.ro).1.co G i).drop m).flatMap TEnt.vals) rfl rfl rfl Qn Tryz.underlying67 Xz rfl aPk (fun w h=>Rw.src ev2 (Rw.cut (cap:=oc) (i:=m) (HS.rw_own (l:=(keO (Qa x.ro).1.co G i)) ev2 h aPk rfl) hoc) (HS.refl w [])) (by rw [Qr ev2,List.length_drop]) (Zh ev1 _) (by omega) (by simp only [maxLen];omega)) (fun b23 _=>?_)
       refine dTu [] ?_
       refine dP 14 ?_
       refine dNi ?_
       exact QA (b23.1,b23.2) trivial (by dsimp only;rw [Zx hm1,show (keO (Qa x.ro).1.co G i).length + 1 = m + 1 + ((keO (Qa x.ro).1.co G i).length - m) from by omega];exact aSx) (fun w h=>by have h2:=h;dsimp only;rw [Zx hm1,show (keO (Qa x.ro).1.co G i).length + 1 = m + 1 + ((keO (Qa x.ro).1.co G i).length - m) from by omega,QcH];exact h2.ent aEt)
      skip
      refine dBa ?_
      refine dH 3 rfl (Qff rfl Qii rfl (fun w1 h1=>QqT w1 (Xy oa oc 0 2) (oc - 0) (keO (Qa x.ro).1.co G i) m (Qem (Rw.cut (cap:=oc) (i:=0) (HS.rw_own (l:=(keO (Qa x.ro).1.co G i)) ev2 h1 aPk rfl) hoc) m) hm1 (by omega))) (fun ⟨sa,sc⟩ _=>?_)
      refine dBa ?_
      refine dH 9 rfl (QK (TEnt.vals (nth G i)) rfl rfl rfl Qn Tryz.underlying67 Xz rfl aPk (Xa aPk) rfl (ev1 _) (by omega) (by simp only [maxLen];omega)) (fun b24 _=>?_)
      refine dTu [13] ?_
      refine dH 13 rfl (QK (((keO (Qa x.ro).1.co G i).drop m).flatMap TEnt.vals) rfl rfl rfl Qn Tryz.underlying67 Xz rfl aPk (fun w h=>Rw.src ev2 (Rw.cut (cap:=oc) (i:=m) (HS.rw_own (l:=(keO (Qa x.ro).1.co G i)) ev2 h aPk rfl) hoc) (HS.refl w [])) (by rw [Qr ev2,List.length_drop]) (Zh ev1 _) (by omega) (by simp only [maxLen];omega)) (fun b25 _=>?_)
      refine dTu [] ?_
      refine dP 14 ?_
      refine dNi ?_
      exact QA (b25.1,b25.2) trivial (by dsimp only;rw [Zx hm1,show (keO (Qa x.ro).1.co G i).length + 1 = m + 1 + ((keO (Qa x.ro).1.co G i).length - m) from by omega];exact aSx) (fun w h=>by have h2:=h;dsimp only;rw [Zx hm1,show (keO (Qa x.ro).1.co G i).length + 1 = m + 1 + ((keO (Qa x.ro).1.co G i).length - m) from by omega,QcH];exact h2.ent aEt)
     intro ⟨na,nc⟩ _
     refine aT4 ?_
     refine aU2 ?_
     exact Qu (i + 1,na,nc) (by (try simp only []);omega) (by (try simp only []);omega) (by dsimp only;rw [hst2];exact aSx) (fun w h=>by dsimp only;rw [hst2];exact h.ent aEt)
    have hfn6 : fnd (Qa x.ro).1.co (keO (Qa x.ro).1.co G i) (nth G i).key = true:=by first | (exfalso;have hq:=h19;simp at hq;done) | (have hq:=h19;unfold fnd;rw [hpm];simp at hq ⊢;exact ⟨hm9,hq⟩)
    have hst2 : (keO (Qa x.ro).1.co G (i + 1)) = (keO (Qa x.ro).1.co G i):=by rw [hst,Qf0,if_pos hfn6]
    refine aT5 ?_
    refine aU2 ?_
    exact Qu (i + 1,oa,oc) (by (try simp only []);omega) (by (try simp only []);omega) (by dsimp only;rw [hst2];exact aSx) (fun w h=>by dsimp only;rw [hst2];exact h.ent aEt)
   have hcm : Xo (Qa x.ro).1.co (nth (keO (Qa x.ro).1.co G i) m).key (nth G i).key < 0:=by have hq:=h18;omega
   refine aT4 ?_
   refine aU3 ?_
   exact sBk (m + 1) (by omega) ⟨by omega,fun q hq9=>(Nat.lt_or_ge q m).elim (hm2 q) (fun h9=>by obtain rfl : q = m:=(by omega);exact hcm)⟩ (by refine ZA rfl ?_;refine ZA (congrArg (fun e=>some (Value.bool e)) (decide_eq_false (by omega))) ?_;repeat (first | exact QeU | refine ZA rfl ?_))
  have hm9 : ¬ m < (keO (Qa x.ro).1.co G i).length:=by have hq:=h17;grind
  have hpm : plc (Qa x.ro).1.co (keO (Qa x.ro).1.co G i) (nth G i).key = m:=Qqe hm1 hm2 (fun h9=>hm9 h9.1)
  have hfn : ¬ fnd (Qa x.ro).1.co (keO (Qa x.ro).1.co G i) (nth G i).key = true:=fun h9=>by have h8:=Qq9 h9;omega
  refine Qh rfl ?_
  refine aU5 ?_
  refine sCd rfl (fun h26=>?_) fun h26=>?_
  ·have hfn6 : ¬ fnd (Qa x.ro).1.co (keO (Qa x.ro).1.co G i) (nth G i).key = true:=by first | exact hfn | (intro h9;have hq:=h26;unfold fnd at h9;rw [hpm] at h9;simp at h9 hq;exact hq h9.2)
   have hst2 : (keO (Qa x.ro).1.co G (i + 1)) = (XB (keO (Qa x.ro).1.co G i) m (nth G i)):=by rw [hst,Qf0,if_neg hfn6,hpm]
   refine Zq (α:=Option Addr × Nat) [11,99,100,101,102,103,104,105,106,107,108,109,110,111,112] (fun y=>[(11,.slice y.1 (XB (keO (Qa x.ro).1.co G i) m (nth G i)).length y.2)]) (fun y=>HS w [] [.own (.slice ga (G).length gc) 27 2 (G).length ((G).flatMap TEnt.vals),.own (.slice y.1 ((XB (keO (Qa x.ro).1.co G i) m (nth G i))).length y.2) 27 2 ((XB (keO (Qa x.ro).1.co G i) m (nth G i))).length (((XB (keO (Qa x.ro).1.co G i) m (nth G i))).flatMap TEnt.vals),.blk b1 23 3 [.string (bs x.ro),.string (bs x.al),.string (bs x.bm)],.blk b2 37 4 [.int .i64 (Qa x.ro).1.co,.int .i64 (Qa x.ro).1.mo,.int .i64 (Qa x.ro).1.rm,.slice (some ⟨g9,0,none⟩) 1 rc]]) (fun _=>True) ?_ ?_
   ·skip
    refine QF [9,13] QV ?_
    refine dP 0 ?_
    refine dP 1 ?_
    refine dV 2 rfl (Qp _ _ 0 m rfl rfl Qn rfl ⟨_,_,rfl,rfl⟩ (by omega) (by omega)) ?_
    refine dP 4 ?_
    refine dP 5 ?_
    refine dV 6 rfl (Qc rfl rfl rfl Qn (i) (by omega) (by omega) (hsG (by omega))) ?_
    refine dQ 7 [[8],[9,8]] rfl (Qx _ rfl rfl Xc rfl (fun w h=>Rw.rd (HS.rw_own (l:=G) ev2 h aPk rfl) (i:=i) (by omega))) ?_
    refine dP 10 ?_
    refine dP 11 ?_
    refine dV 12 rfl (Qp _ _ m (keO (Qa x.ro).1.co G i).length rfl rfl Qn ⟨_,_,rfl,rfl⟩ rfl (by omega) (by omega)) ?_
    refine QsK 3 8 rfl rfl  (Qff rfl Qii rfl (fun w1 h1=>QqT w1 (Xy oa oc 0 2) (oc - 0) (keO (Qa x.ro).1.co G i) m (Qem (Rw.cut (cap:=oc) (i:=0) (HS.rw_own (l:=(keO (Qa x.ro).1.co G i)) ev2 h1 aPk rfl) hoc) m) hm1 (by omega))) (Qm (cs:=[_,_]) rfl rfl Qn Xz rfl rfl rfl) (by kernel_rfl) (fun w h=>h.ent aEt) rfl rfl  (fun ⟨sa,sc⟩ _=>?_) (fun b27 _=>?_)
    ·skip
     refine dBa ?_
     refine dH 8 rfl (Qm (cs:=[_,_]) rfl rfl Qn Xz rfl rfl rfl) (fun b28 _=>?_)
     refine dBa ?_
     refine dH 9 rfl (QK (TEnt.vals (nth G i)) rfl rfl rfl Qn Tryz.underlying67 Xz rfl aPk (Xa aPk) rfl (ev1 _) (by omega) (by simp only [maxLen];omega)) (fun b29 _=>?_)
     refine dTu [13] ?_
     refine dH 13 rfl (QK (((keO (Qa x.ro).1.co G i).drop m).flatMap TEnt.vals) rfl rfl rfl Qn Tryz.underlying67 Xz rfl aPk (fun w h=>Rw.src ev2 (Rw.cut (cap:=oc) (i:=m) (HS.rw_own (l:=(keO (Qa x.ro).1.co G i)) ev2 h aPk rfl) hoc) (HS.refl w [])) (by rw [Qr ev2,List.length_drop]) (Zh ev1 _) (by omega) (by simp only [maxLen];omega)) (fun b30 _=>?_)
     refine dTu [] ?_
     refine dP 14 ?_
     refine dNi ?_
     exact QA (b30.1,b30.2) trivial (by dsimp only;rw [Zx hm1,show (keO (Qa x.ro).1.co G i).length + 1 = m + 1 + ((keO (Qa x.ro).1.co G i).length - m) from by omega];exact aSx) (fun w h=>by have h2:=h;dsimp only;rw [Zx hm1,show (keO (Qa x.ro).1.co G i).length + 1 = m + 1 + ((keO (Qa x.ro).1.co G i).length - m) from by omega,QcH];exact h2.ent aEt)
    skip
    refine dBa ?_
    refine dH 3 rfl (Qff rfl Qii rfl (fun w1 h1=>QqT w1 (Xy oa oc 0 2) (oc - 0) (keO (Qa x.ro).1.co G i) m (Qem (Rw.cut (cap:=oc) (i:=0) (HS.rw_own (l:=(keO (Qa x.ro).1.co G i)) ev2 h1 aPk rfl) hoc) m) hm1 (by omega))) (fun ⟨sa,sc⟩ _=>?_)
    refine dBa ?_
    refine dH 9 rfl (QK (TEnt.vals (nth G i)) rfl rfl rfl Qn Tryz.underlying67 Xz rfl aPk (Xa aPk) rfl (ev1 _) (by omega) (by simp only [maxLen];omega)) (fun b31 _=>?_)
    refine dTu [13] ?_
    refine dH 13 rfl (QK (((keO (Qa x.ro).1.co G i).drop m).flatMap TEnt.vals) rfl rfl rfl Qn Tryz.underlying67 Xz rfl aPk (fun w h=>Rw.src ev2 (Rw.cut (cap:=oc) (i:=m) (HS.rw_own (l:=(keO (Qa x.ro).1.co G i)) ev2 h aPk rfl) hoc) (HS.refl w [])) (by rw [Qr ev2,List.length_drop]) (Zh ev1 _) (by omega) (by simp only [maxLen];omega)) (fun b32 _=>?_)
    refine dTu [] ?_
    refine dP 14 ?_
    refine dNi ?_
    exact QA (b32.1,b32.2) trivial (by dsimp only;rw [Zx hm1,show (keO (Qa x.ro).1.co G i).length + 1 = m + 1 + ((keO (Qa x.ro).1.co G i).length - m) from by omega];exact aSx) (fun w h=>by have h2:=h;dsimp only;rw [Zx hm1,show (keO (Qa x.ro).1.co G i).length + 1 = m + 1 + ((keO (Qa x.ro).1.co G i).length - m) from by omega,QcH];exact h2.ent aEt)
   intro ⟨na,nc⟩ _
   refine aT4 ?_
   refine aU2 ?_
   exact Qu (i + 1,na,nc) (by (try simp only []);omega) (by (try simp only []);omega) (by dsimp only;rw [hst2];exact aSx) (fun w h=>by dsimp only;rw [hst2];exact h.ent aEt)
  have hfn6 : fnd (Qa x.ro).1.co (keO (Qa x.ro).1.co G i) (nth G i).key = true:=by first | (exfalso;have hq:=h26;simp at hq;done) | (have hq:=h26;unfold fnd;rw [hpm];simp at hq ⊢;exact ⟨hm9,hq⟩)
  have hst2 : (keO (Qa x.ro).1.co G (i + 1)) = (keO (Qa x.ro).1.co G i):=by rw [hst,Qf0,if_pos hfn6]
  refine aT5 ?_
  refine aU2 ?_
  exact Qu (i + 1,oa,oc) (by (try simp only []);omega) (by (try simp only []);omega) (by dsimp only;rw [hst2];exact aSx) (fun w h=>by dsimp only;rw [hst2];exact h.ent aEt)
 obtain rfl : i = G.length:=by have hq:=h11;omega
 refine Qh rfl ?_
 refine aU5 ?_
 exact rT rfl rfl (fun w' h'=>⟨(oa,oc),by rw [hR];rfl,trivial,by rw [hR];exact h'.ent aEt⟩)
instance : TFn Tryz.prog 47:=⟨by kernel_rfl⟩
instance : TFn Tryz.prog 48:=⟨by kernel_rfl⟩
instance : TFn Tryz.prog 50:=⟨by kernel_rfl⟩
instance : TFn Tryz.prog 52:=⟨by kernel_rfl⟩
theorem QrZ (x : Ixs) : (bdI x).length ≤ x.n:=by
  unfold bdI;split
  · exact Qc8 x x.n
  · exact Nat.zero_le _
theorem QoG (x : Ixs) : (Y5 x).length ≤ 255 * (x.n + 1):=by
  unfold Y5;split
  · rename_i h;have h1:=(Qbl (QgN h).2.2.1 x.n).1;rw [← Ql0];refine Nat.le_trans (QhF _) (Nat.le_trans ?_ h1);exact Nat.le_refl _
  · exact Nat.zero_le _
set_option maxHeartbeats 2000000 in
theorem c9a (w : World) (x : Ixs) (hfx : Qna x = true) : Calls Tryz.prog 9 #[.agg #[.string (bs x.ro),.string (bs x.al),.string (bs x.bm)]] w fun en w'=>en = .returned (.bool true) ∧ Below w.heap.size w w':=by
 obtain ⟨hx1,hx2,hx3⟩:=QrO hfx
 have hn8 : x.n = x.al.length / 512:=rfl
 have hbl:=QrZ x
 have hsl:=QoG x
 refine eN1 Tryz.func9 Tryz.ntmps9 ?_
 refine aU2 ?_
 refine oBx fun b1 _=>?_
 refine aU5 ?_
 refine oCq rfl (fun w1 h1=>c11 w1) ?_
 refine aU2 ?_
 refine sCd rfl (fun h2=>?_) fun h2=>?_
 ·exfalso;simp at h2
 refine aU5 ?_
 refine oCq rfl (fun w1 h1=>c12 w1 x) ?_
 refine aU2 ?_
 refine sCd rfl (fun h3=>?_) fun h3=>?_
 ·exfalso;have hq:=h3;simp [hfx] at hq
 refine aU4 ?_
 refine oCh rfl (fun w1 h1=>c47 w1 x (by omega) (by omega) (by omega)) (fun ⟨ba,bc⟩ _=>?_)
 refine aU9 ?_
 refine oCh rfl (fun w1 h1=>c48 w1 x (by omega) (by omega) (by omega)) (fun ⟨sa,sc⟩ _=>?_)
 refine QaP ?_
 refine oCq rfl (fun w1 h1=>c49 w1 x (by omega) (by omega) (by omega)) ?_
 refine aU7 ?_
 refine sCd rfl (fun h4=>?_) fun h4=>?_
 ·have hE : ¬ ixE x = 0:=h4
  have hb0 : bdI x = []:=if_neg hE
  have hs0 : Y5 x = []:=if_neg hE
  rw [hb0,hs0]
  refine aU6 ?_
  refine YH 4 30 34 rfl
   (fun hg5 _=>by
    refine aU6 ?_
    exact oJt 4 34)
   (fun hg7 _=>by
    refine aU3 ?_
    exact oJf 4 34) ?_
  refine aU ?_
  refine YH 7 35 42 rfl
   (fun hg9 _=>by
    refine Qj6 ?_
    refine aU2 ?_
    exact oJt 7 42)
   (fun hg11 _=>by
    refine aU6 ?_
    exact oJf 7 42) ?_
  refine aU2 ?_
  exact rT rfl rfl (fun w' h'=>⟨by simp [Xd];rfl,h'.below⟩)
 have hE : ixE x = 0:=h4
 have hbe : bdI x = X7 x x.n:=if_pos hE
 refine aU6 ?_
 refine Qpj (α:=Bool) 5 45 50 _ (fun b=>b) (fun _=>HS w [] [.own (.slice sa (Y5 x).length sc) 27 2 (Y5 x).length ((Y5 x).flatMap TEnt.vals),.own (.slice ba (bdI x).length bc) 3 1 (bdI x).length ((bdI x).map fun i : Nat=>Value.int .i64 (i : Int)),.blk b1 23 3 [.string (bs x.ro),.string (bs x.al),.string (bs x.bm)]]) (fun b=>b = true) rfl
  (by
   intro hg13
   have hs14:=hg13;try simp only [dT] at hs14
   refine aU5 ?_
   refine oCh rfl (fun w1 h1=>c50 w1 x (by omega) (by omega)) (fun ⟨da,dc⟩ _=>?_)
   refine aU ?_
   refine oCq rfl (fun w1 h1=>by have h9:=c15P w1 ba da bc dc (bdI x) (X7 x x.n) (HS.pown_row (P:=bdI x) h1 aPk) (HS.pown_row (P:=X7 x x.n) h1 aPk) (by omega) (by rw [← hbe];omega);exact h9) ?_
   refine o_p (Zz rfl rfl hg13 rfl) rfl ?_
   refine aU ?_
   exact QA (decide (bdI x = X7 x x.n)) (decide_eq_true hbe) aSx (fun w h=>h.ent aEt))
  (by
   intro hg15
   have hs16:=hg15;try simp only [dN] at hs16
   refine aU4 ?_
   refine o_p (ZC rfl rfl hg15 rfl) rfl ?_
   refine aU ?_
   exact QA false (by exfalso;simp_all) aSx (fun w h=>h.ent aEt)) ?_
 intro b9 hb9
 subst hb9
 refine aU ?_
 refine YH 3 51 54 rfl
  (fun hg17 _=>by
   refine aU4 ?_
   exact oJt 3 54)
  (fun hg19 _=>absurd hg19 (by decide)) ?_
 refine aU ?_
 refine Qpj (α:=Bool) 5 55 60 _ (fun b=>b) (fun _=>HS w [] [.own (.slice sa (Y5 x).length sc) 27 2 (Y5 x).length ((Y5 x).flatMap TEnt.vals),.own (.slice ba (bdI x).length bc) 3 1 (bdI x).length ((bdI x).map fun i : Nat=>Value.int .i64 (i : Int)),.blk b1 23 3 [.string (bs x.ro),.string (bs x.al),.string (bs x.bm)]]) (fun b=>b = true) rfl
  (by
   intro hg21
   have hs22:=hg21;try simp only [Bool.and_eq_true,decide_eq_true_eq] at hs22
   refine aU5 ?_
   refine oCh rfl (fun w1 h1=>c52 w1 x hE (by omega) (by omega) (by omega)) (fun ⟨ea,ec⟩ _=>?_)
   refine aU ?_
   refine oCq rfl (fun w1 h1=>c51 w1 sa ea sc ec (Y5 x) (Y5 x) (HS.rw_own (l:=Y5 x) ev2 h1 aPk rfl) (h1.rw_own (l:=Y5 x) ev2 aPk rfl) (by omega) (by omega)) ?_
   refine o_p (Zz rfl rfl hg21 rfl) rfl ?_
   refine aU ?_
   exact QA (decide (Y5 x = Y5 x)) (by simp) aSx (fun w h=>h.ent aEt))
  (by
   intro hg23
   have hs24:=hg23;try simp only [Bool.and_eq_false_iff,decide_eq_false_iff_not] at hs24
   refine aU4 ?_
   refine o_p (ZC rfl rfl hg23 rfl) rfl ?_
   refine aU ?_
   exact QA false (by exfalso;simp_all) aSx (fun w h=>h.ent aEt)) ?_
 intro b9 hb9
 subst hb9
 refine aU2 ?_
 exact rT rfl rfl (fun w' h'=>⟨by simp [Xd,hE],h'.below⟩)
theorem c9z (w : World) (x : Ixs) (hz : ¬ Qna x = true) : Calls Tryz.prog 9 #[.agg #[.string (bs x.ro),.string (bs x.al),.string (bs x.bm)]] w fun en w'=>en = .returned (.bool true) ∧ Below w.heap.size w w':=by
 refine eN1 Tryz.func9 Tryz.ntmps9 ?_
 refine aU2 ?_
 refine oBx fun b1 _=>?_
 refine aU5 ?_
 refine oCq rfl (fun w1 h1=>c11 w1) ?_
 refine aU2 ?_
 refine sCd rfl (fun h2=>?_) fun h2=>?_
 ·exfalso;simp at h2
 refine aU5 ?_
 refine oCq rfl (fun w1 h1=>c12 w1 x) ?_
 refine aU2 ?_
 refine sCd rfl (fun h3=>?_) fun h3=>?_
 ·refine aU4 ?_
  exact rT rfl rfl (fun w' h'=>⟨by rfl,h'.below⟩)
 exfalso;have hq:=h3;exact hz (by simpa using hq)
theorem c9 (w : World) (x : Ixs) : Calls Tryz.prog 9 #[.agg #[.string (bs x.ro),.string (bs x.al),.string (bs x.bm)]] w fun en w'=>en = .returned (.bool true) ∧ Below w.heap.size w w':=by
  by_cases hz : Qna x = true
  · exact c9a w x hz
  · exact c9z w x hz
end Go.Proofs
