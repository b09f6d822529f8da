/- Contracts of the program's functions, proved by walking them with the rules of the Gx texts; without conditions beyond those that each contract names. -/
import Derived.WalkKit
import Derived.Deep.Draws
import Derived.TacticsIn
import Derived.OrdersIn
import Derived.RangeFuncLeaves
import Derived.Lib.Strings
import Derived.Laws.BytesArg
import Derived.Laws.IdiomStrings
import Derived.Deep.Quiet
import Derived.ProofKit
import Derived.OpenShut
import Derived.Laws.StructEq
import Derived.ChangeKeysEq
import Derived.Laws.Externs
import Derived.Lib.Overlaps
import Derived.Carry
import Derived.Laws.Small
import Derived.Lib.Bytealg
import Derived.Lib.Builder
import Derived.Laws.Pointers
import Derived.RangeFuncRecord
import Derived.Test.YtpkhkcchibbhmaaGreatDoorProg
import Derived.KernelRfl
import Derived.SizedLaws
import Derived.ChangeSame
import Derived.Handed
import Derived.Test.YtpkhkcchibbhmaaGreatDoorTie
import Derived.Test.YtpkhkcchibbhmaaGreatDoorCards
import Derived.SevenTiedAt
import Derived.LaidMore
import Derived.Lay
import Derived.Stop.Joined
import Derived.Test.YtpkhkcchibbhmaaGreatDoorP4
set_option linter.unusedSimpArgs false
set_option linter.unusedVariables false
set_option linter.unusedSectionVars false
set_option linter.unnecessarySimpa false
namespace Go.Proofs
open Go Go.RowKit Gx
attribute [local irreducible] Go.Calls Gx.S Gx.O Gx.D Gx.OpP Gx.OpQ Gx.OpH
set_option maxRecDepth 20000
theorem Qky : Qt Tryz.prog 147 = true:=by kernel_rfl
instance : TFd Tryz.prog 118 1 3 3:=⟨by kernel_rfl⟩
theorem QnZ : Qt Tryz.prog 146 = true:=by kernel_rfl
instance : TFd Tryz.prog 118 0 0 69:=⟨by kernel_rfl⟩
instance : TFd Tryz.prog 118 2 4 3:=⟨by kernel_rfl⟩
theorem Qvu : Qt Tryz.prog 149 = true:=by kernel_rfl
theorem QwD (w : World) (g m cap tot p : Nat) (l : List UInt8) (u : Int) (hw : HS w (fps [.blk g u8T tot ((l).map bv)]) [.blk g u8T tot ((l).map bv)] w) (hp : p + m ≤ l.length) (hm : 2 ≤ m) : Calls Tryz.prog 147 #[.slice (some ⟨g,p,none⟩) m cap,.int .u16 (u % 65536)] w fun en w'=>∃ _ : Unit,en = .returned (.tuple #[]) ∧ True ∧ HS w (fps [.blk g u8T tot ((l).map bv)]) [.blk g u8T tot ((QJ l p (le2 u)).map bv)] w':=by
  have h9:=QtJ w g m cap tot p l (u % 65536) hw hp hm (by omega);rw [QnT] at h9;exact h9
theorem c146 (w : World) (g m cap tot p : Nat) (l : List UInt8) (u : Int) (hw : HS w (fps [.blk g u8T tot ((l).map bv)]) [.blk g u8T tot ((l).map bv)] w) (hp : p + m ≤ l.length) (hm : 4 ≤ m) (hmc : m ≤ cap) (hc9 : cap ≤ 9223372036854775807) (hu : 0 ≤ u ∧ u < 4294967296) : Calls Tryz.prog 146 #[.slice (some ⟨g,p,none⟩) m cap,.int .u32 u] w fun en w'=>∃ _ : Unit,en = .returned (.tuple #[]) ∧ True ∧ HS w (fps [.blk g u8T tot ((l).map bv)]) [.blk g u8T tot ((QJ l p (le4 u)).map bv)] w':=by
 have hl1 : (QJ l p (le2 u)).length = l.length:=Xw (by show p + 2 ≤ _;omega)
 have he9 : QJ (QJ l p (le2 u)) (p + 2) (le2 (u / 65536)) = QJ l p (le4 u):=by rw [QgK (l:=l) (p:=p) (q:=p + 2) (x:=le2 u) rfl (by show p + 2 + 2 ≤ _;omega),show le2 (u / 65536) = [by8 (u / 65536),by8 (u / 16777216)] from by unfold le2;rw [show u / 65536 / 256 = u / 16777216 from by omega]];rfl
 refine enter (args:=[_,_]) Tryz.func146 Tryz.ntmps146 rfl rfl hw ?_
 refine aS4 ?_
 refine o_p (Qo rfl rfl YQ Yf) rfl ?_
 refine Qq (show _ = Value.int .u16 (u % 65536) from by rw [Qj9]) ?_
 refine o_h (Q0 (Cs:=[.blk g u8T tot ((l).map bv)]) rfl Qky rfl aPs (fun w1 h1 hf=>QwD w1 g m cap tot p l u hf hp (by omega))) rfl (fun _ _=>?_)
 refine aS3 ?_
 refine o_p (Qz _ _ 2 m rfl rfl QK ⟨_,_,rfl,rfl⟩ rfl (by omega) (by omega)) rfl ?_
 refine Qq (show _ = Value.slice (some ⟨g,p + 2,none⟩) (m - 2) (cap - 2) from by rw [QiL rfl (by omega)]) ?_
 refine aS ?_
 refine o_p (Qgt rfl rfl rfl (by decide) 16 rfl) rfl ?_
 refine o_p (Qo rfl rfl YQ Yf) rfl ?_
 refine Qq (show _ = Value.int .u16 (u / 65536) from by rw [Qj9];congr 1;omega) ?_
 refine o_h (Q0 (Cs:=[.blk g u8T tot (((QJ l p (le2 u))).map bv)]) rfl Qky rfl aPs (fun w1 h1 hf=>QtJ w1 g (m - 2) (cap - 2) tot (p + 2) (QJ l p (le2 u)) (u / 65536) hf (by omega) (by omega) (by omega))) rfl (fun _ _=>?_)
 refine aS ?_
 exact Qgh rfl (fun w' h'=>⟨(),rfl,trivial,by rw [← he9];exact h'.ent aEt⟩)
theorem c79 (w : World) (n : LNd) (num lsn usn : Int) (hes : Rw TEnt.vals 2 w [] n.ea n.es) (hcs : Rw inV 1 w [] n.ca n.cs) (hp : NdP n.pl) (hcb : (Xj n.pl).length ≤ 448) (hnum : 0 ≤ num ∧ num < 4294967296) (hlsn : 0 ≤ lsn ∧ lsn < 4294967296) (hu : 1 ≤ usn ∧ usn ≤ 65535) : Calls Tryz.prog 79 #[.agg #[.bool n.us,.slice n.ea n.es.length n.ec,.slice n.ca n.cs.length n.cc,.int .i64 lsn,.int .i64 usn],.int .i64 num] w fun en w'=>en = .returned (.string (bs (QaU n.pl num lsn usn))) ∧ Below w.heap.size w w':=by
 have hel : n.es.length ≤ 1000:=hp.el
 have z0 : (List.replicate 512 (0 : UInt8)).length = 512:=List.length_replicate
 have z1 : (QJ (List.replicate 512 (0 : UInt8)) 0 Qdp).length = 512:=by rw [Xw (by rw [z0];decide),z0]
 have z2 : (QJ (QJ (List.replicate 512 (0 : UInt8)) 0 Qdp) 8 (le4 lsn)).length = 512:=by rw [Xw (by rw [z1];show 8 + 4 ≤ 512;decide),z1]
 have z3 : (QJ (QJ (QJ (List.replicate 512 (0 : UInt8)) 0 Qdp) 8 (le4 lsn)) 12 (le4 num)).length = 512:=by rw [Xw (by rw [z2];show 12 + 4 ≤ 512;decide),z2]
 have hd9:=QvV num lsn n.es.length
 have hfu : ((hdB num lsn n.es.length) ++ Xj n.pl) ++ List.replicate (512 - ((hdB num lsn n.es.length) ++ Xj n.pl).length) 0 = Zz n.pl num lsn:=by rw [List.length_append,QaY,show 512 - (64 + (Xj n.pl).length) = 448 - (Xj n.pl).length by omega];rfl
 have hnl:=Qb4 (num:=num) (lsn:=lsn) hcb
 refine enter (args:=[_,_]) Tryz.func79 Tryz.ntmps79 rfl rfl (HS.refl w []) ?_
 refine aS2 ?_
 refine oBx fun b1 _=>?_
 refine aS4 ?_
 refine o_h (Ev.h_make2 (k:=64) (n:=512) rfl rfl rfl QK Qao (by decide) (by decide) (by decide)) rfl (fun b2 _=>?_)
 refine X6 (C':=HS w [] [.blk b1 118 5 _,.blk b2 u8T 512 (((List.replicate 512 (0 : UInt8))).map bv)]) (fun w9 h=>by have h9:=h.ent (Bs:=[.blk b1 118 5 _,.blk b2 u8T 512 (XH [.int .u8 0] (512 * 1))]) aEt;rwa [Qiy] at h9) ?_
 refine aS5 ?_
 refine o_h (QfP (b:=b2) (i:=0) (l:=Qdp) (x:=(List.replicate 512 (0 : UInt8))) rfl rfl (fun _=>rfl) rfl QK aPt (by decide) (by decide) (by rw [z0];decide)) rfl (fun _ _=>?_)
 refine aS2 ?_
 refine QG [5] QU ?_
 refine dP 0 ?_
 refine dV 1 rfl (Qz _ _ 8 64 rfl rfl QK ⟨_,_,rfl,rfl⟩ rfl (by omega) (by omega)) ?_
 refine QD (show _ = Value.slice (some ⟨b2,8,none⟩) 56 504 from by rw [XL (by decide)]) ?_
 refine dFa 2 ?_
 refine dLd 3 [[4]] ?_
 refine dV 4 rfl (Qo rfl rfl YZ YQ) ?_
 refine QD (show _ = Value.int .u32 lsn from by rw [QeC];congr 1;omega) ?_
 refine dH 5 rfl (Q0 (Cs:=[.blk b2 u8T 512 (((QJ (List.replicate 512 (0 : UInt8)) 0 Qdp)).map bv)]) rfl QnZ rfl aPs (fun w1 h1 hf=>c146 w1 b2 56 504 512 8 (QJ (List.replicate 512 (0 : UInt8)) 0 Qdp) lsn hf (by rw [z1];decide) (by decide) (by decide) (by decide) hlsn)) (fun _ _=>?_)
 refine dTu [] ?_
 refine dNi ?_
 refine aS3 ?_
 refine o_p (Qz _ _ 12 64 rfl rfl QK ⟨_,_,rfl,rfl⟩ rfl (by omega) (by omega)) rfl ?_
 refine Qq (show _ = Value.slice (some ⟨b2,12,none⟩) 52 500 from by rw [XL (by decide)]) ?_
 refine aS ?_
 refine o_p (Qo rfl rfl YZ YQ) rfl ?_
 refine Qq (show _ = Value.int .u32 num from by rw [QeC];congr 1;omega) ?_
 refine o_h (Q0 (Cs:=[.blk b2 u8T 512 (((QJ (QJ (List.replicate 512 (0 : UInt8)) 0 Qdp) 8 (le4 lsn))).map bv)]) rfl QnZ rfl aPs (fun w1 h1 hf=>c146 w1 b2 52 500 512 12 (QJ (QJ (List.replicate 512 (0 : UInt8)) 0 Qdp) 8 (le4 lsn)) num hf (by rw [z2];decide) (by decide) (by decide) (by decide) hnum)) rfl (fun _ _=>?_)
 refine aS2 ?_
 refine QG [7] QU ?_
 refine dP 0 ?_
 refine dV 1 rfl (Qz _ _ 16 64 rfl rfl QK ⟨_,_,rfl,rfl⟩ rfl (by omega) (by omega)) ?_
 refine QD (show _ = Value.slice (some ⟨b2,16,none⟩) 48 496 from by rw [XL (by decide)]) ?_
 refine dFa 2 ?_
 refine dFa 3 ?_
 refine dLd 4 [[6,5]] ?_
 refine dV 5 rfl (QQ rfl rfl Tryz.underlying67) ?_
 refine dV 6 rfl (Qo rfl rfl YZ Yf) ?_
 refine QD (show _ = Value.int .u16 (n.es.length : Int) from by rw [Qj9];congr 1;omega) ?_
 refine dH 7 rfl (Q0 (Cs:=[.blk b2 u8T 512 (((QJ (QJ (QJ (List.replicate 512 (0 : UInt8)) 0 Qdp) 8 (le4 lsn)) 12 (le4 num))).map bv)]) rfl Qky rfl aPs (fun w1 h1 hf=>QtJ w1 b2 48 496 512 16 (QJ (QJ (QJ (List.replicate 512 (0 : UInt8)) 0 Qdp) 8 (le4 lsn)) 12 (le4 num)) (n.es.length : Int) hf (by rw [z3];decide) (by decide) (by omega))) (fun _ _=>?_)
 refine dTu [] ?_
 refine dNi ?_
 refine aS3 ?_
 refine X6 (fun w9 h=>(HS.byz_blk (l:=(hdB num lsn n.es.length)) (cap:=512) (g:=b2) (cs:=(QJ (QJ (QJ (QJ (List.replicate 512 (0 : UInt8)) 0 Qdp) 8 (le4 lsn)) 12 (le4 num)) 16 (le2 (n.es.length : Int))).map bv) aPk h (by rw [QaY];decide) (by decide) (by rw [hd9,QuH (cap:=512) 448 (by rw [QaY])]))) ?_
 refine aS2 ?_
 refine o_h (Q0 (Cs:=[.byz (some ⟨b2,0,none⟩) 512 ((hdB num lsn n.es.length))]) rfl QqN rfl aPs (fun w1 h1 hf=>c148 w1 (some ⟨b2,0,none⟩) 512 (hdB num lsn n.es.length) n hf (by rw [QaY];decide) (by rw [QaY]) ((hes.keep h1).mono (Q6 aPs)) ((hcs.keep h1).mono (Q6 aPs)) hp)) rfl (fun ⟨b3,c4⟩ hz5=>?_)
 obtain ⟨hB9,hC9⟩:=hz5 (by rw [List.length_append,QaY];omega)
 simp only [] at hB9 hC9
 subst hB9 hC9
 refine X6 (C':=HS w [] [.blk b2 u8T 512 (((Zz n.pl num lsn)).map bv),.blk b1 118 5 _]) (fun w9 h=>by have h8:=HS.byz_full (l:=(hdB num lsn n.es.length) ++ Xj n.pl) (cap:=512) (g:=b2) aPk h (by decide);rw [hfu] at h8;exact h8) ?_
 refine aS3 ?_
 refine Qm (L':=[(2,_),(4,_),(5,_)]) aSx (fun _ h=>h) ?_
 refine QG [] QU ?_
 refine dP 0 ?_
 refine dV 1 rfl (Qz _ _ 0 512 rfl rfl QK rfl ⟨_,_,rfl,rfl⟩ (by omega) (by omega)) ?_
 refine QD (show _ = Value.slice (some ⟨b2,0,none⟩) 512 512 from by first | (simp only [ZR];done) | (simp only [ZR];rfl)) ?_
 refine dQ 2 [] rfl (YD rfl rfl Tryz.underlying139 Tryz.underlying9 Tryz.underlying5 aPk (by simp [hnl]) (Qan (Zz n.pl num lsn))) ?_
 refine QD (show _ = Value.string (bs (Zz n.pl num lsn)) from by rw [Zu]) ?_
 refine dFa 3 ?_
 refine dLd 4 [] ?_
 refine dQ 5 [] rfl (Qa rfl Qvu rfl (fun w1 h1=>c149 w1 (Zz n.pl num lsn) usn hnl Qcd hu)) ?_
 refine dP 6 ?_
 refine dP 7 ?_
 refine dP 8 ?_
 refine dP 9 ?_
 refine dP 10 ?_
 refine dNi ?_
 refine aS5 ?_
 exact rT rfl rfl (fun w' h'=>⟨by rfl,h'.below⟩)
end Go.Proofs
namespace Gx
open Go Go.RowKit
section
variable {b : List UInt8} {num : Int} {n : Nd} {last : Nat}
theorem Qh7 (h : ¬ b.length = 512) : XK b num = ndE 10:=by unfold XK;rw [if_neg h]
theorem Qhn (h : b.length = 512) (hn : ¬ (1 ≤ num ∧ num ≤ 120)) : XK b num = ndE 2:=by unfold XK;rw [if_pos h,if_neg hn]
theorem Qe2 (h : b.length = 512) (hn : 1 ≤ num ∧ num ≤ 120) (ht : XA b = true) : XK b num = ndE 31:=by unfold XK;rw [if_pos h,if_pos hn,if_pos ht]
theorem Qdy (h : b.length = 512) (hn : 1 ≤ num ∧ num ≤ 120) (ht : XA b = false) (hr : rdB (QH b) = none) : XK b num = ndE 3:=by
 unfold XK;rw [if_pos h,if_pos hn,ht,hr];rfl
theorem QcC (h : b.length = 512) (hn : 1 ≤ num ∧ num ≤ 120) (ht : XA b = false) (hr : rdB (QH b) = some (n,last)) :
  XK b num = if Qgb (QH b) num && zer ((QH b).drop last) then ⟨n,(ub4 (QH b) 8 : Int),(ub2 b 40 : Int),0⟩ else ndE 3:=by
 unfold XK;rw [if_pos h,if_pos hn,ht,hr];simp only [Bool.false_eq_true,if_false]
theorem QuS {s : List UInt8} (h : Qgb s num = true) : ub4 s 8 ≤ 2147483647:=by
 simp only [Qgb,Bool.and_eq_true,decide_eq_true_eq] at h;exact h.2.2.1
theorem QtR (h : b.length = 512) (hn : 1 ≤ num ∧ num ≤ 120) (ht : XA b = false) (hr : rdB (QH b) = some (n,last)) (hx : ¬ (ub4 (QH b) 8 ≤ 2147483647 ∧ QaU n num (ub4 (QH b) 8 : Int) (ub2 b 40 : Int) = b)) : XK b num = ndE 3:=by
 rw [QcC h hn ht hr,if_neg];intro hc
 have hl : ub4 (QH b) 8 ≤ 2147483647:=by
  rw [Bool.and_eq_true] at hc;exact QuS hc.1
 exact hx ⟨hl,(QlF h ht (by omega) hr hl).2 hc⟩
theorem QwU (h : b.length = 512) (hn : 1 ≤ num ∧ num ≤ 120) (ht : XA b = false) (hr : rdB (QH b) = some (n,last)) (hl : ub4 (QH b) 8 ≤ 2147483647) (hx : QaU n num (ub4 (QH b) 8 : Int) (ub2 b 40 : Int) = b) : XK b num = ⟨n,(ub4 (QH b) 8 : Int),(ub2 b 40 : Int),0⟩:=by
 rw [QcC h hn ht hr,if_pos ((QlF h ht (by omega) hr hl).1 hx)]
theorem Qqm {u v : Bool} (hu : u = true ↔ b.length = 512) (hv : v = true ↔ 1 ≤ num ∧ num ≤ 120) :
  (Zh [.int .i64 (bif u then 0 else 10),.int .i64 (bif v then 0 else 2)] = 0 → b.length = 512 ∧ (1 ≤ num ∧ num ≤ 120)) ∧
  (¬ Zh [.int .i64 (bif u then 0 else 10),.int .i64 (bif v then 0 else 2)] = 0 → XK b num = ndE (Zh [.int .i64 (bif u then 0 else 10),.int .i64 (bif v then 0 else 2)])):=by
 cases u with
 | false=>exact ⟨fun h=>absurd (show (10 : Int) = 0 from h) (by decide),fun _=>Qh7 fun h9=>by cases hu.2 h9⟩
 | true=>
  cases v with
  | false=>exact ⟨fun h=>absurd h (by decide),fun _=>Qhn (hu.1 rfl) fun h9=>by cases hv.2 h9⟩
  | true=>exact ⟨fun _=>⟨hu.1 rfl,hv.1 rfl⟩,fun h=>absurd rfl h⟩
theorem QtY (h : ¬ (XK b num).e = 0) : XK b num = ndE (XK b num).e:=by
 by_cases h1 : b.length = 512
 ·by_cases h2 : 1 ≤ num ∧ num ≤ 120
  ·cases h3 : XA b with
   | true=>rw [Qe2 h1 h2 h3];rfl
   | false=>
    cases h4 : rdB (QH b) with
    | none=>rw [Qdy h1 h2 h3 h4];rfl
    | some q=>
     obtain ⟨n,last⟩:=q;have e:=QcC h1 h2 h3 h4;rw [e] at h ⊢;split
     ·rename_i hc;rw [if_pos hc] at h;exact absurd rfl h
     ·rfl
  ·rw [Qhn h1 h2];rfl
 ·rw [Qh7 h1];rfl
theorem QqJ {s : List UInt8} (h : 1 ≤ ub2 s 16 ∧ ub2 s 16 ≤ 4) : rdB s = rdN s 64 (ub2 s 16):=by unfold rdB;rw [if_pos h]
theorem Qrc {s : List UInt8} (h : ¬ (1 ≤ ub2 s 16 ∧ ub2 s 16 ≤ 4)) : rdB s = none:=by unfold rdB;rw [if_neg h]
end
def nbE (t : Tre) (num lsn usn : Int) : Int:=if YC t = 0 then if (1 ≤ num ∧ num ≤ (t.ns.length : Int) - 1) ∧ (nth t.ns num.toNat).us = true then if (0 ≤ lsn ∧ lsn ≤ 2147483647) ∧ 1 ≤ usn ∧ usn ≤ 65535 then 0 else 2 else 6 else YC t
section
variable {t : Tre} {num lsn usn : Int}
theorem QhA (h : ¬ YC t = 0) : nbE t num lsn usn = YC t:=by unfold nbE;rw [if_neg h]
theorem Qiv (h : YC t = 0) (hu : ¬ ((1 ≤ num ∧ num ≤ (t.ns.length : Int) - 1) ∧ (nth t.ns num.toNat).us = true)) : nbE t num lsn usn = 6:=by unfold nbE;rw [if_pos h,if_neg hu]
theorem QdX (h : YC t = 0) (hu : (1 ≤ num ∧ num ≤ (t.ns.length : Int) - 1) ∧ (nth t.ns num.toNat).us = true) (hr : ¬ ((0 ≤ lsn ∧ lsn ≤ 2147483647) ∧ 1 ≤ usn ∧ usn ≤ 65535)) : nbE t num lsn usn = 2:=by unfold nbE;rw [if_pos h,if_pos hu,if_neg hr]
theorem QsV (h : YC t = 0) (hu : (1 ≤ num ∧ num ≤ (t.ns.length : Int) - 1) ∧ (nth t.ns num.toNat).us = true) (hr : (0 ≤ lsn ∧ lsn ≤ 2147483647) ∧ 1 ≤ usn ∧ usn ≤ 65535) : nbE t num lsn usn = 0:=by unfold nbE;rw [if_pos h,if_pos hu,if_pos hr]
theorem QsF (h : nbE t num lsn usn = 0) : YC t = 0 ∧ ((1 ≤ num ∧ num ≤ (t.ns.length : Int) - 1) ∧ (nth t.ns num.toNat).us = true) ∧ (0 ≤ lsn ∧ lsn ≤ 2147483647) ∧ 1 ≤ usn ∧ usn ≤ 65535:=by
 by_cases h1 : YC t = 0
 ·by_cases h2 : (1 ≤ num ∧ num ≤ (t.ns.length : Int) - 1) ∧ (nth t.ns num.toNat).us = true
  ·by_cases h3 : (0 ≤ lsn ∧ lsn ≤ 2147483647) ∧ 1 ≤ usn ∧ usn ≤ 65535
   ·exact ⟨h1,h2,h3⟩
   ·rw [QdX h1 h2 h3] at h;cases h
  ·rw [Qiv h1 h2] at h;cases h
 ·rw [QhA h1] at h;exact absurd h h1
theorem QoA {u l s : Bool} (h : YC t = 0) (hu : u = true ↔ (1 ≤ num ∧ num ≤ (t.ns.length : Int) - 1) ∧ (nth t.ns num.toNat).us = true) (hl : l = true ↔ 0 ≤ lsn ∧ lsn ≤ 2147483647) (hs : s = true ↔ 1 ≤ usn ∧ usn ≤ 65535) :
  nbE t num lsn usn = Zh [.int .i64 (bif u then 0 else 6),.int .i64 (bif l then 0 else 2),.int .i64 (bif s then 0 else 2)]:=by
 cases u with
 | false=>rw [Qiv h (fun h9=>by cases hu.2 h9)];rfl
 | true=>
  have hu:=hu.1 rfl;cases l with
  | false=>rw [QdX h hu (fun h9=>by cases hl.2 h9.1)];rfl
  | true=>
   cases s with
   | false=>rw [QdX h hu (fun h9=>by cases hs.2 h9.2)];rfl
   | true=>rw [QsV h hu ⟨hl.1 rfl,hs.1 rfl⟩];rfl
theorem Qht (h : nbE t num lsn usn = 0) : NdW (nth t.ns num.toNat) ∧ (1 ≤ (nth t.ns num.toNat).es.length ∧ (nth t.ns num.toNat).es.length ≤ 4) ∧ (Xj (nth t.ns num.toNat)).length ≤ 448 ∧ num ≤ 120 ∧ NdP (nth t.ns num.toNat):=by
 obtain ⟨h1,h2,h3⟩:=QsF h;obtain ⟨a1,a2,a3,a4,a5⟩:=Qq4 h1 (i:=num.toNat) (by omega) h2.2;exact ⟨a1,⟨QrA h1 (by omega) (by omega) h2.2,a2⟩,by omega,by omega,a1.ndp (by omega)⟩
theorem Qr7 (h : nbE t num lsn usn = 0) : XK (QaU (nth t.ns num.toNat) num lsn usn) num = ⟨nth t.ns num.toNat,lsn,usn,0⟩:=by
 obtain ⟨h1,h2,h3⟩:=QsF h;obtain ⟨a1,a2,a3,a4,_⟩:=Qht h;exact Qot a1 a2 a3 ⟨h2.1.1,a4⟩ h3.1 h3.2
end
end Gx
namespace Go.Proofs
open Go Go.RowKit Gx
attribute [local irreducible] Go.Calls Gx.S Gx.O Gx.D Gx.OpP Gx.OpQ Gx.OpH
set_option maxRecDepth 20000
theorem Qtz : Qt Tryz.prog 100 = true:=by kernel_rfl
theorem QeA : Zl Tryz.prog 118 = some [(0,3),(3,1),(4,1)]:=by kernel_rfl
theorem Qa1 : QO Tryz.prog 118 = some [.bool false,.slice none 0 0,.slice none 0 0,.int .i64 0,.int .i64 0]:=by kernel_rfl
theorem Qtq : Qt Tryz.prog 79 = true:=by kernel_rfl
theorem c37 (w : World) (co mo rm : Int) (a : Option Addr) (cap : Nat) (L : List LNd) (num lsn usn : Int) (hs : Nt w [] a L) (hB : Bd (pln L)) (hkl : ∀ i,i < L.length → ∀ x ∈ (nth L i).es,x.key.length ≤ 1000000 ∧ x.val.length ≤ 1000000) : Calls Tryz.prog 37 #[.agg #[.int .i64 co,.int .i64 mo,.int .i64 rm,.slice a L.length cap],.int .i64 num,.int .i64 lsn,.int .i64 usn] w fun en w'=>en = .returned (.tuple #[.string (bs (if (nbE (⟨co,mo,rm,pln L⟩ : Tre) num lsn usn) = 0 then QaU (nth L num.toNat).pl num lsn usn else [])),.int .i64 (nbE (⟨co,mo,rm,pln L⟩ : Tre) num lsn usn)]) ∧ Below w.heap.size w w':=by
 have hLl : L.length ≤ 1000:=by have:=hB.len;rwa [Qi] at this
 have hpl9 : nth (pln L) num.toNat = (nth L num.toNat).pl:=XJ L num.toNat
 refine enter (args:=[_,_,_,_]) Tryz.func37 Tryz.ntmps37 rfl rfl (HS.refl w []) ?_
 refine aS2 ?_
 refine oBx fun b1 _=>?_
 refine aS7 ?_
 refine o_q (Qa rfl Qte rfl (fun w1 h1=>c75 w1 co mo rm a cap L (hs.later h1.nil) hB hkl)) rfl ?_
 refine aS7 ?_
 refine Qb rfl (fun h2=>?_) fun h2=>?_
 ·try simp only [Bool.not_eq_true',decide_eq_false_iff_not] at h2
  have hE : ¬ YC (⟨co,mo,rm,pln L⟩ : Tre) = 0:=h2
  have hN:=QhA (num:=num) (lsn:=lsn) (usn:=usn) hE
  refine aS6 ?_
  exact Qs (rs:=[.tmp 8,.tmp 9]) rfl (.tmp rfl (.tmp rfl (.nil))) (fun w' h'=>⟨by rw [if_neg (by rw [hN];exact hE),hN];rfl,h'.below⟩)
 try simp only [Bool.not_eq_false',decide_eq_true_eq] at h2
 have hE : YC (⟨co,mo,rm,pln L⟩ : Tre) = 0:=h2
 have hF:=QoA (num:=num) (lsn:=lsn) (usn:=usn) (u:=(decide (1 ≤ num) && decide (num ≤ (L.length : Int) - 1)) && (nth L num.toNat).us) (l:=decide (0 ≤ lsn) && decide (lsn ≤ 2147483647)) (s:=decide (1 ≤ usn) && decide (usn ≤ 65535)) hE (by rw [show ((⟨co,mo,rm,pln L⟩ : Tre)).ns = pln L from rfl,hpl9,Qi];simp only [Bool.and_eq_true,decide_eq_true_eq];rfl) (by simp only [Bool.and_eq_true,decide_eq_true_eq]) (by simp only [Bool.and_eq_true,decide_eq_true_eq])
 refine aS8 ?_
 try refine oWr ?_
 refine o_q (Qa rfl Qhh rfl (fun w1 h1=>c87 w1 _ _ _)) rfl ?_
 refine aS ?_
 refine Xn 13 24 37 _ _ rfl
  (by
   intro hg3
   have hs4:=hg3;try simp only [Bool.and_eq_true,decide_eq_true_eq] at hs4
   refine oOn 24 hg3 ?_
   refine aS ?_
   refine oOn 24 hg3 ?_
   refine aS ?_
   refine oOn 24 hg3 ?_
   refine aS ?_
   refine oOn 24 hg3 ?_
   refine aS ?_
   refine oOn 24 hg3 ?_
   refine aS ?_
   refine oOn 24 hg3 ?_
   refine aS ?_
   refine oOn 24 hg3 ?_
   refine aS ?_
   try refine oWr ?_
   refine oOn 24 hg3 ?_
   refine o_p (QkI rfl rfl rfl ) rfl ?_
   refine oOn 24 hg3 ?_
   refine o_p (Qhs rfl rfl rfl ) rfl ?_
   refine Qq (show _ = Value.int .i64 num from congrArg (Value.int .i64) (by split <;> split <;> omega)) ?_
   refine oOn 24 hg3 ?_
   refine o_p (Qc rfl rfl rfl XB num.toNat (by omega) (by omega) (Rw.some hs.1 (by omega))) rfl ?_
   refine oOn 24 hg3 ?_
   refine aS ?_
   refine oOn 24 hg3 ?_
   refine o_q (Qd rfl rfl Qdl ((hs.1.rdj (i:=num.toNat) 0 (by omega) rfl))) rfl ?_
   refine o_p (Qg rfl rfl hg3 rfl) rfl ?_
   refine aS ?_
   exact oJn 13 37)
  (by
   intro hg5
   have hs6:=hg5;try simp only [Bool.and_eq_false_iff,decide_eq_false_iff_not] at hs6
   refine oOf 24 hg5 ?_
   refine oOf 24 hg5 ?_
   refine oOf 24 hg5 ?_
   refine oOf 24 hg5 ?_
   refine oOf 24 hg5 ?_
   refine oOf 24 hg5 ?_
   refine oOf 24 hg5 ?_
   refine oOf 24 hg5 ?_
   refine oOf 24 hg5 ?_
   refine oOf 24 hg5 ?_
   refine oOf 24 hg5 ?_
   refine oOf 24 hg5 ?_
   refine o_p (Qf rfl rfl hg5 rfl) rfl ?_
   refine aS ?_
   exact oJn 13 37) ?_
 refine aS6 ?_
 refine o_q (Qa rfl Qjm rfl (fun w1 h1=>c60 w1 _ _)) rfl ?_
 refine aS ?_
 refine o_q (Qa rfl Qtz rfl (fun w1 h1=>c100 w1 _)) rfl ?_
 refine aS ?_
 refine o_q (Qa rfl Qhh rfl (fun w1 h1=>c87 w1 _ _ _)) rfl ?_
 refine o_q (Qa rfl Qjm rfl (fun w1 h1=>c60 w1 _ _)) rfl ?_
 refine o_h (Qr (cs:=[_,_,_]) rfl rfl ZE Qdr rfl rfl rfl) rfl (fun b7 _=>?_)
 refine o_q (Qa rfl Qp1 rfl (fun w1 h1=>f59 h1 aPk (by rfl) (by rfl) (by decide))) rfl ?_
 refine aS3 ?_
 refine Qm (L':=[(1,_),(2,_),(3,_),(4,_),(8,_),(9,_),(12,_)]) aSx (fun _ h=>h) ?_
 refine aS4 ?_
 refine Qb rfl (fun h8=>?_) fun h8=>?_
 ·try simp only [Bool.not_eq_true',decide_eq_false_iff_not] at h8
  have hN : ¬ (nbE (⟨co,mo,rm,pln L⟩ : Tre) num lsn usn) = 0:=by rw [hF];exact h8
  refine aS6 ?_
  exact Qs (rs:=[.tmp 8,.tmp 9]) rfl (.tmp rfl (.tmp rfl (.nil))) (fun w' h'=>⟨by rw [if_neg hN,hF];rfl,h'.below⟩)
 try simp only [Bool.not_eq_false',decide_eq_true_eq] at h8
 have hN : (nbE (⟨co,mo,rm,pln L⟩ : Tre) num lsn usn) = 0:=by rw [hF];exact h8
 obtain ⟨_,hu9,hr9⟩:=QsF hN
 have hu8 : (1 ≤ num ∧ num ≤ ((pln L).length : Int) - 1) ∧ (nth (pln L) num.toNat).us = true:=hu9
 rw [Qi] at hu8
 have h09 : num.toNat < L.length:=by omega
 obtain ⟨_,_,hcb9,_,hnp9⟩:=Qht hN
 have hcb : (Xj (nth L num.toNat).pl).length ≤ 448:=by rw [← hpl9];exact hcb9
 have hnp : NdP (nth L num.toNat).pl:=by rw [← hpl9];exact hnp9
 refine aS6 ?_
 refine o_p (Qc rfl rfl rfl XB num.toNat (by omega) (by omega) (Rw.some hs.1 (by omega))) rfl ?_
 refine o_q (QA _ rfl rfl Xz rfl (Rw.rd hs.1 (by omega))) rfl ?_
 refine aS2 ?_
 refine o_p (Xq (cs:=[_,_,_,_,_]) rfl rfl QeA Qa1 rfl) rfl ?_
 refine aS ?_
 refine o_q (Qa rfl Qtq rfl (fun w1 h1=>c79 w1 (nth L num.toNat) num lsn usn ((hs.es h09).later h1) ((hs.cs h09).later h1) hnp hcb (by omega) (by omega) hr9.2)) rfl ?_
 refine aS3 ?_
 exact Qs (rs:=[.tmp 8,.tmp 9]) rfl (.tmp rfl (.tmp rfl (.nil))) (fun w' h'=>⟨by rw [if_pos hN,hN];rfl,h'.below⟩)
theorem Qez : tsz Tryz.prog 118 = some (5,true):=by kernel_rfl
instance : TSz Tryz.prog 118 5 true:=⟨Qez⟩
theorem Quu : Qt Tryz.prog 130 = true:=by kernel_rfl
set_option maxHeartbeats 400000 in
theorem c63 (w : World) (s : List UInt8) (num : Int) (hsl : s.length ≤ 1000000) : Calls Tryz.prog 63 #[.string (bs s),.int .i64 num] w fun en w'=>∃ g : LNd,en = .returned (.tuple #[.agg #[.bool g.us,.slice g.ea g.es.length g.ec,.slice g.ca g.cs.length g.cc,.int .i64 (XK s num).lsn,.int .i64 (XK s num).usn],.int .i64 (XK s num).e]) ∧ g.pl = (XK s num).n ∧ HS w [] [.ents 27 g.ea g.ec g.es,.kids g.ca g.cc g.cs] w':=by
 have hF:=Qqm (b:=s) (num:=num) (u:=decide ((s.length : Int) = 512)) (v:=decide (1 ≤ num) && decide (num ≤ 120)) (by rw [decide_eq_true_eq];omega) (by simp only [Bool.and_eq_true,decide_eq_true_eq])
 refine enter (args:=[_,_]) Tryz.func63 Tryz.ntmps63 rfl rfl (HS.refl w []) ?_
 refine aS2 ?_
 refine oAl (fun b1 _=>?_) Qa1
 refine aS6 ?_
 refine o_q (Qa rfl QkD rfl (fun w1 h1=>QuB w1 _)) rfl ?_
 refine aS ?_
 refine o_q (Qa rfl Qhh rfl (fun w1 h1=>c87 w1 _ _ _)) rfl ?_
 refine o_q (Qa rfl Qjm rfl (fun w1 h1=>c60 w1 _ _)) rfl ?_
 refine o_h (Qr (cs:=[_,_]) rfl rfl ZE Qdr rfl rfl rfl) rfl (fun b2 _=>?_)
 refine o_q (Qa rfl Qp1 rfl (fun w1 h1=>f59 h1 aPk (by rfl) (by rfl) (by decide))) rfl ?_
 refine aS7 ?_
 refine Qb rfl (fun h3=>?_) fun h3=>?_
 ·try simp only [Bool.not_eq_true',decide_eq_false_iff_not] at h3
  have hR:=hF.2 h3
  refine aS2 ?_
  refine o_p (Xq (cs:=[_,_,_,_,_]) rfl rfl QeA Qa1 rfl) rfl ?_
  refine aS ?_
  refine oSt ?_
  refine aS2 ?_
  exact Qs (rs:=[.cell 4 118,.tmp 5]) rfl (.cell rfl Qez aPk rfl (.tmp rfl (.nil))) (fun w' h'=>⟨⟨false,none,0,[],none,0,[]⟩,by rw [hR];rfl,by rw [hR];rfl,((h'.nil.own_nil 3 1).own_nil 27 2).ent aEt⟩)
 try simp only [Bool.not_eq_false',decide_eq_true_eq] at h3
 obtain ⟨hs5,hn5⟩:=hF.1 h3
 refine aS4 ?_
 refine o_q (Qa rfl Quu rfl (fun w1 h1=>c130 w1 s hsl)) rfl ?_
 iterate 14 refine aS ?_
 refine Qb rfl (fun h4=>?_) fun h4=>?_
 ·try simp only [Bool.not_eq_true',decide_eq_false_iff_not] at h4
  have ht : XA s = true:=by cases ht : XA s;have hq:=h4;rw [Qhu hs5 ht] at hq;exact absurd rfl hq;rfl
  have hR:=Qe2 hs5 hn5 ht
  refine aS2 ?_
  refine o_p (Xq (cs:=[_,_,_,_,_]) rfl rfl QeA Qa1 rfl) rfl ?_
  refine oSt ?_
  refine aS2 ?_
  exact Qs (rs:=[.cell 4 118,.tmp 5]) rfl (.cell rfl Qez aPk rfl (.tmp rfl (.nil))) (fun w' h'=>⟨⟨false,none,0,[],none,0,[]⟩,by rw [hR];rfl,by rw [hR];rfl,((h'.nil.own_nil 3 1).own_nil 27 2).ent aEt⟩)
 try simp only [Bool.not_eq_false',decide_eq_true_eq] at h4
 have ht : XA s = false:=by cases ht : XA s;rfl;have hq:=h4;rw [Qhg hs5 ht] at hq;cases hq
 rw [Qhu hs5 ht]
 dsimp only
 have hol9:=Zg hs5
 obtain ⟨o,ho⟩ : ∃ o,o = QH s:=⟨_,rfl⟩
 rw [← ho]
 rw [← ho] at hol9
 have hol : o.length = 512:=hol9
 have hdl : ∀ k,k ≤ 512 → (o.drop k).length = 512 - k:=fun k hk=>by rw [List.length_drop,hol]
 have hb4:=QlT o 8
 have hb2:=Qd9 o 16
 have hu40:=Qd9 s 40
 have hu0 : 1 ≤ ub2 s 40:=by have:=(Qjk.1 ht).1;omega
 refine aS4 ?_
 refine o_h (Qa9 rfl rfl Tryz.underlying9 Tryz.underlying139 Tryz.underlying5 rfl (by simp only [maxLen];omega)) rfl (fun ⟨b5,c6⟩ ⟨h7,k8⟩=>?_)
 refine aS5 ?_
 refine o_p (Qz _ _ 16 o.length rfl rfl QK ⟨_,_,rfl,rfl⟩ rfl (by omega) (by omega)) rfl ?_
 refine Qq (show _ = Value.slice (XX (some ⟨b5,0,none⟩) c6 16 1) (512 - 16) (c6 - 16) from by rw [hol]) ?_
 refine o_q (Qa rfl QhI rfl (fun w1 h1=>Qrr w1 (XX (some ⟨b5,0,none⟩) c6 16 1) (512 - 16) (c6 - 16) (o.drop 16) (by have h9:=(h1.vl_blk (cs:=o.map bv) aPk).dropA (k:=16) (cap:=c6) (by rw [List.length_map];omega) (by rw [List.length_map];omega);rw [← List.map_drop] at h9;exact h9) (hdl 16 (by omega)) (by omega) (by omega) (by simp only [maxLen] at *;omega))) rfl ?_
 refine Qq (show _ = Value.int .u16 ((ub2 o 16 : Nat) : Int) from by rw [QaO,Nat.add_zero,QcQ]) ?_
 refine o_p (Qo rfl rfl Yf YZ) rfl ?_
 try refine oWr ?_
 refine aS4 ?_
 refine Qm (L':=[(0,_),(1,_),(4,_),(5,_),(8,_),(10,_),(11,_)]) aSx (fun _ h=>h) ?_
 refine aS2 ?_
 refine o_q (Qa rfl Qhh rfl (fun w1 h1=>c87 w1 _ _ _)) rfl ?_
 refine aS2 ?_
 refine Qb rfl (fun h9=>?_) fun h9=>?_
 ·try simp only [Bool.not_eq_true',Bool.and_eq_false_iff,decide_eq_false_iff_not] at h9
  have hR:=Qdy hs5 hn5 ht (by rw [← ho];exact Qrc (by have hq:=h9;intro h9;simp at hq;omega))
  refine aS2 ?_
  refine o_p (Xq (cs:=[_,_,_,_,_]) rfl rfl QeA Qa1 rfl) rfl ?_
  refine oSt ?_
  refine aS2 ?_
  exact Qs (rs:=[.cell 4 118,.tmp 5]) rfl (.cell rfl Qez aPk rfl (.tmp rfl (.nil))) (fun w' h'=>⟨⟨false,none,0,[],none,0,[]⟩,by rw [hR];rfl,by rw [hR];rfl,((h'.nil.own_nil 3 1).own_nil 27 2).ent aEt⟩)
 try simp only [Bool.not_eq_false',Bool.and_eq_true,decide_eq_true_eq] at h9
 have hct : 1 ≤ ub2 o 16 ∧ ub2 o 16 ≤ 4:=by have hq:=h9;omega
 have hrb:=QqJ hct
 refine aS4 ?_
 refine o_p (Qz _ _ 64 o.length rfl rfl QK ⟨_,_,rfl,rfl⟩ rfl (by omega) (by omega)) rfl ?_
 refine aS ?_
 refine o_h (Ye rfl Qwa rfl (fun w1 h1=>c92 w1 o 64 (ub2 o 16) (XX (some ⟨b5,0,none⟩) c6 64 1) (c6 - 64) (by have h9:=(h1.vl_blk (cs:=o.map bv) aPk).dropA (k:=64) (cap:=c6) (by rw [List.length_map];omega) (by rw [List.length_map];omega);rw [← List.map_drop] at h9;exact h9) (by rw [hol];decide) (by rw [hol];decide) (by rw [hol];omega) (by simp only [maxLen] at *;omega) (by omega))) rfl (fun ⟨gn,gr,gl,gc⟩ hgn=>?_)
 refine aS4 ?_
 refine oAl (fun b10 _=>?_) XF
 refine oSt ?_
 refine aS4 ?_
 refine QG [8] QU ?_
 refine dLn 0 [[]] ?_
 refine dP 1 ?_
 refine dV 2 rfl (Qz _ _ 8 o.length rfl rfl QK ⟨_,_,rfl,rfl⟩ rfl (by omega) (by omega)) ?_
 refine QD (show _ = Value.slice (XX (some ⟨b5,0,none⟩) c6 8 1) (512 - 8) (c6 - 8) from by rw [hol]) ?_
 refine dQ 3 [[]] rfl (Qa rfl Qpm rfl (fun w1 h1=>c132 w1 (XX (some ⟨b5,0,none⟩) c6 8 1) (512 - 8) (c6 - 8) (o.drop 8) (by have h9:=(h1.vl_blk (cs:=o.map bv) aPk).dropA (k:=8) (cap:=c6) (by rw [List.length_map];omega) (by rw [List.length_map];omega);rw [← List.map_drop] at h9;exact h9) (hdl 8 (by omega)) (by omega) (by omega) (by simp only [maxLen] at *;omega))) ?_
 refine QD (show _ = Value.int .u32 ((ub4 o 8 : Nat) : Int) from by rw [Qgi,Nat.add_zero,QfV]) ?_
 refine dV 4 rfl (Qo rfl rfl YQ YZ) ?_
 try refine dWr ?_
 refine dP 5 ?_
 refine dV 6 rfl (Xq (cs:=[_,_,_,_,_]) rfl rfl QeA Qa1 rfl) ?_
 refine dH 7 rfl (Qck rfl Qa1) (fun b11 _=>?_)
 refine dBa ?_
 refine dSt 8 ?_ (hl:=(by simp only [Qk,List.length_set,List.length_cons,List.length_nil,List.length_map];omega))
 refine dTu [] ?_
 refine dNi ?_
 refine aS6 ?_
 refine Xt 4 63 67 _ _ rfl
  (by
   intro hg12
   have hs13:=hg12;try simp only [Bool.not_eq_false'] at hs13
   refine oOn 63 hg12 ?_
   refine aS ?_
   refine oOn 63 hg12 ?_
   refine aS ?_
   refine oOn 63 hg12 ?_
   refine aS ?_
   refine o_p (Qf rfl rfl hg12 rfl) rfl ?_
   refine aS ?_
   exact oJn 4 67)
  (by
   intro hg14
   have hs15:=hg14;try simp only [Bool.not_eq_true'] at hs15
   refine oOf 63 hg14 ?_
   refine oOf 63 hg14 ?_
   refine oOf 63 hg14 ?_
   refine o_p (Qg rfl rfl hg14 rfl) rfl ?_
   refine aS ?_
   exact oJn 4 67) ?_
 refine aS ?_
 refine Xt 6 68 74 _ _ rfl
  (by
   intro hg16
   have hs17:=hg16;try simp only [Bool.or_eq_false_iff,Bool.not_eq_false',decide_eq_false_iff_not] at hs17
   refine oOn 68 hg16 ?_
   refine aS ?_
   refine oOn 68 hg16 ?_
   refine aS ?_
   have hq9:=hg16
   obtain ⟨⟨n9,e9⟩,hrd⟩ : ∃ q,rdN o 64 (ub2 o 16) = some q:=Option.isSome_iff_exists.1 (by grind)
   have hls : ub4 o 8 ≤ 2147483647:=by grind
   obtain ⟨hpl9,_⟩:=hgn.1 _ _ hrd
   obtain ⟨_,q2,q3,q4,q5,q6⟩:=Qdo hol (hrb.trans hrd)
   have hcb : (Xj gn.pl).length ≤ 448:=by rw [hpl9,QjY hol (hrb.trans hrd)];omega
   have hnp : NdP gn.pl:=by rw [hpl9];exact q6.ndp (by omega)
   refine oOn 68 hg16 ?_
   refine o_q (Qa rfl Qtq rfl (fun w1 h1=>c79 w1 gn num ((ub4 o 8 : Nat) : Int) ((ub2 s 40 : Nat) : Int) (h1.rw_own ev2 aPk rfl) (h1.rw_own iv1 aPk rfl) hnp hcb (by omega) (by omega) (by omega))) rfl ?_
   refine oOn 68 hg16 ?_
   refine aS ?_
   refine oOn 68 hg16 ?_
   refine aS ?_
   refine o_p (Qf rfl rfl hg16 rfl) rfl ?_
   refine aS ?_
   exact oJn 6 74)
  (by
   intro hg18
   have hs19:=hg18;try simp only [Bool.or_eq_true,Bool.not_eq_true',decide_eq_true_eq] at hs19
   refine oOf 68 hg18 ?_
   refine oOf 68 hg18 ?_
   refine oOf 68 hg18 ?_
   refine oOf 68 hg18 ?_
   refine oOf 68 hg18 ?_
   refine o_p (Qg rfl rfl hg18 rfl) rfl ?_
   refine aS ?_
   exact oJn 6 74) ?_
 refine aS ?_
 refine Qb rfl (fun h20=>?_) fun h20=>?_
 ·try simp only [Bool.or_eq_true,Bool.not_eq_true',decide_eq_true_eq,decide_eq_false_iff_not] at h20
  have hR : XK s num = ndE 3:=by cases hr : rdN o 64 (ub2 o 16) with | none=>exact Qdy hs5 hn5 ht (by rw [← ho];exact hrb.trans hr) | some q=>(obtain ⟨n9,e9⟩:=q;have hp9:=(hgn.1 _ _ hr).1;refine QtR hs5 hn5 ht (by rw [← ho];exact hrb.trans hr) (fun h9=>?_);rw [← ho] at h9;have hq:=h20;rw [hr,hp9] at hq;have h91:=h9.1;have h92:=h9.2;simp [h92] at hq;omega)
  refine aS ?_
  refine Qm (L':=[(4,_),(5,_),(15,_)]) aSx (fun _ h=>h) ?_
  refine aS ?_
  refine o_p (Xq (cs:=[_,_,_,_,_]) rfl rfl QeA Qa1 rfl) rfl ?_
  refine oSt ?_
  refine aS2 ?_
  exact Qs (rs:=[.cell 4 118,.tmp 5]) rfl (.cell rfl Qez aPk rfl (.tmp rfl (.nil))) (fun w' h'=>⟨⟨false,none,0,[],none,0,[]⟩,by rw [hR];rfl,by rw [hR];rfl,((h'.nil.own_nil 3 1).own_nil 27 2).ent aEt⟩)
 try simp only [Bool.or_eq_false_iff,Bool.not_eq_false',decide_eq_false_iff_not,decide_eq_true_eq] at h20
 obtain ⟨⟨n9,e9⟩,hrd⟩ : ∃ q,rdN o 64 (ub2 o 16) = some q:=Option.isSome_iff_exists.1 (by have hq:=h20;grind)
 obtain ⟨hpl9,_⟩:=hgn.1 _ _ hrd
 have hR:=QwU hs5 hn5 ht (by rw [← ho];exact hrb.trans hrd) (by rw [← ho];have hq:=h20;grind) (by rw [← ho,← hpl9];have hq:=h20;grind)
 rw [← ho] at hR
 refine aS2 ?_
 refine Qm (L':=[(4,_),(5,_),(15,_)]) aSx (fun _ h=>h) ?_
 refine aS2 ?_
 refine oSt ?_
 refine aS2 ?_
 exact Qs (rs:=[.cell 4 118,.tmp 5]) rfl (.cell rfl Qez aPk rfl (.tmp rfl (.nil))) (fun w' h'=>⟨gn,by rw [hR];rfl,by rw [hR];exact hpl9,h'.ent aEt⟩)
theorem Qwh : Qt Tryz.prog 63 = true:=by kernel_rfl
theorem c38 (w : World) (s : List UInt8) (num : Int) (hsl : s.length ≤ 1000000) : Calls Tryz.prog 38 #[.string (bs s),.int .i64 num] w fun en w'=>∃ g : LNd,en = .returned (.tuple #[.agg #[.bool g.us,.slice g.ea g.es.length g.ec,.slice g.ca g.cs.length g.cc],.int .i64 (XK s num).lsn,.int .i64 (XK s num).usn,.int .i64 (XK s num).e]) ∧ g.pl = (XK s num).n ∧ HS w [] [.ents 27 g.ea g.ec g.es,.kids g.ca g.cc g.cs] w':=by
 refine enter (args:=[_,_]) Tryz.func38 Tryz.ntmps38 rfl rfl (HS.refl w []) ?_
 refine aS2 ?_
 refine oAl (fun b1 _=>?_) XF
 refine aS8 ?_
 refine o_h (Ye rfl Qwh rfl (fun w1 h1=>c63 w1 s num hsl)) rfl (fun gn hgn=>?_)
 refine aS3 ?_
 refine oAl (fun b2 _=>?_) Qa1
 refine oSt ?_
 refine aS8 ?_
 refine Qb rfl (fun h3=>?_) fun h3=>?_
 ·try simp only [Bool.not_eq_true',decide_eq_false_iff_not] at h3
  have hR:=QtY (b:=s) (num:=num) h3
  refine aS2 ?_
  refine o_p (Xq (cs:=[_,_,_]) rfl rfl QgP XF rfl) rfl ?_
  refine aS ?_
  refine oSt ?_
  refine aS4 ?_
  exact Qs (rs:=[.cell 4 69,.tmp 5,.tmp 6,.tmp 7]) rfl (.cell rfl Xz aPk rfl (.tmp rfl (.tmp rfl (.tmp rfl (.nil))))) (fun w' h'=>⟨⟨false,none,0,[],none,0,[]⟩,by rw [show (XK s num).lsn = 0 from by rw [hR];rfl,show (XK s num).usn = 0 from by rw [hR];rfl];rfl,by rw [hR];rfl,((h'.nil.own_nil 3 1).own_nil 27 2).ent aEt⟩)
 try simp only [Bool.not_eq_false',decide_eq_true_eq] at h3
 have hE : (XK s num).e = 0:=h3
 refine aS2 ?_
 refine QhT [.blk b2 118 5 [.bool gn.us,.slice gn.ea gn.es.length gn.ec,.slice gn.ca gn.cs.length gn.cc,.int .i64 (XK s num).lsn,.int .i64 (XK s num).usn],.ents 27 gn.ea gn.ec gn.es,.kids gn.ca gn.cc gn.cs] [] QU ?_
 refine dFa 0 ?_
 refine dLn 1 [] ?_
 refine dFa 2 ?_
 refine dLd 3 [] ?_
 refine dFa 4 ?_
 refine dLd 5 [] ?_
 refine dSt 6 ?_ (hl:=(by simp only [Qk,List.length_set,List.length_cons,List.length_nil,List.length_map];omega))
 refine dP 7 ?_
 refine dP 8 ?_
 refine dP 9 ?_
 refine dNi ?_
 exact Qs (rs:=[.cell 4 69,.tmp 5,.tmp 6,.tmp 7]) rfl (.cell rfl Xz aPk rfl (.tmp rfl (.tmp rfl (.tmp rfl (.nil))))) (fun w' h'=>⟨gn,by rw [hE];rfl,hgn,h'.ent aEt⟩)
def rpT (s : List UInt8) (u : Int) : Nat → List UInt8
  | 0=>le2 u
  | i + 1=>rpT s u i ++ Ql s (tlA i) 2
def rpS (s : List UInt8) (u : Int) : Nat → List UInt8
  | 0=>s
  | i + 1=>QJ (rpS s u i) (tlA i) (le2 u)
theorem Qdt {s : List UInt8} {u : Int} (h : s.length = 512) : ∀ i,i ≤ 8 → (rpS s u i).length = 512
  | 0,_=>h
  | i + 1,hi=>by
    have h1:=Qdt (u:=u) h i (by omega);show (QJ _ _ _).length = 512;rw [Xw (by rw [h1];show tlA i + 2 ≤ 512;unfold tlA;omega),h1]
theorem QhF {s : List UInt8} {u : Int} (h : s.length = 512) : ∀ i,i ≤ 8 → ∀ j,i ≤ j → j < 8 → Ql (rpS s u i) (tlA j) 2 = Ql s (tlA j) 2
  | 0,_,_,_,_=>rfl
  | i + 1,hi,j,hj,h8=>by
    have h1:=Qdt (u:=u) h i (by omega);show Ql (QJ _ _ _) _ _ = _;rw [Qbo (by rw [h1];show tlA i + 2 ≤ 512;unfold tlA;omega) (.inr (by show tlA i + 2 ≤ tlA j;unfold tlA;omega))];exact QhF h i (by omega) j (by omega) h8
theorem Qfa {s : List UInt8} {u : Int} (h : s.length = 512) : ∀ i,i ≤ 8 → (rpT s u i).length = 2 + 2 * i
  | 0,_=>rfl
  | i + 1,hi=>by
    show (rpT s u i ++ Ql s (tlA i) 2).length = _;rw [List.length_append,Qfa h i (by omega),QR (by unfold tlA;omega)];omega
theorem QgQ {l x y : List UInt8} {p q : Nat} (hp : p + x.length ≤ l.length) (hq : q + y.length ≤ l.length) (hd : p + x.length ≤ q ∨ q + y.length ≤ p) : QJ (QJ l p x) q y = QJ (QJ l q y) p x:=by
  apply List.ext_getElem?;intro j;rw [X9 (by rw [Xw hp];exact hq),X9 hp,X9 (by rw [Xw hq];exact hp),X9 hq]
  by_cases h1 : j < p <;> by_cases h2 : j < q <;> by_cases h3 : j < p + x.length <;> by_cases h4 : j < q + y.length <;> simp only [h1,h2,h3,h4,if_true,if_false] <;> omega
theorem QpY {s : List UInt8} {u : Int} (h : s.length = 512) : ∀ i,i ≤ 8 → prI s u i = QJ (rpS s u i) 40 (rpT s u i)
  | 0,_=>rfl
  | i + 1,hi=>by
    have ih:=QpY (u:=u) h i (by omega);have hS:=Qdt (u:=u) h i (by omega);have hT:=Qfa (u:=u) h i (by omega)
    have hsub : Ql (prI s u i) (tlA i) 2 = Ql s (tlA i) 2:=by
      rw [ih,Qbo (by rw [hS,hT];omega) (.inr (by rw [hT];unfold tlA;omega)),QhF h i (by omega) i (Nat.le_refl _) (by omega)]
    have h2 : (Ql s (tlA i) 2).length = 2:=QR (by unfold tlA;omega);show QJ (QJ (prI s u i) (42 + 2 * i) (Ql (prI s u i) (tlA i) 2)) (tlA i) (le2 u) = QJ (QJ (rpS s u i) (tlA i) (le2 u)) 40 (rpT s u i ++ Ql s (tlA i) 2);have e9:=QgK (l:=rpS s u i) (p:=40) (q:=42 + 2 * i) (x:=rpT s u i) (y:=Ql s (tlA i) 2) (by rw [hT];omega) (by rw [hT,hS,h2];omega);rw [hsub,ih,e9];have hx : (rpT s u i ++ Ql s (tlA i) 2).length = 4 + 2 * i:=by rw [List.length_append,hT,h2];omega
    exact QgQ (by rw [hx,hS];omega) (by rw [hS];show tlA i + 2 ≤ 512;unfold tlA;omega) (.inl (by rw [hx];unfold tlA;omega))
theorem Qr2 {s : List UInt8} {u : Int} (h : s.length = 512) : QbB s u = QJ (rpS s u 8) 40 (rpT s u 8):=QpY h 8 (Nat.le_refl _)
theorem QlG : Qt Tryz.prog 54 = true:=by kernel_rfl
theorem c103 (w : World) (s : List UInt8) (u : Int) (h5 : s.length = 512) (hu : 0 ≤ u ∧ u < 65536) : Calls Tryz.prog 103 #[.string (bs s),.int .i64 u] w fun en w'=>en = .returned (.string (bs (QbB s u))) ∧ Below w.heap.size w w':=by
 refine enter (args:=[_,_]) Tryz.func103 Tryz.ntmps103 rfl rfl (HS.refl w []) ?_
 refine aS7 ?_
 refine o_q (Qa rfl QbK rfl (fun w1 h1=>by have h9:=c94 w1 (u) 2 (by omega) (by omega);rw [Qgv] at h9;exact h9)) rfl ?_
 refine aS8 ?_
 refine Qx (α:=Nat) [0,5,6,7,10,11,12,13,14,15,16,17,18,19,20,21,22,23,24,25,26,27,28] (fun k=>[(6,.int .i64 ((k : Int) + 1)),(0,.string (bs (rpS s u k))),(5,.string (bs (rpT s u k)))]) (fun _=>HS w [] []) (fun k=>k ≤ 8) (fun k=>8 - k) 0 (Nat.zero_le _) aSx (fun w h=>h.ent aEt) (fun k hk8=>?_)
 refine aS6 ?_
 refine Qb rfl (fun h1=>?_) fun h1=>?_
 ·try simp only [dT] at h1
  have hk : k < 8:=by omega
  have hsl:=Qdt (u:=u) h5 k hk8
  have htl:=Qfa (u:=u) h5 k hk8
  have hsb:=QhF (u:=u) h5 k hk8 k (Nat.le_refl _) hk
  have ht9 : tlA k = 64 * k + 62:=rfl
  have hxl : (Ql (rpS s u k) (tlA k) 2).length = 2:=QR (by omega)
  refine aS7 ?_
  try refine oWr ?_
  refine aS ?_
  try refine oWr ?_
  refine Qq (show _ = Value.int .i64 ((tlA k : Nat) : Int) from congrArg (Value.int .i64) (by unfold tlA;omega)) ?_
  refine aS9 ?_
  try refine oWr ?_
  refine o_p (Xu _ _ (tlA k) (tlA k + 2) rfl rfl Tryz.underlying9 ⟨_,_,rfl,rfl⟩ ⟨_,_,rfl,(by omega)⟩ (by omega) (by omega)) rfl ?_
  refine Qq (show _ = Value.string (bs (Ql (rpS s u k) (tlA k) 2)) from by rw [Qcs (n:=2) rfl]) ?_
  refine o_p (QV rfl rfl rfl (by (try simp only [List.length_append,List.length_cons,List.length_nil,List.length_replicate,List.length_take,List.length_drop]);omega)) rfl ?_
  refine aS6 ?_
  refine o_q (Qa rfl QbK rfl (fun w1 h1=>by have h9:=c94 w1 (u) 2 (by omega) (by omega);rw [Qgv] at h9;exact h9)) rfl ?_
  refine o_q (Qa rfl QlG rfl (fun w1 h1=>c54 w1 (rpS s u k) (tlA k) (le2 u) (by show tlA k + 2 ≤ _;omega) (by omega))) rfl ?_
  refine aS6 ?_
  try refine oWr ?_
  refine Qq (show _ = Value.int .i64 (((k + 1 : Nat) : Int) + 1) from congrArg (Value.int .i64) (by omega)) ?_
  refine aS2 ?_
  exact Qu (k + 1) (by omega) (by omega) (by rw [show (rpT s u (k + 1)) = rpT s u k ++ Ql s (tlA k) 2 from rfl,← hsb];exact aSx) (fun w h=>h.ent aEt)
 try simp only [dN] at h1
 obtain rfl : k = 8:=by omega
 have hsl:=Qdt (u:=u) h5 8 hk8
 have htl:=Qfa (u:=u) h5 8 hk8
 refine Qp rfl ?_
 refine aS4 ?_
 refine o_q (Qa rfl QlG rfl (fun w1 h1=>c54 w1 (rpS s u 8) 40 (rpT s u 8) (by omega) (by omega))) rfl ?_
 refine aS2 ?_
 exact rT rfl rfl (fun w' h'=>⟨by rw [Qr2 h5];rfl,h'.below⟩)
def roI (s : List UInt8) : Nat → List UInt8
  | 0=>QJ s 40 (List.replicate 18 0)
  | i + 1=>QJ (roI s i) (tlA i) (Ql s (42 + 2 * i) 2)
theorem QlC {s : List UInt8} (h : s.length = 512) : ∀ i,i ≤ 8 → (roI s i).length = 512
  | 0,_=>by
    show (QJ _ _ _).length = 512;rw [Xw (by rw [h];decide),h]
  | i + 1,hi=>by
    have h1:=QlC h i (by omega);have h2 : (Ql s (42 + 2 * i) 2).length = 2:=QR (by omega);show (QJ _ _ _).length = 512;rw [Xw (by rw [h1,h2];unfold tlA;omega),h1]
theorem Qms {s : List UInt8} (h : s.length = 512) : ∀ i,i ≤ 8 → ∀ j,j < 8 → Ql (opI s i) (42 + 2 * j) 2 = Ql s (42 + 2 * j) 2
  | 0,_,_,_=>rfl
  | i + 1,hi,j,h8=>by
    have h1:=ZN h i (by omega);have h2 : (Ql (opI s i) (42 + 2 * i) 2).length = 2:=QR (by omega);show Ql (QJ _ _ _) _ _ = _;rw [Qbo (by rw [h1,h2];unfold tlA;omega) (.inl (by unfold tlA;omega))];exact Qms h i (by omega) j h8
theorem QoE {s : List UInt8} (h : s.length = 512) : ∀ i,i ≤ 8 → roI s i = QJ (opI s i) 40 (List.replicate 18 0)
  | 0,_=>rfl
  | i + 1,hi=>by
    have ih:=QoE h i (by omega);have h1:=ZN h i (by omega);have h2 : (Ql s (42 + 2 * i) 2).length = 2:=QR (by omega);show QJ (roI s i) (tlA i) (Ql s (42 + 2 * i) 2) = QJ (QJ (opI s i) (tlA i) (Ql (opI s i) (42 + 2 * i) 2)) 40 (List.replicate 18 0);rw [ih,Qms h i (by omega) i (by omega)];exact QgQ (by rw [h1];decide) (by rw [h1,h2];unfold tlA;omega) (.inl (by show 40 + 18 ≤ tlA i;unfold tlA;omega))
theorem Qsv {s : List UInt8} (h : s.length = 512) : QH s = roI s 8:=(QoE h 8 (Nat.le_refl _)).symm
theorem Qre {s : List UInt8} (h : ∀ i,i < 8 → QaQ s i = false) : XA s = false:=by
  cases hb : XA s with
  | false=>rfl
  | true=>
    obtain ⟨i,hi,h1⟩:=List.any_eq_true.1 hb;rw [h i (List.mem_range.1 hi)] at h1;cases h1
theorem Qof {s : List UInt8} {i : Nat} (hi : i < 8) (h : QaQ s i = true) : XA s = true:=List.any_eq_true.2 ⟨i,List.mem_range.2 hi,h⟩
theorem c102 (w : World) (s : List UInt8) (h5 : s.length = 512) : Calls Tryz.prog 102 #[.string (bs s)] w fun en w'=>en = .returned (.tuple #[.string (bs (if XA s = true then [] else QH s)),.bool (!XA s)]) ∧ Below w.heap.size w w':=by
 refine enter (args:=[_]) Tryz.func102 Tryz.ntmps102 rfl rfl (HS.refl w []) ?_
 refine aS8 ?_
 refine o_q (Qa rfl Yy rfl (fun w1 h1=>by have h9:=c72 w1 s (40) 2 (by omega) (by omega) (by omega);rw [Qdk,QcQ] at h9;exact h9)) rfl ?_
 refine aS5 ?_
 refine o_q (Qa rfl Qhc rfl (fun w1 h1=>c86 w1 18 (by omega))) rfl ?_
 refine o_q (Qa rfl QlG rfl (fun w1 h1=>c54 w1 s 40 (List.replicate 18 0) (by rw [List.length_replicate];omega) (by omega))) rfl ?_
 refine aS8 ?_
 refine Qx (α:=Nat) [2,3,5,6,7,13,14,15,16,17,18,19,20,21,22,23,24,25,26,27,28,29,30,31,32,33,34,35,36,37,38,39,40] (fun k=>[(6,.int .i64 ((k : Int) + 1)),(5,.string (bs (roI s k)))]) (fun _=>HS w [] []) (fun k=>k ≤ 8 ∧ ∀ i,i < k → QaQ s i = false) (fun k=>8 - k) 0 ⟨Nat.zero_le _,fun i h=>absurd h (Nat.not_lt_zero _)⟩ aSx (fun w h=>h.ent aEt) (fun k hkk=>?_)
 obtain ⟨hk8,hkt⟩:=hkk
 refine aS6 ?_
 refine Qb rfl (fun h1=>?_) fun h1=>?_
 ·try simp only [dT] at h1
  have hk : k < 8:=by omega
  have hol:=QlC h5 k hk8
  have ht9 : tlA k = 64 * k + 62:=rfl
  have hxl : (Ql s (42 + 2 * k) 2).length = 2:=QR (by omega)
  refine aS7 ?_
  try refine oWr ?_
  refine aS ?_
  try refine oWr ?_
  refine Qq (show _ = Value.int .i64 ((tlA k : Nat) : Int) from congrArg (Value.int .i64) (by unfold tlA;omega)) ?_
  refine aS8 ?_
  refine Xt 6 22 28 _ _ rfl
   (by
    intro hg2
    have hs3:=hg2;try simp only [dN] at hs3
    refine oOn 22 hg2 ?_
    refine aS ?_
    refine oOn 22 hg2 ?_
    refine aS ?_
    refine oOn 22 hg2 ?_
    refine o_q (Qa rfl Yy rfl (fun w1 h1=>by have h9:=c72 w1 s (tlA k) 2 (by omega) (by omega) (by omega);rw [Qdk,QcQ] at h9;exact h9)) rfl ?_
    refine oOn 22 hg2 ?_
    refine aS ?_
    refine oOn 22 hg2 ?_
    refine aS ?_
    refine o_p (Qf rfl rfl hg2 rfl) rfl ?_
    refine aS ?_
    exact oJn 6 28)
   (by
    intro hg4
    have hs5:=hg4;try simp only [dT] at hs5
    refine oOf 22 hg4 ?_
    refine oOf 22 hg4 ?_
    refine oOf 22 hg4 ?_
    refine oOf 22 hg4 ?_
    refine oOf 22 hg4 ?_
    refine o_p (Qg rfl rfl hg4 rfl) rfl ?_
    refine aS ?_
    exact oJn 6 28) ?_
  refine aS ?_
  refine Qb rfl (fun h6=>?_) fun h6=>?_
  ·try simp only [Bool.or_eq_true,decide_eq_true_eq,Bool.not_eq_true',decide_eq_false_iff_not] at h6
   have hTB : XA s = true:=Qof hk (decide_eq_true (by have hq:=h6;omega))
   refine aS5 ?_
   exact Qs (rs:=[.tmp 2,.tmp 3]) rfl (.tmp rfl (.tmp rfl (.nil))) (fun w' h'=>⟨by rw [hTB];rfl,h'.below⟩)
  try simp only [Bool.or_eq_false_iff,decide_eq_false_iff_not,Bool.not_eq_false',decide_eq_true_eq] at h6
  have hT : QaQ s k = false:=decide_eq_false (by have hq:=h6;omega)
  refine aS7 ?_
  try refine oWr ?_
  refine aS ?_
  try refine oWr ?_
  refine aS2 ?_
  try refine oWr ?_
  refine aS ?_
  try refine oWr ?_
  refine aS ?_
  try refine oWr ?_
  refine o_p (Xu _ _ (42 + 2 * k) (42 + 2 * k + 2) rfl rfl Tryz.underlying9 ⟨_,_,rfl,(by omega)⟩ ⟨_,_,rfl,(by omega)⟩ (by omega) (by omega)) rfl ?_
  refine Qq (show _ = Value.string (bs (Ql s (42 + 2 * k) 2)) from by rw [Qcs (n:=2) rfl]) ?_
  refine o_q (Qa rfl QlG rfl (fun w1 h1=>c54 w1 (roI s k) (tlA k) (Ql s (42 + 2 * k) 2) (by omega) (by omega))) rfl ?_
  refine aS3 ?_
  refine Qm (L':=[(0,_),(4,_),(5,_),(6,_),(8,_),(9,_),(10,_),(11,_),(12,_)]) aSx (fun _ h=>h) ?_
  refine aS3 ?_
  try refine oWr ?_
  refine Qq (show _ = Value.int .i64 (((k + 1 : Nat) : Int) + 1) from congrArg (Value.int .i64) (by omega)) ?_
  refine aS2 ?_
  exact Qu (k + 1) (by omega) ⟨by omega,fun i hi=>(Nat.lt_or_ge i k).elim (hkt i) (fun h=>by obtain rfl : i = k:=(by omega);exact hT)⟩ aSx (fun w h=>h.ent aEt)
 try simp only [dN] at h1
 obtain rfl : k = 8:=by omega
 have hTB:=Qre hkt
 refine Qp rfl ?_
 refine aS6 ?_
 exact Qs (rs:=[.tmp 2,.tmp 3]) rfl (.tmp rfl (.tmp rfl (.nil))) (fun w' h'=>⟨by rw [hTB,Qsv h5];rfl,h'.below⟩)
theorem QtB : Qt Tryz.prog 103 = true:=by kernel_rfl
theorem QtD : Qt Tryz.prog 102 = true:=by kernel_rfl
theorem c41 (w : World) (co mo rm : Int) (a : Option Addr) (cap : Nat) (L : List LNd) (num lsn usn : Int) (hs : Nt w [] a L) (h0 : 0 ≤ num ∧ num < 4294967296) (hk : num.toNat < L.length) (hp : NdP (nth L num.toNat).pl) (hcb : (Xj (nth L num.toNat).pl).length ≤ 448) (hlsn : 0 ≤ lsn ∧ lsn < 4294967296) (hu : 0 ≤ usn ∧ usn < 65536) : Calls Tryz.prog 41 #[.agg #[.int .i64 co,.int .i64 mo,.int .i64 rm,.slice a L.length cap],.int .i64 num,.int .i64 lsn,.int .i64 usn] w fun en w'=>en = .returned (.string (bs (QaU (nth L num.toNat).pl num lsn usn))) ∧ Below w.heap.size w w':=by
 have hel : (nth L num.toNat).es.length ≤ 1000:=hp.el
 have l42 : (le4 lsn).length = 4:=rfl
 have l43 : (le4 num).length = 4:=rfl
 have l44 : (le2 ((nth L num.toNat).es.length : Int)).length = 2:=rfl
 have l41 : ∀ x : Int,(le4 x).length = 4:=fun _=>rfl
 have l21 : ∀ x : Int,(le2 x).length = 2:=fun _=>rfl
 refine enter (args:=[_,_,_,_]) Tryz.func41 Tryz.ntmps41 rfl rfl (HS.refl w []) ?_
 refine aS2 ?_
 refine oBx fun b1 _=>?_
 refine aS7 ?_
 refine o_p (Qc rfl rfl rfl XB num.toNat (by omega) (by omega) (Rw.some hs.1 (by omega))) rfl ?_
 refine o_q (QA _ rfl rfl Xz rfl (Rw.rd hs.1 (by omega))) rfl ?_
 refine oAl (fun b2 _=>?_) XF
 refine oSt ?_
 refine aS2 ?_
 refine QG [] QU ?_
 refine dQ 0 [] rfl (Qa rfl Qhc rfl (fun w1 h1=>c86 w1 4 (by omega))) ?_
 refine dV 1 rfl (QV rfl rfl rfl (by (try simp only [List.length_append,List.length_cons,List.length_nil,List.length_replicate,List.length_take,List.length_drop]);omega)) ?_
 refine dP 2 ?_
 refine dQ 3 [] rfl (Qa rfl QbK rfl (fun w1 h1=>by have h9:=c94 w1 (lsn) 4 (by omega) (by omega);rw [Qit] at h9;exact h9)) ?_
 refine dV 4 rfl (QV rfl rfl rfl (by (try simp only [List.length_append,List.length_cons,List.length_nil,List.length_replicate,List.length_take,List.length_drop]);omega)) ?_
 refine dP 5 ?_
 refine dQ 6 [] rfl (Qa rfl QbK rfl (fun w1 h1=>by have h9:=c94 w1 (num) 4 (by omega) (by omega);rw [Qit] at h9;exact h9)) ?_
 refine dV 7 rfl (QV rfl rfl rfl (by (try simp only [List.length_append,List.length_cons,List.length_nil,List.length_replicate,List.length_take,List.length_drop]);omega)) ?_
 refine dFa 8 ?_
 refine dLd 9 [] ?_
 refine dV 10 rfl (QQ rfl rfl Tryz.underlying67) ?_
 refine dQ 11 [] rfl (Qa rfl QbK rfl (fun w1 h1=>by have h9:=c94 w1 (((nth L num.toNat).es.length : Int)) 2 (by omega) (by omega);rw [Qgv] at h9;exact h9)) ?_
 refine dV 12 rfl (QV rfl rfl rfl (by (try simp only [List.length_append,List.length_cons,List.length_nil,List.length_replicate,List.length_take,List.length_drop]);omega)) ?_
 refine dQ 13 [] rfl (Qa rfl Qhc rfl (fun w1 h1=>c86 w1 46 (by omega))) ?_
 refine dV 14 rfl (QV rfl rfl rfl (by (try simp only [List.length_append,List.length_cons,List.length_nil,List.length_replicate,List.length_take,List.length_drop]);omega)) ?_
 refine dLn 15 [] ?_
 refine dQ 16 [] rfl (Qa rfl Qwg rfl (fun w1 h1=>c99 w1 (nth L num.toNat) ((hs.es hk).later h1) ((hs.cs hk).later h1) hp)) ?_
 refine dV 17 rfl (QV rfl rfl rfl (by (try simp only [List.length_append,List.length_cons,List.length_nil,List.length_replicate,List.length_take,List.length_drop]);omega)) ?_
 refine dP 18 ?_
 refine dNi ?_
 refine aS ?_
 refine Qm (L':=[(3,_),(8,_),(10,_)]) aSx (fun _ h=>h) ?_
 refine aS3 ?_
 refine o_p (Qn rfl rfl Tryz.underlying9) rfl ?_
 refine Qq (show _ = Value.int .i64 ((64 + (Xj (nth L num.toNat).pl).length : Nat) : Int) from congrArg (Value.int .i64) (by first | (simp only [List.length_append,List.length_replicate,l41,l21,List.length_cons,List.length_nil];done) | (simp only [List.length_append,List.length_replicate,l41,l21,List.length_cons,List.length_nil];omega))) ?_
 refine aS ?_
 try refine oWr ?_
 refine Qq (show _ = Value.int .i64 ((448 - (Xj (nth L num.toNat).pl).length : Nat) : Int) from congrArg (Value.int .i64) (by omega)) ?_
 refine o_q (Qa rfl Qhc rfl (fun w1 h1=>c86 w1 (448 - (Xj (nth L num.toNat).pl).length) (by omega))) rfl ?_
 refine o_p (QV rfl rfl rfl (by (try simp only [List.length_append,List.length_cons,List.length_nil,List.length_replicate,List.length_take,List.length_drop]);omega)) rfl ?_
 refine Qq (show _ = Value.string (bs (Zz (nth L num.toNat).pl num lsn)) from rfl) ?_
 refine aS ?_
 refine o_q (Qa rfl QtB rfl (fun w1 h1=>c103 w1 (Zz (nth L num.toNat).pl num lsn) usn (Qb4 hcb) hu)) rfl ?_
 refine aS2 ?_
 exact rT rfl rfl (fun w' h'=>⟨by rfl,h'.below⟩)
set_option maxHeartbeats 1000000 in
theorem c39 (w : World) (s : List UInt8) (num : Int) (hsl : s.length ≤ 1000000) : Calls Tryz.prog 39 #[.string (bs s),.int .i64 num] w fun en w'=>∃ g : LNd,en = .returned (.tuple #[.agg #[.bool g.us,.slice g.ea g.es.length g.ec,.slice g.ca g.cs.length g.cc],.int .i64 (XK s num).lsn,.int .i64 (XK s num).usn,.int .i64 (XK s num).e]) ∧ g.pl = (XK s num).n ∧ HS w [] [.ents 27 g.ea g.ec g.es,.kids g.ca g.cc g.cs] w':=by
 refine enter (args:=[_,_]) Tryz.func39 Tryz.ntmps39 rfl rfl (HS.refl w []) ?_
 refine aS2 ?_
 refine oAl (fun b1 _=>?_) XF
 refine aS6 ?_
 refine o_p (Xq (cs:=[_,_,_]) rfl rfl QgP XF rfl) rfl ?_
 refine oAl (fun b2 _=>?_) XF
 refine oSt ?_
 refine aS5 ?_
 refine o_p (Qn rfl rfl Tryz.underlying9) rfl ?_
 refine aS2 ?_
 refine Qb rfl (fun h3=>?_) fun h3=>?_
 ·try simp only [Bool.not_eq_true',decide_eq_false_iff_not] at h3
  have hR : XK s num = ndE 10:=Qh7 (by have hq:=h3;omega)
  refine aS3 ?_
  refine oSt ?_
  refine aS4 ?_
  exact Qs (rs:=[.cell 4 69,.tmp 5,.tmp 6,.tmp 7]) rfl (.cell rfl Xz aPk rfl (.tmp rfl (.tmp rfl (.tmp rfl (.nil))))) (fun w' h'=>⟨⟨false,none,0,[],none,0,[]⟩,by rw [hR];rfl,by rw [hR];rfl,((h'.nil.own_nil 3 1).own_nil 27 2).ent aEt⟩)
 try simp only [Bool.not_eq_false',decide_eq_true_eq] at h3
 have hs5 : s.length = 512:=by have hq:=h3;omega
 refine aS5 ?_
 refine o_q (Qa rfl YM rfl (fun w1 h1=>c40 w1 _ _ _)) rfl ?_
 refine aS2 ?_
 refine Qb rfl (fun h4=>?_) fun h4=>?_
 ·try simp only [Bool.not_eq_true',Bool.and_eq_false_iff,decide_eq_false_iff_not] at h4
  have hR : XK s num = ndE 2:=Qhn hs5 (by have hq:=h4;grind)
  refine aS3 ?_
  refine oSt ?_
  refine aS4 ?_
  exact Qs (rs:=[.cell 4 69,.tmp 5,.tmp 6,.tmp 7]) rfl (.cell rfl Xz aPk rfl (.tmp rfl (.tmp rfl (.tmp rfl (.nil))))) (fun w' h'=>⟨⟨false,none,0,[],none,0,[]⟩,by rw [hR];rfl,by rw [hR];rfl,((h'.nil.own_nil 3 1).own_nil 27 2).ent aEt⟩)
 try simp only [Bool.not_eq_false',Bool.and_eq_true,decide_eq_true_eq] at h4
 have hn5 : 1 ≤ num ∧ num ≤ 120:=by have hq:=h4;grind
 refine aS4 ?_
 refine o_q (Qa rfl QtD rfl (fun w1 h1=>c102 w1 s hs5)) rfl ?_
 refine Qeq ?_
 refine Qb rfl (fun h5=>?_) fun h5=>?_
 ·try simp only [Bool.not_eq_true',Bool.not_eq_false'] at h5
  have ht : XA s = true:=by have hq:=h5;grind
  have hR:=Qe2 hs5 hn5 ht
  refine aS3 ?_
  refine oSt ?_
  refine aS4 ?_
  exact Qs (rs:=[.cell 4 69,.tmp 5,.tmp 6,.tmp 7]) rfl (.cell rfl Xz aPk rfl (.tmp rfl (.tmp rfl (.tmp rfl (.nil))))) (fun w' h'=>⟨⟨false,none,0,[],none,0,[]⟩,by rw [hR];rfl,by rw [hR];rfl,((h'.nil.own_nil 3 1).own_nil 27 2).ent aEt⟩)
 try simp only [Bool.not_eq_false',Bool.not_eq_true'] at h5
 have ht : XA s = false:=by have hq:=h5;grind
 rw [ht]
 rw [if_neg Bool.false_ne_true]
 have hol9:=Zg hs5
 obtain ⟨o,ho⟩ : ∃ o,o = QH s:=⟨_,rfl⟩
 rw [← ho]
 rw [← ho] at hol9
 have hol : o.length = 512:=hol9
 have hb2:=Qd9 o 16
 refine aS4 ?_
 refine o_q (Qa rfl Yy rfl (fun w1 h1=>by have h9:=c72 w1 o (8) 4 (by omega) (by omega) (by omega);rw [Y0,QfV] at h9;exact h9)) rfl ?_
 refine aS ?_
 refine o_q (Qa rfl Yy rfl (fun w1 h1=>by have h9:=c72 w1 o (16) 2 (by omega) (by omega) (by omega);rw [Qdk,QcQ] at h9;exact h9)) rfl ?_
 refine aS5 ?_
 refine o_p (Xq (cs:=[_,_,_]) rfl rfl QgP XF rfl) rfl ?_
 refine oAl (fun b6 _=>?_) XF
 refine oSt ?_
 refine aS5 ?_
 refine Qm (L':=[(0,_),(1,_),(4,_),(5,_),(6,_),(7,_),(8,_),(9,_),(11,_),(12,_),(13,_),(14,_),(15,_)]) aSx (fun _ h=>h) ?_
 refine aS2 ?_
 refine o_q (Qa rfl YM rfl (fun w1 h1=>c40 w1 _ _ _)) rfl ?_
 refine aS ?_
 refine Yi (α:=LNd × Nat × Bool) [14,15,40,41,42,43,44,45,46] (fun x=>[(14,.int .i64 (x.2.1 : Int)),(15,.bool x.2.2)]) (fun x=>HS w [] [.blk b6 69 3 (LNd.vals x.1),.ents 27 x.1.ea x.1.ec x.1.es,.kids x.1.ca x.1.cc x.1.cs,.blk b2 69 3 [.bool false,.slice none 0 0,.slice none 0 0],.blk b1 69 3 [.bool false,.slice none 0 0,.slice none 0 0]]) (fun x=>x.2.2 = (rdB o).isSome ∧ (∀ nd e,rdB o = some (nd,e) → x.1.pl = nd ∧ x.2.1 = e)) ?_ ?_
 ·skip
  refine Qb rfl (fun h7=>?_) fun h7=>?_
  ·try simp only [Bool.and_eq_true,decide_eq_true_eq] at h7
   have hct : 1 ≤ ub2 o 16 ∧ ub2 o 16 ≤ 4:=by have hq:=h7;omega
   have hrb:=QqJ hct
   refine aS3 ?_
   refine o_h (Ye rfl Qv9 rfl (fun w1 h1=>c98 w1 o 64 (ub2 o 16) (by omega) (by omega) (by omega))) rfl (fun ⟨gn,gl⟩ hgn=>?_)
   refine aS4 ?_
   refine oSt ?_
   refine aS3 ?_
   exact Qw (gn,gl,(rdN o 64 (ub2 o 16)).isSome) ⟨by rw [hrb],fun nd e h9=>hgn.1 nd e (by rw [← hrb];exact h9)⟩ aSx (fun w h=>h.ent aEt)
  try simp only [Bool.and_eq_false_iff,decide_eq_false_iff_not] at h7
  have hrb : rdB o = none:=Qrc (by have hq:=h7;omega)
  refine aS ?_
  exact Qw (⟨false,none,0,[],none,0,[]⟩,0,false) ⟨by rw [hrb];rfl,fun nd e h9=>(by rw [hrb] at h9;cases h9)⟩ aSx (fun w h=>((h.own_nil 3 1).own_nil 27 2).ent aEt)
 intro ⟨gn,gl,gk⟩ ⟨hg8,hg9⟩
 dsimp only
 simp only [] at hg8 hg9
 refine aS6 ?_
 refine Xt 4 49 53 _ _ rfl
  (by
   intro hg8
   have hs9:=hg8;try simp only [Bool.not_eq_false'] at hs9
   refine oOn 49 hg8 ?_
   refine aS ?_
   refine oOn 49 hg8 ?_
   refine o_p (ZZ 4 rfl rfl rfl Tryz.underlying9 rfl (by omega)) rfl ?_
   refine Qq (show _ = Value.string (bs (o.take 4)) from rfl) ?_
   refine oOn 49 hg8 ?_
   refine aS ?_
   refine o_p (Qf rfl rfl hg8 rfl) rfl ?_
   refine aS ?_
   exact oJn 4 53)
  (by
   intro hg10
   have hs11:=hg10;try simp only [Bool.not_eq_true'] at hs11
   refine oOf 49 hg10 ?_
   refine oOf 49 hg10 ?_
   refine oOf 49 hg10 ?_
   refine o_p (Qg rfl rfl hg10 rfl) rfl ?_
   refine aS ?_
   exact oJn 4 53) ?_
 refine aS ?_
 refine Xt 5 54 59 _ _ rfl
  (by
   intro hg12
   have hs13:=hg12;try simp only [Bool.or_eq_false_iff,Bool.not_eq_false',decide_eq_true_eq] at hs13
   refine oOn 54 hg12 ?_
   refine aS ?_
   refine oOn 54 hg12 ?_
   refine o_p (Xu _ _ 4 8 rfl rfl Tryz.underlying9 ⟨_,_,rfl,rfl⟩ ⟨_,_,rfl,rfl⟩ (by omega) (by omega)) rfl ?_
   refine Qq (show _ = Value.string (bs (Ql o 4 4)) from by rw [Qcs (n:=4) rfl]) ?_
   refine oOn 54 hg12 ?_
   refine o_q (Qa rfl Qjv rfl (fun w1 h1=>c53 w1 (Ql o 4 4) (by rw [QR (by omega)];omega))) rfl ?_
   refine oOn 54 hg12 ?_
   refine aS ?_
   refine o_p (Qf rfl rfl hg12 rfl) rfl ?_
   refine aS ?_
   exact oJn 5 59)
  (by
   intro hg14
   have hs15:=hg14;try simp only [Bool.or_eq_true,Bool.not_eq_true',decide_eq_false_iff_not] at hs15
   refine oOf 54 hg14 ?_
   refine oOf 54 hg14 ?_
   refine oOf 54 hg14 ?_
   refine oOf 54 hg14 ?_
   refine o_p (Qg rfl rfl hg14 rfl) rfl ?_
   refine aS ?_
   exact oJn 5 59) ?_
 refine aS ?_
 refine Xt 4 60 64 _ _ rfl
  (by
   intro hg16
   have hs17:=hg16;try simp only [Bool.or_eq_false_iff,Bool.not_eq_false',decide_eq_true_eq] at hs17
   refine oOn 60 hg16 ?_
   refine aS ?_
   refine oOn 60 hg16 ?_
   refine o_q (Qa rfl QeI rfl (fun w1 h1=>c35 w1 _)) rfl ?_
   refine oOn 60 hg16 ?_
   refine aS ?_
   refine o_p (Qf rfl rfl hg16 rfl) rfl ?_
   refine aS ?_
   exact oJn 4 64)
  (by
   intro hg18
   have hs19:=hg18;try simp only [Bool.or_eq_true,Bool.not_eq_true',decide_eq_false_iff_not] at hs19
   refine oOf 60 hg18 ?_
   refine oOf 60 hg18 ?_
   refine oOf 60 hg18 ?_
   refine o_p (Qg rfl rfl hg18 rfl) rfl ?_
   refine aS ?_
   exact oJn 4 64) ?_
 refine aS ?_
 refine Xt 5 65 70 _ _ rfl
  (by
   intro hg20
   have hs21:=hg20;try simp only [Bool.or_eq_false_iff,Bool.not_eq_false',decide_eq_true_eq,Bool.and_eq_true] at hs21
   refine oOn 65 hg20 ?_
   refine aS ?_
   refine oOn 65 hg20 ?_
   refine o_q (Qa rfl Yy rfl (fun w1 h1=>by have h9:=c72 w1 o (12) 4 (by omega) (by omega) (by omega);rw [Y0,QfV] at h9;exact h9)) rfl ?_
   refine oOn 65 hg20 ?_
   refine aS ?_
   refine oOn 65 hg20 ?_
   refine aS ?_
   refine o_p (Qf rfl rfl hg20 rfl) rfl ?_
   refine aS ?_
   exact oJn 5 70)
  (by
   intro hg22
   have hs23:=hg22;try simp only [Bool.or_eq_true,Bool.not_eq_true',decide_eq_false_iff_not,Bool.and_eq_false_iff] at hs23
   refine oOf 65 hg22 ?_
   refine oOf 65 hg22 ?_
   refine oOf 65 hg22 ?_
   refine oOf 65 hg22 ?_
   refine o_p (Qg rfl rfl hg22 rfl) rfl ?_
   refine aS ?_
   exact oJn 5 70) ?_
 refine aS ?_
 refine Xt 5 71 76 _ _ rfl
  (by
   intro hg24
   have hs25:=hg24;try simp only [Bool.or_eq_false_iff,Bool.not_eq_false',decide_eq_true_eq,Bool.and_eq_true] at hs25
   refine oOn 71 hg24 ?_
   refine aS ?_
   refine oOn 71 hg24 ?_
   refine o_p (Xu _ _ 18 40 rfl rfl Tryz.underlying9 ⟨_,_,rfl,rfl⟩ ⟨_,_,rfl,rfl⟩ (by omega) (by omega)) rfl ?_
   refine Qq (show _ = Value.string (bs (Ql o 18 22)) from by rw [Qcs (n:=22) rfl]) ?_
   refine oOn 71 hg24 ?_
   refine o_q (Qa rfl Qjv rfl (fun w1 h1=>c53 w1 (Ql o 18 22) (by rw [QR (by omega)];omega))) rfl ?_
   refine oOn 71 hg24 ?_
   refine aS ?_
   refine o_p (Qf rfl rfl hg24 rfl) rfl ?_
   refine aS ?_
   exact oJn 5 76)
  (by
   intro hg26
   have hs27:=hg26;try simp only [Bool.or_eq_true,Bool.not_eq_true',decide_eq_false_iff_not,Bool.and_eq_false_iff] at hs27
   refine oOf 71 hg26 ?_
   refine oOf 71 hg26 ?_
   refine oOf 71 hg26 ?_
   refine oOf 71 hg26 ?_
   refine o_p (Qg rfl rfl hg26 rfl) rfl ?_
   refine aS ?_
   exact oJn 5 76) ?_
 refine aS ?_
 refine Xt 5 77 82 _ _ rfl
  (by
   intro hg28
   have hs29:=hg28;try simp only [Bool.or_eq_false_iff,Bool.not_eq_false',decide_eq_true_eq,Bool.and_eq_true] at hs29
   refine oOn 77 hg28 ?_
   refine aS ?_
   refine oOn 77 hg28 ?_
   refine o_p (Xu _ _ 58 64 rfl rfl Tryz.underlying9 ⟨_,_,rfl,rfl⟩ ⟨_,_,rfl,rfl⟩ (by omega) (by omega)) rfl ?_
   refine Qq (show _ = Value.string (bs (Ql o 58 6)) from by rw [Qcs (n:=6) rfl]) ?_
   refine oOn 77 hg28 ?_
   refine o_q (Qa rfl Qjv rfl (fun w1 h1=>c53 w1 (Ql o 58 6) (by rw [QR (by omega)];omega))) rfl ?_
   refine oOn 77 hg28 ?_
   refine aS ?_
   refine o_p (Qf rfl rfl hg28 rfl) rfl ?_
   refine aS ?_
   exact oJn 5 82)
  (by
   intro hg30
   have hs31:=hg30;try simp only [Bool.or_eq_true,Bool.not_eq_true',decide_eq_false_iff_not,Bool.and_eq_false_iff] at hs31
   refine oOf 77 hg30 ?_
   refine oOf 77 hg30 ?_
   refine oOf 77 hg30 ?_
   refine oOf 77 hg30 ?_
   refine o_p (Qg rfl rfl hg30 rfl) rfl ?_
   refine aS ?_
   exact oJn 5 82) ?_
 refine aS ?_
 refine Xt 6 83 89 _ _ rfl
  (by
   intro hg32
   have hs33:=hg32;try simp only [Bool.or_eq_false_iff,Bool.not_eq_false',decide_eq_true_eq,Bool.and_eq_true] at hs33
   refine oOn 83 hg32 ?_
   refine aS ?_
   refine oOn 83 hg32 ?_
   refine aS ?_
   have hq9:=hg32
   have hgl : gl ≤ 512:=by have hgk : gk = true:=(by grind);rw [hg8] at hgk;obtain ⟨⟨n9,e9⟩,hrd⟩:=Option.isSome_iff_exists.1 hgk;obtain ⟨_,e⟩:=hg9 _ _ hrd;have h3:=(Qdo hol hrd).2.2.1;omega
   refine oOn 83 hg32 ?_
   refine o_p (YE gl rfl rfl rfl Tryz.underlying9 rfl (by omega)) rfl ?_
   refine oOn 83 hg32 ?_
   refine o_q (Qa rfl Qjv rfl (fun w1 h1=>c53 w1 (o.drop gl) (by rw [List.length_drop];omega))) rfl ?_
   refine oOn 83 hg32 ?_
   refine aS ?_
   refine o_p (Qf rfl rfl hg32 rfl) rfl ?_
   refine aS ?_
   exact oJn 6 89)
  (by
   intro hg34
   have hs35:=hg34;try simp only [Bool.or_eq_true,Bool.not_eq_true',decide_eq_false_iff_not,Bool.and_eq_false_iff] at hs35
   refine oOf 83 hg34 ?_
   refine oOf 83 hg34 ?_
   refine oOf 83 hg34 ?_
   refine oOf 83 hg34 ?_
   refine oOf 83 hg34 ?_
   refine o_p (Qg rfl rfl hg34 rfl) rfl ?_
   refine aS ?_
   exact oJn 6 89) ?_
 refine aS ?_
 refine Qb rfl (fun h36=>?_) fun h36=>?_
 ·try simp only [Bool.or_eq_true,Bool.not_eq_true',decide_eq_false_iff_not,Bool.and_eq_false_iff] at h36
  have hR : XK s num = ndE 3:=by cases hr : rdB o with | none=>exact Qdy hs5 hn5 ht (by rw [← ho];exact hr) | some q=>(obtain ⟨n9,e9⟩:=q;obtain ⟨_,hp9⟩:=hg9 _ _ hr;rw [QcC hs5 hn5 ht (by rw [← ho];exact hr),if_neg];rw [← ho];intro h9;have hq:=h36;rw [hg8,hr] at hq;simp only [Qgb,Bool.and_eq_true,decide_eq_true_eq] at h9;obtain ⟨⟨a1,a2,a3,a4,a5,a6⟩,a7⟩:=h9;rw [hp9] at hq;have a0 : List.take 4 o = [73,78,68,88]:=a1;simp [a0,a2,a4,a5,a6,a7] at hq;omega)
  refine aS ?_
  refine Qm (L':=[(0,_),(4,_),(5,_),(6,_),(7,_),(8,_),(11,_),(13,_)]) aSx (fun _ h=>h) ?_
  refine aS2 ?_
  refine oSt ?_
  refine aS4 ?_
  exact Qs (rs:=[.cell 4 69,.tmp 5,.tmp 6,.tmp 7]) rfl (.cell rfl Xz aPk rfl (.tmp rfl (.tmp rfl (.tmp rfl (.nil))))) (fun w' h'=>⟨⟨false,none,0,[],none,0,[]⟩,by rw [hR];rfl,by rw [hR];rfl,((h'.nil.own_nil 3 1).own_nil 27 2).ent aEt⟩)
 try simp only [Bool.or_eq_false_iff,Bool.not_eq_false',decide_eq_true_eq,Bool.and_eq_true] at h36
 obtain ⟨⟨n9,e9⟩,hrd⟩ : ∃ q,rdB o = some q:=Option.isSome_iff_exists.1 (by rw [← hg8];have hq:=h36;grind)
 obtain ⟨hpl9,hl9⟩:=hg9 _ _ hrd
 have hR : XK s num = ⟨n9,(ub4 o 8 : Int),(ub2 s 40 : Int),0⟩:=by rw [QcC hs5 hn5 ht (by rw [← ho];exact hrd),if_pos];(rw [← ho]);rw [← ho];have hq:=h36;rw [hl9] at hq;simp only [Qgb,Bool.and_eq_true,decide_eq_true_eq];obtain ⟨⟨⟨⟨⟨⟨⟨q1,q2⟩,q3⟩,q4⟩,q5⟩,q6⟩,q7⟩,q8⟩:=hq;exact ⟨⟨q2,q3,by omega,q5,q6,q7⟩,q8⟩
 refine aS2 ?_
 refine Qm (L':=[(0,_),(4,_),(5,_),(6,_),(7,_),(11,_),(13,_)]) aSx (fun _ h=>h) ?_
 refine QG [4] QU ?_
 refine dLn 0 [[]] ?_
 refine dP 1 ?_
 refine dP 2 ?_
 refine dQ 3 [[]] rfl (Qa rfl Yy rfl (fun w1 h1=>by have h9:=c72 w1 s (40) 2 (by omega) (by omega) (by omega);rw [Qdk,QcQ] at h9;exact h9)) ?_
 refine dSt 4 ?_ (hl:=(by simp only [Qk,List.length_set,List.length_cons,List.length_nil,List.length_map];omega))
 refine dTu [] ?_
 refine dP 5 ?_
 refine dP 6 ?_
 refine dP 7 ?_
 refine dNi ?_
 exact Qs (rs:=[.cell 4 69,.tmp 5,.tmp 6,.tmp 7]) rfl (.cell rfl Xz aPk rfl (.tmp rfl (.tmp rfl (.tmp rfl (.nil))))) (fun w' h'=>⟨gn,by rw [hR];rfl,by rw [hR];exact hpl9,h'.ent aEt⟩)
instance : TFd Tryz.prog 78 0 0 3:=⟨by kernel_rfl⟩
instance : TFd Tryz.prog 78 1 1 3:=⟨by kernel_rfl⟩
instance : TFd Tryz.prog 78 2 2 3:=⟨by kernel_rfl⟩
theorem Ql8 : Qt Tryz.prog 37 = true:=by kernel_rfl
theorem QjM : Qt Tryz.prog 38 = true:=by kernel_rfl
theorem QlR : Qt Tryz.prog 39 = true:=by kernel_rfl
theorem Qwx : Qt Tryz.prog 41 = true:=by kernel_rfl
theorem Qrb (b : List UInt8) (num : Int) : (XK b num).n.es.length ≤ 100000 ∧ (XK b num).n.cs.length ≤ 100000:=by
  by_cases h1 : b.length = 512
  · by_cases h2 : 1 ≤ num ∧ num ≤ 120
    · cases h3 : XA b with
      | true=>rw [Qe2 h1 h2 h3];exact ⟨Nat.zero_le _,Nat.zero_le _⟩
      | false=>
        cases h4 : rdB (QH b) with
        | none=>rw [Qdy h1 h2 h3 h4];exact ⟨Nat.zero_le _,Nat.zero_le _⟩
        | some q=>
          obtain ⟨m,last⟩:=q;have e:=QcC h1 h2 h3 h4;obtain ⟨_,_,_,q4,q5,q6⟩:=Qdo (Zg h1) h4;have hcl:=(q6.ndp (by omega)).cl;rw [e];split
          · exact ⟨by show m.es.length ≤ _;omega,by show m.cs.length ≤ _;omega⟩
          · exact ⟨Nat.zero_le _,Nat.zero_le _⟩
    · rw [Qhn h1 h2];exact ⟨Nat.zero_le _,Nat.zero_le _⟩
  · rw [Qh7 h1];exact ⟨Nat.zero_le _,Nat.zero_le _⟩
theorem QqF {m : Nd} {num lsn usn : Int} (h : (Xj m).length ≤ 448) : (QaU m num lsn usn).length = 512:=Qef (Qb4 h)
theorem QdY {x : LNd} {b : List UInt8} {num : Int} (h : x.pl = (XK b num).n) : x.es.length ≤ 100000 ∧ x.cs.length ≤ 100000:=by
  have h9:=Qrb b num;rw [← h] at h9;exact h9
set_option maxHeartbeats 1000000 in
theorem c7a (w : World) (co mo rm : Int) (a : Option Addr) (cap : Nat) (L : List LNd) (num lsn usn : Int) (s : List UInt8) (hs : Nt w [] a L) (hfw : Yx (pln L) = true) (hl20 : L.length ≤ 20) (h513 : s.length ≤ 513) (hN : (nbE (⟨co,mo,rm,pln L⟩ : Tre) num lsn usn) = 0) : Calls Tryz.prog 7 #[.agg #[.int .i64 co,.int .i64 mo,.int .i64 rm,.slice a L.length cap],.agg #[.int .i64 num,.int .i64 lsn,.int .i64 usn],.string (bs s)] w fun en w'=>en = .returned (.bool true) ∧ Below w.heap.size w w':=by
 have hB:=Qfm hfw
 have hkl:=Qcl hfw
 have hsm:=Qe1 hfw
 have hle:=hB.len
 rw [Qi] at hle
 have hkv:=Qae hfw
 have hpl9 : (nth (pln L) num.toNat) = (nth L num.toNat).pl:=XJ L num.toNat
 obtain ⟨hE,hu9,hr9⟩:=QsF hN
 have hu8 : (1 ≤ num ∧ num ≤ ((pln L).length : Int) - 1) ∧ (nth (pln L) num.toNat).us = true:=hu9
 rw [Qi] at hu8
 have h09 : num.toNat < L.length:=by omega
 obtain ⟨_,hel9,hcb9,hnm9,hnp9⟩:=Qht hN
 have hcb : (Xj (nth L num.toNat).pl).length ≤ 448:=by rw [← hpl9];exact hcb9
 have hnp : NdP (nth L num.toNat).pl:=by rw [← hpl9];exact hnp9
 have hR3 : XK (QaU (nth (pln L) num.toNat) num lsn usn) num = ⟨(nth (pln L) num.toNat),lsn,usn,0⟩:=by have h9:=Qr7 (t:=(⟨co,mo,rm,pln L⟩ : Tre)) (num:=num) (lsn:=lsn) (usn:=usn) hN;exact h9
 have hAl : (QaU (nth (pln L) num.toNat) num lsn usn).length ≤ 1000000:=Nat.le_trans (Nat.le_of_eq (QqF hcb9)) (by decide)
 obtain ⟨A9,hA9⟩ : ∃ z,z = (QaU (nth (pln L) num.toNat) num lsn usn):=⟨_,rfl⟩
 rw [← hA9] at hR3 hAl
 have hus : (nth L num.toNat).us = true:=by have h9:=hu8.2;rw [hpl9] at h9;exact h9
 have hel8 : (nth L num.toNat).es.length ≤ 1000:=hnp.el
 have hcl8 : (nth L num.toNat).cs.length = 0 ∨ (nth L num.toNat).cs.length = (nth L num.toNat).es.length + 1:=hnp.cl
 refine enter (args:=[_,_,_]) Tryz.func7 Tryz.ntmps7 rfl rfl (HS.refl w []) ?_
 refine aS2 ?_
 refine oBx fun b1 _=>?_
 refine oBx fun b2 _=>?_
 refine aS5 ?_
 refine o_q (Qa rfl QjS rfl (fun w1 h1=>c11 w1)) rfl ?_
 refine aS2 ?_
 refine Qb rfl (fun h3=>?_) fun h3=>?_
 ·try simp only [Bool.not_true] at h3
  exfalso;simp at h3
 try simp only [Bool.not_true] at h3
 refine aS5 ?_
 refine o_q (Qa rfl Qi1 rfl (fun w1 h1=>c19 w1 co mo rm a cap L (hs.later h1.nil))) rfl ?_
 refine aS2 ?_
 refine Xt 4 22 26 _ _ rfl
  (by
   intro hg4
   have hs5:=hg4;try simp only [Bool.not_eq_false',Bool.and_eq_true,decide_eq_true_eq] at hs5
   refine oOn 22 hg4 ?_
   refine aS ?_
   refine oOn 22 hg4 ?_
   refine o_p (Qn rfl rfl Tryz.underlying9) rfl ?_
   refine oOn 22 hg4 ?_
   refine aS ?_
   refine o_p (Qf rfl rfl hg4 rfl) rfl ?_
   refine aS ?_
   exact oJn 4 26)
  (by
   intro hg6
   have hs7:=hg6;try simp only [Bool.not_eq_true',Bool.and_eq_false_iff,decide_eq_false_iff_not] at hs7
   refine oOf 22 hg6 ?_
   refine oOf 22 hg6 ?_
   refine oOf 22 hg6 ?_
   refine o_p (Qg rfl rfl hg6 rfl) rfl ?_
   refine aS ?_
   exact oJn 4 26) ?_
 refine aS ?_
 refine Qb rfl (fun h8=>?_) fun h8=>?_
 ·try simp only [Bool.or_eq_true,Bool.not_eq_true',Bool.and_eq_false_iff,decide_eq_false_iff_not,decide_eq_true_eq] at h8
  exfalso;have hq:=h8;simp [hfw] at hq;omega
 try simp only [Bool.or_eq_false_iff,Bool.not_eq_false',Bool.and_eq_true,decide_eq_true_eq,decide_eq_false_iff_not] at h8
 refine aS2 ?_
 refine QG [] QU ?_
 refine dLn 0 [] ?_
 refine dFa 2 ?_
 refine dLd 3 [] ?_
 refine dFa 4 ?_
 refine dLd 5 [] ?_
 refine dFa 6 ?_
 refine dLd 7 [] ?_
 refine dH 1 rfl (Ye rfl QlY rfl (fun w1 h1=>c21 w1 co mo rm a cap L (hs.later h1.nil) hle hsm)) (fun ⟨⟨ga,gc⟩,LC⟩ hLC=>?_)
 refine dBa ?_
 refine dQ 8 [] rfl (Qa rfl Ql8 rfl (fun w1 h1=>c37 w1 co mo rm ga gc LC num lsn usn (HS.nt h1 aPk) (by rw [hLC];exact hB) (Qae (by rw [hLC];exact hfw)))) ?_
 rw [show (nth LC num.toNat).pl = nth (pln LC) num.toNat from (XJ LC num.toNat).symm,hLC]
 rw [if_pos hN,hN,← hA9]
 refine dP 9 ?_
 refine dP 10 ?_
 refine dP 11 ?_
 refine dP 12 ?_
 refine dP 13 ?_
 refine dNi ?_
 refine aS5 ?_
 refine o_h (Ye rfl QjM rfl (fun w1 h1=>c38 w1 s num (by omega))) rfl (fun n1 hn1=>?_)
 refine aS5 ?_
 refine oAl (fun b9 _=>?_) XF
 refine oSt ?_
 refine aS5 ?_
 refine Qm (L':=[(2,_),(3,_),(4,_),(6,_),(7,_),(8,_),(9,_),(10,_),(11,_),(12,_)]) aSx (fun _ h=>h) ?_
 refine aS4 ?_
 refine o_h (Ye rfl QlR rfl (fun w1 h1=>c39 w1 s num (by omega))) rfl (fun n2 hn2=>?_)
 refine aS5 ?_
 refine oAl (fun b10 _=>?_) XF
 refine oSt ?_
 refine QeX ?_
 refine Xt 5 60 65 _ _ rfl
  (by
   intro hg11
   have hs12:=hg11;try simp only [Bool.not_eq_false',decide_eq_true_eq] at hs12
   refine oOn 60 hg11 ?_
   refine aS ?_
   refine oOn 60 hg11 ?_
   refine aS ?_
   refine oOn 60 hg11 ?_
   refine o_q (Qa rfl Qjb rfl (fun w1 h1=>c33 w1 n1 n2 (h1.rw_own ev2 aPk rfl) (h1.rw_own iv1 aPk rfl) (h1.rw_own ev2 aPk rfl) (h1.rw_own iv1 aPk rfl) (QdY hn1) (QdY hn2))) rfl ?_
   refine oOn 60 hg11 ?_
   refine aS ?_
   refine o_p (Qf rfl rfl hg11 rfl) rfl ?_
   refine aS ?_
   exact oJn 5 65)
  (by
   intro hg13
   have hs14:=hg13;try simp only [Bool.not_eq_true',decide_eq_false_iff_not] at hs14
   refine oOf 60 hg13 ?_
   refine oOf 60 hg13 ?_
   refine oOf 60 hg13 ?_
   refine oOf 60 hg13 ?_
   refine o_p (Qg rfl rfl hg13 rfl) rfl ?_
   refine aS ?_
   exact oJn 5 65) ?_
 refine aS ?_
 refine Xt 4 66 70 _ _ rfl
  (by
   intro hg15
   have hs16:=hg15;try simp only [Bool.or_eq_false_iff,Bool.not_eq_false',decide_eq_true_eq] at hs16
   refine oOn 66 hg15 ?_
   refine aS ?_
   refine oOn 66 hg15 ?_
   refine aS ?_
   refine oOn 66 hg15 ?_
   refine aS ?_
   refine o_p (Qf rfl rfl hg15 rfl) rfl ?_
   refine aS ?_
   exact oJn 4 70)
  (by
   intro hg17
   have hs18:=hg17;try simp only [Bool.or_eq_true,Bool.not_eq_true',decide_eq_false_iff_not] at hs18
   refine oOf 66 hg17 ?_
   refine oOf 66 hg17 ?_
   refine oOf 66 hg17 ?_
   refine o_p (Qg rfl rfl hg17 rfl) rfl ?_
   refine aS ?_
   exact oJn 4 70) ?_
 refine aS ?_
 refine Xt 4 71 75 _ _ rfl
  (by
   intro hg19
   have hs20:=hg19;try simp only [Bool.or_eq_false_iff,Bool.not_eq_false',decide_eq_true_eq] at hs20
   refine oOn 71 hg19 ?_
   refine aS ?_
   refine oOn 71 hg19 ?_
   refine aS ?_
   refine oOn 71 hg19 ?_
   refine aS ?_
   refine o_p (Qf rfl rfl hg19 rfl) rfl ?_
   refine aS ?_
   exact oJn 4 75)
  (by
   intro hg21
   have hs22:=hg21;try simp only [Bool.or_eq_true,Bool.not_eq_true',decide_eq_false_iff_not] at hs22
   refine oOf 71 hg21 ?_
   refine oOf 71 hg21 ?_
   refine oOf 71 hg21 ?_
   refine o_p (Qg rfl rfl hg21 rfl) rfl ?_
   refine aS ?_
   exact oJn 4 75) ?_
 refine aS ?_
 refine Qb rfl (fun h23=>?_) fun h23=>?_
 ·try simp only [Bool.or_eq_true,Bool.not_eq_true',decide_eq_false_iff_not] at h23
  exfalso;have hq:=h23;simp [hn1,hn2] at hq
 try simp only [Bool.or_eq_false_iff,Bool.not_eq_false',decide_eq_true_eq] at h23
 refine aS2 ?_
 refine Qm (L':=[(3,_),(4,_),(6,_),(7,_),(8,_),(9,_),(10,_),(11,_),(12,_),(16,_)]) aSx (fun _ h=>h) ?_
 refine aS2 ?_
 refine o_q (Qa rfl QlA rfl (fun w1 h1=>c24 w1 co mo rm a cap L (hs.later h1.nil) hB hkv)) rfl ?_
 rw [hE]
 refine aS8 ?_
 refine Xn 19 80 99 _ _ rfl
  (by
   intro hg24
   have hs25:=hg24;try simp only [dT] at hs25
   refine oOn 80 hg24 ?_
   refine aS ?_
   refine oOn 80 hg24 ?_
   refine aS ?_
   refine oOn 80 hg24 ?_
   refine aS ?_
   refine oOn 80 hg24 ?_
   refine aS ?_
   refine oOn 80 hg24 ?_
   refine aS ?_
   refine oOn 80 hg24 ?_
   refine aS ?_
   try refine oWr ?_
   refine oOn 80 hg24 ?_
   refine o_q (Qa rfl YM rfl (fun w1 h1=>c40 w1 _ _ _)) rfl ?_
   refine oOn 80 hg24 ?_
   refine aS ?_
   refine oOn 80 hg24 ?_
   refine aS ?_
   refine Xt 9 89 98 _ _ rfl
    (by
     intro hg26
     have hs27:=hg26;try simp only [Bool.not_eq_false',Bool.and_eq_true,decide_eq_true_eq] at hs27
     refine oOn 89 hg26 ?_
     refine aS ?_
     refine oOn 89 hg26 ?_
     refine aS ?_
     refine oOn 89 hg26 ?_
     refine aS ?_
     refine oOn 89 hg26 ?_
     refine aS ?_
     refine oOn 89 hg26 ?_
     refine o_p (Qc rfl rfl rfl XB num.toNat (by omega) (by omega) (Rw.some hs.1 (by omega))) rfl ?_
     refine oOn 89 hg26 ?_
     refine aS ?_
     refine oOn 89 hg26 ?_
     refine o_q (Qd rfl rfl Qdl ((hs.1.rdj (i:=num.toNat) 0 (by omega) rfl))) rfl ?_
     refine oOn 89 hg26 ?_
     refine aS ?_
     refine oOn 80 hg24 ?_
     refine o_p (Qf rfl rfl hg26 rfl) rfl ?_
     refine aS ?_
     exact oJn 9 98)
    (by
     intro hg28
     have hs29:=hg28;try simp only [Bool.not_eq_true',Bool.and_eq_false_iff,decide_eq_false_iff_not] at hs29
     refine oOf 89 hg28 ?_
     refine oOf 89 hg28 ?_
     refine oOf 89 hg28 ?_
     refine oOf 89 hg28 ?_
     refine oOf 89 hg28 ?_
     refine oOf 89 hg28 ?_
     refine oOf 89 hg28 ?_
     refine oOf 89 hg28 ?_
     refine oOn 80 hg24 ?_
     refine o_p (Qg rfl rfl hg28 rfl) rfl ?_
     refine aS ?_
     exact oJn 9 98) ?_
   refine o_p (Qg rfl rfl hg24 rfl) rfl ?_
   refine aS ?_
   exact oJn 11 99)
  (by
   intro hg30
   have hs31:=hg30;try simp only [dN] at hs31
   refine oOf 80 hg30 ?_
   refine oOf 80 hg30 ?_
   refine oOf 80 hg30 ?_
   refine oOf 80 hg30 ?_
   refine oOf 80 hg30 ?_
   refine oOf 80 hg30 ?_
   refine oOf 80 hg30 ?_
   refine oOf 80 hg30 ?_
   refine oOf 80 hg30 ?_
   refine QE 89 rfl rfl rfl ?_
   refine QE 89 rfl rfl rfl ?_
   refine QE 89 rfl rfl rfl ?_
   refine QE 89 rfl rfl rfl ?_
   refine QE 89 rfl rfl rfl ?_
   refine QE 89 rfl rfl rfl ?_
   refine QE 89 rfl rfl rfl ?_
   refine QE 89 rfl rfl rfl ?_
   refine oOf 80 hg30 ?_
   refine o_p (Qf rfl rfl hg30 rfl) rfl ?_
   refine aS ?_
   exact oJn 19 99) ?_
 refine aS ?_
 refine Qb rfl (fun h32=>?_) fun h32=>?_
 ·try simp only [Bool.and_eq_true,decide_eq_true_eq,Bool.or_eq_true,Bool.not_eq_true',Bool.and_eq_false_iff,decide_eq_false_iff_not] at h32
  exfalso;have hq:=h32;simp [hus] at hq;omega
 try simp only [Bool.and_eq_false_iff,decide_eq_false_iff_not,Bool.or_eq_false_iff,Bool.not_eq_false',Bool.and_eq_true,decide_eq_true_eq] at h32
 refine aS7 ?_
 refine Xn 11 102 113 _ _ rfl
  (by
   intro hg33
   have hs34:=hg33;try simp only [dT] at hs34
   refine oOn 102 hg33 ?_
   refine aS ?_
   refine oOn 102 hg33 ?_
   refine aS ?_
   refine oOn 102 hg33 ?_
   refine o_q (Qa rfl QeI rfl (fun w1 h1=>c35 w1 _)) rfl ?_
   refine oOn 102 hg33 ?_
   refine aS ?_
   refine oOn 102 hg33 ?_
   refine aS ?_
   refine Xt 5 107 112 _ _ rfl
    (by
     intro hg35
     have hs36:=hg35;try simp only [Bool.not_eq_false',Bool.and_eq_true,decide_eq_true_eq] at hs36
     refine oOn 107 hg35 ?_
     refine aS ?_
     refine oOn 107 hg35 ?_
     refine aS ?_
     refine oOn 107 hg35 ?_
     refine o_q (Qa rfl YM rfl (fun w1 h1=>c40 w1 _ _ _)) rfl ?_
     refine oOn 107 hg35 ?_
     refine aS ?_
     refine oOn 102 hg33 ?_
     refine o_p (Qf rfl rfl hg35 rfl) rfl ?_
     refine aS ?_
     exact oJn 5 112)
    (by
     intro hg37
     have hs38:=hg37;try simp only [Bool.not_eq_true',Bool.and_eq_false_iff,decide_eq_false_iff_not] at hs38
     refine oOf 107 hg37 ?_
     refine oOf 107 hg37 ?_
     refine oOf 107 hg37 ?_
     refine oOf 107 hg37 ?_
     refine oOn 102 hg33 ?_
     refine o_p (Qg rfl rfl hg37 rfl) rfl ?_
     refine aS ?_
     exact oJn 5 112) ?_
   refine o_p (Qg rfl rfl hg33 rfl) rfl ?_
   refine aS ?_
   exact oJn 7 113)
  (by
   intro hg39
   have hs40:=hg39;try simp only [dN] at hs40
   refine oOf 102 hg39 ?_
   refine oOf 102 hg39 ?_
   refine oOf 102 hg39 ?_
   refine oOf 102 hg39 ?_
   refine oOf 102 hg39 ?_
   refine QE 107 rfl rfl rfl ?_
   refine QE 107 rfl rfl rfl ?_
   refine QE 107 rfl rfl rfl ?_
   refine QE 107 rfl rfl rfl ?_
   refine oOf 102 hg39 ?_
   refine o_p (Qf rfl rfl hg39 rfl) rfl ?_
   refine aS ?_
   exact oJn 11 113) ?_
 refine aS ?_
 refine Qb rfl (fun h41=>?_) fun h41=>?_
 ·try simp only [Bool.and_eq_true,decide_eq_true_eq,Bool.or_eq_true,Bool.not_eq_true',Bool.and_eq_false_iff,decide_eq_false_iff_not] at h41
  exfalso;have hq:=h41;simp at hq;omega
 try simp only [Bool.and_eq_false_iff,decide_eq_false_iff_not,Bool.or_eq_false_iff,Bool.not_eq_false',Bool.and_eq_true,decide_eq_true_eq] at h41
 refine aS7 ?_
 refine Qb rfl (fun h42=>?_) fun h42=>?_
 ·try simp only [Bool.not_eq_true',decide_eq_false_iff_not] at h42
  exfalso;have hq:=h42;simp at hq
 try simp only [Bool.not_eq_false',decide_eq_true_eq] at h42
 refine aS7 ?_
 refine Xt 11 125 136 _ _ rfl
  (by
   intro hg43
   have hs44:=hg43;try simp only [Bool.not_eq_false',decide_eq_true_eq] at hs44
   refine oOn 125 hg43 ?_
   refine aS ?_
   refine oOn 125 hg43 ?_
   refine aS ?_
   refine oOn 125 hg43 ?_
   refine aS ?_
   refine oOn 125 hg43 ?_
   refine aS ?_
   refine oOn 125 hg43 ?_
   refine aS ?_
   refine oOn 125 hg43 ?_
   refine aS ?_
   refine oOn 125 hg43 ?_
   refine aS ?_
   refine oOn 125 hg43 ?_
   refine aS ?_
   refine oOn 125 hg43 ?_
   refine o_q (Qa rfl Qwx rfl (fun w1 h1=>c41 w1 co mo rm a cap L num lsn usn (hs.later h1.nil) (by omega) h09 hnp hcb (by omega) (by omega))) rfl ?_
   rw [← hpl9,← hA9]
   refine oOn 125 hg43 ?_
   refine aS ?_
   refine o_p (Qf rfl rfl hg43 rfl) rfl ?_
   refine aS ?_
   exact oJn 11 136)
  (by
   intro hg45
   have hs46:=hg45;try simp only [Bool.not_eq_true',decide_eq_false_iff_not] at hs46
   refine oOf 125 hg45 ?_
   refine oOf 125 hg45 ?_
   refine oOf 125 hg45 ?_
   refine oOf 125 hg45 ?_
   refine oOf 125 hg45 ?_
   refine oOf 125 hg45 ?_
   refine oOf 125 hg45 ?_
   refine oOf 125 hg45 ?_
   refine oOf 125 hg45 ?_
   refine oOf 125 hg45 ?_
   refine o_p (Qg rfl rfl hg45 rfl) rfl ?_
   refine aS ?_
   exact oJn 11 136) ?_
 refine aS ?_
 refine Qb rfl (fun h47=>?_) fun h47=>?_
 ·try simp only [Bool.or_eq_true,Bool.not_eq_true',decide_eq_false_iff_not] at h47
  exfalso;have hq:=h47;simp at hq
 try simp only [Bool.or_eq_false_iff,Bool.not_eq_false',decide_eq_true_eq] at h47
 refine aS6 ?_
 refine o_h (Ye rfl QjM rfl (fun w1 h1=>c38 w1 A9 num hAl)) rfl (fun n3 hn3=>?_)
 have hn4:=QdY hn3
 rw [hR3] at hn3 ⊢
 dsimp only at hn3 ⊢
 refine aS5 ?_
 refine oSt ?_
 refine aS5 ?_
 refine Qm (L':=[(3,_),(4,_),(6,_),(9,_),(10,_),(11,_),(12,_)]) aSx (fun _ h=>h) ?_
 refine QG [] QU ?_
 refine dP 0 ?_
 refine dP 1 ?_
 refine dP 2 ?_
 apply XZ 148
 ·exact rfl
 ·intro hg48
  have hs49:=hg48;try simp only [dT] at hs49
  refine dQo 3 148 [] hg48 rfl rfl rfl (Qfn rfl rfl Xz aPk rfl) ?_
  refine dFo 4 148 hg48 ?_
  refine dQo 5 148 [] hg48 rfl rfl rfl (YA rfl rfl QbS aPk rfl) ?_
  refine dFo 6 148 hg48 ?_
  refine dQo 7 148 [] hg48 rfl rfl rfl (YA rfl rfl Y1 aPk rfl) ?_
  refine dVo 8 148 hg48 rfl rfl rfl (Qc rfl rfl rfl XB num.toNat (by omega) (by omega) (Rw.some hs.1 (by omega))) ?_
  refine dQo 9 148 [] hg48 rfl rfl rfl (QA _ rfl rfl Xz rfl (Rw.rd hs.1 (by omega))) ?_
  refine dQo 10 148 [] hg48 rfl rfl rfl (Qa rfl Qjb rfl (fun w1 h1=>c33 w1 n3 (nth L num.toNat) (h1.rw_own ev2 aPk rfl) (h1.rw_own iv1 aPk rfl) ((hs.es h09).later h1) ((hs.cs h09).later h1) hn4 (by omega))) ?_
  refine dV 11 rfl (Qg rfl rfl hg48 rfl) ?_
  refine dP 12 ?_
  apply XZ 158
  ·exact rfl
  ·intro hg50
   have hs51:=hg50;try simp only [dT] at hs51
   refine dPo 13 158 hg50 ?_
   refine dFo 14 158 hg50 ?_
   refine dQo 15 158 [] hg50 rfl rfl rfl (YA rfl rfl Y1 aPk rfl) ?_
   refine dPo 16 158 hg50 ?_
   refine dV 17 rfl (Qg rfl rfl hg50 rfl) ?_
   refine dP 18 ?_
   apply XZ 164
   ·exact rfl
   ·intro hg52
    have hs53:=hg52;try simp only [dT] at hs53
    refine dPo 19 164 hg52 ?_
    refine dFo 20 164 hg52 ?_
    refine dQo 21 164 [] hg52 rfl rfl rfl (YA rfl rfl Y1 aPk rfl) ?_
    refine dPo 22 164 hg52 ?_
    refine dV 23 rfl (Qg rfl rfl hg52 rfl) ?_
    refine dP 24 ?_
    refine dNi ?_
    exact rT rfl rfl (fun w' h'=>⟨by first | (simp [QT,hn3,hpl9];done) | rfl,h'.below⟩)
   intro hg54
   have hs55:=hg54;try simp only [dN] at hs55
   exfalso;have hq:=hg54;simp at hq
  intro hg56
  have hs57:=hg56;try simp only [dN] at hs57
  exfalso;have hq:=hg56;simp [hn3,hpl9] at hq
 intro hg58
 have hs59:=hg58;try simp only [dN] at hs59
 exfalso;have hq:=hg58;simp at hq
set_option maxHeartbeats 1000000 in
theorem c7b (w : World) (co mo rm : Int) (a : Option Addr) (cap : Nat) (L : List LNd) (num lsn usn : Int) (s : List UInt8) (hs : Nt w [] a L) (hfw : Yx (pln L) = true) (hl20 : L.length ≤ 20) (h513 : s.length ≤ 513) (hE : ¬ YC (⟨co,mo,rm,pln L⟩ : Tre) = 0) : Calls Tryz.prog 7 #[.agg #[.int .i64 co,.int .i64 mo,.int .i64 rm,.slice a L.length cap],.agg #[.int .i64 num,.int .i64 lsn,.int .i64 usn],.string (bs s)] w fun en w'=>en = .returned (.bool true) ∧ Below w.heap.size w w':=by
 have hB:=Qfm hfw
 have hkl:=Qcl hfw
 have hsm:=Qe1 hfw
 have hle:=hB.len
 rw [Qi] at hle
 have hkv:=Qae hfw
 have hpl9 : (nth (pln L) num.toNat) = (nth L num.toNat).pl:=XJ L num.toNat
 have hN:=QhA (num:=num) (lsn:=lsn) (usn:=usn) hE
 have hN0 : ¬ (nbE (⟨co,mo,rm,pln L⟩ : Tre) num lsn usn) = 0:=by rw [hN];exact hE
 refine enter (args:=[_,_,_]) Tryz.func7 Tryz.ntmps7 rfl rfl (HS.refl w []) ?_
 refine aS2 ?_
 refine oBx fun b1 _=>?_
 refine oBx fun b2 _=>?_
 refine aS5 ?_
 refine o_q (Qa rfl QjS rfl (fun w1 h1=>c11 w1)) rfl ?_
 refine aS2 ?_
 refine Qb rfl (fun h3=>?_) fun h3=>?_
 ·try simp only [Bool.not_true] at h3
  exfalso;simp at h3
 try simp only [Bool.not_true] at h3
 refine aS5 ?_
 refine o_q (Qa rfl Qi1 rfl (fun w1 h1=>c19 w1 co mo rm a cap L (hs.later h1.nil))) rfl ?_
 refine aS2 ?_
 refine Xt 4 22 26 _ _ rfl
  (by
   intro hg4
   have hs5:=hg4;try simp only [Bool.not_eq_false',Bool.and_eq_true,decide_eq_true_eq] at hs5
   refine oOn 22 hg4 ?_
   refine aS ?_
   refine oOn 22 hg4 ?_
   refine o_p (Qn rfl rfl Tryz.underlying9) rfl ?_
   refine oOn 22 hg4 ?_
   refine aS ?_
   refine o_p (Qf rfl rfl hg4 rfl) rfl ?_
   refine aS ?_
   exact oJn 4 26)
  (by
   intro hg6
   have hs7:=hg6;try simp only [Bool.not_eq_true',Bool.and_eq_false_iff,decide_eq_false_iff_not] at hs7
   refine oOf 22 hg6 ?_
   refine oOf 22 hg6 ?_
   refine oOf 22 hg6 ?_
   refine o_p (Qg rfl rfl hg6 rfl) rfl ?_
   refine aS ?_
   exact oJn 4 26) ?_
 refine aS ?_
 refine Qb rfl (fun h8=>?_) fun h8=>?_
 ·try simp only [Bool.or_eq_true,Bool.not_eq_true',Bool.and_eq_false_iff,decide_eq_false_iff_not,decide_eq_true_eq] at h8
  exfalso;have hq:=h8;simp [hfw] at hq;omega
 try simp only [Bool.or_eq_false_iff,Bool.not_eq_false',Bool.and_eq_true,decide_eq_true_eq,decide_eq_false_iff_not] at h8
 refine aS2 ?_
 refine QG [] QU ?_
 refine dLn 0 [] ?_
 refine dFa 2 ?_
 refine dLd 3 [] ?_
 refine dFa 4 ?_
 refine dLd 5 [] ?_
 refine dFa 6 ?_
 refine dLd 7 [] ?_
 refine dH 1 rfl (Ye rfl QlY rfl (fun w1 h1=>c21 w1 co mo rm a cap L (hs.later h1.nil) hle hsm)) (fun ⟨⟨ga,gc⟩,LC⟩ hLC=>?_)
 refine dBa ?_
 refine dQ 8 [] rfl (Qa rfl Ql8 rfl (fun w1 h1=>c37 w1 co mo rm ga gc LC num lsn usn (HS.nt h1 aPk) (by rw [hLC];exact hB) (Qae (by rw [hLC];exact hfw)))) ?_
 rw [show (nth LC num.toNat).pl = nth (pln LC) num.toNat from (XJ LC num.toNat).symm,hLC]
 rw [if_neg hN0,hN]
 refine dP 9 ?_
 refine dP 10 ?_
 refine dP 11 ?_
 refine dP 12 ?_
 refine dP 13 ?_
 refine dNi ?_
 refine aS5 ?_
 refine o_h (Ye rfl QjM rfl (fun w1 h1=>c38 w1 s num (by omega))) rfl (fun n1 hn1=>?_)
 refine aS5 ?_
 refine oAl (fun b9 _=>?_) XF
 refine oSt ?_
 refine aS5 ?_
 refine Qm (L':=[(2,_),(3,_),(4,_),(6,_),(7,_),(8,_),(9,_),(10,_),(11,_),(12,_)]) aSx (fun _ h=>h) ?_
 refine aS4 ?_
 refine o_h (Ye rfl QlR rfl (fun w1 h1=>c39 w1 s num (by omega))) rfl (fun n2 hn2=>?_)
 refine aS5 ?_
 refine oAl (fun b10 _=>?_) XF
 refine oSt ?_
 refine QeX ?_
 refine Xt 5 60 65 _ _ rfl
  (by
   intro hg11
   have hs12:=hg11;try simp only [Bool.not_eq_false',decide_eq_true_eq] at hs12
   refine oOn 60 hg11 ?_
   refine aS ?_
   refine oOn 60 hg11 ?_
   refine aS ?_
   refine oOn 60 hg11 ?_
   refine o_q (Qa rfl Qjb rfl (fun w1 h1=>c33 w1 n1 n2 (h1.rw_own ev2 aPk rfl) (h1.rw_own iv1 aPk rfl) (h1.rw_own ev2 aPk rfl) (h1.rw_own iv1 aPk rfl) (QdY hn1) (QdY hn2))) rfl ?_
   refine oOn 60 hg11 ?_
   refine aS ?_
   refine o_p (Qf rfl rfl hg11 rfl) rfl ?_
   refine aS ?_
   exact oJn 5 65)
  (by
   intro hg13
   have hs14:=hg13;try simp only [Bool.not_eq_true',decide_eq_false_iff_not] at hs14
   refine oOf 60 hg13 ?_
   refine oOf 60 hg13 ?_
   refine oOf 60 hg13 ?_
   refine oOf 60 hg13 ?_
   refine o_p (Qg rfl rfl hg13 rfl) rfl ?_
   refine aS ?_
   exact oJn 5 65) ?_
 refine aS ?_
 refine Xt 4 66 70 _ _ rfl
  (by
   intro hg15
   have hs16:=hg15;try simp only [Bool.or_eq_false_iff,Bool.not_eq_false',decide_eq_true_eq] at hs16
   refine oOn 66 hg15 ?_
   refine aS ?_
   refine oOn 66 hg15 ?_
   refine aS ?_
   refine oOn 66 hg15 ?_
   refine aS ?_
   refine o_p (Qf rfl rfl hg15 rfl) rfl ?_
   refine aS ?_
   exact oJn 4 70)
  (by
   intro hg17
   have hs18:=hg17;try simp only [Bool.or_eq_true,Bool.not_eq_true',decide_eq_false_iff_not] at hs18
   refine oOf 66 hg17 ?_
   refine oOf 66 hg17 ?_
   refine oOf 66 hg17 ?_
   refine o_p (Qg rfl rfl hg17 rfl) rfl ?_
   refine aS ?_
   exact oJn 4 70) ?_
 refine aS ?_
 refine Xt 4 71 75 _ _ rfl
  (by
   intro hg19
   have hs20:=hg19;try simp only [Bool.or_eq_false_iff,Bool.not_eq_false',decide_eq_true_eq] at hs20
   refine oOn 71 hg19 ?_
   refine aS ?_
   refine oOn 71 hg19 ?_
   refine aS ?_
   refine oOn 71 hg19 ?_
   refine aS ?_
   refine o_p (Qf rfl rfl hg19 rfl) rfl ?_
   refine aS ?_
   exact oJn 4 75)
  (by
   intro hg21
   have hs22:=hg21;try simp only [Bool.or_eq_true,Bool.not_eq_true',decide_eq_false_iff_not] at hs22
   refine oOf 71 hg21 ?_
   refine oOf 71 hg21 ?_
   refine oOf 71 hg21 ?_
   refine o_p (Qg rfl rfl hg21 rfl) rfl ?_
   refine aS ?_
   exact oJn 4 75) ?_
 refine aS ?_
 refine Qb rfl (fun h23=>?_) fun h23=>?_
 ·try simp only [Bool.or_eq_true,Bool.not_eq_true',decide_eq_false_iff_not] at h23
  exfalso;have hq:=h23;simp [hn1,hn2] at hq
 try simp only [Bool.or_eq_false_iff,Bool.not_eq_false',decide_eq_true_eq] at h23
 refine aS2 ?_
 refine Qm (L':=[(3,_),(4,_),(6,_),(7,_),(8,_),(9,_),(10,_),(11,_),(12,_),(16,_)]) aSx (fun _ h=>h) ?_
 refine aS2 ?_
 refine o_q (Qa rfl QlA rfl (fun w1 h1=>c24 w1 co mo rm a cap L (hs.later h1.nil) hB hkv)) rfl ?_
 refine aS8 ?_
 refine Xn 19 80 99 _ _ rfl
  (by
   intro hg24
   have hs25:=hg24;try simp only [dT] at hs25
   refine oOn 80 hg24 ?_
   refine aS ?_
   refine oOn 80 hg24 ?_
   refine aS ?_
   refine oOn 80 hg24 ?_
   refine aS ?_
   refine oOn 80 hg24 ?_
   refine aS ?_
   refine oOn 80 hg24 ?_
   refine aS ?_
   refine oOn 80 hg24 ?_
   refine aS ?_
   try refine oWr ?_
   refine oOn 80 hg24 ?_
   refine o_q (Qa rfl YM rfl (fun w1 h1=>c40 w1 _ _ _)) rfl ?_
   refine oOn 80 hg24 ?_
   refine aS ?_
   refine oOn 80 hg24 ?_
   refine aS ?_
   refine Xt 9 89 98 _ _ rfl
    (by
     intro hg26
     have hs27:=hg26;try simp only [Bool.not_eq_false',Bool.and_eq_true,decide_eq_true_eq] at hs27
     refine oOn 89 hg26 ?_
     refine aS ?_
     refine oOn 89 hg26 ?_
     refine aS ?_
     refine oOn 89 hg26 ?_
     refine aS ?_
     refine oOn 89 hg26 ?_
     refine aS ?_
     refine oOn 89 hg26 ?_
     refine o_p (Qc rfl rfl rfl XB num.toNat (by omega) (by omega) (Rw.some hs.1 (by omega))) rfl ?_
     refine oOn 89 hg26 ?_
     refine aS ?_
     refine oOn 89 hg26 ?_
     refine o_q (Qd rfl rfl Qdl ((hs.1.rdj (i:=num.toNat) 0 (by omega) rfl))) rfl ?_
     refine oOn 89 hg26 ?_
     refine aS ?_
     refine oOn 80 hg24 ?_
     refine o_p (Qf rfl rfl hg26 rfl) rfl ?_
     refine aS ?_
     exact oJn 9 98)
    (by
     intro hg28
     have hs29:=hg28;try simp only [Bool.not_eq_true',Bool.and_eq_false_iff,decide_eq_false_iff_not] at hs29
     refine oOf 89 hg28 ?_
     refine oOf 89 hg28 ?_
     refine oOf 89 hg28 ?_
     refine oOf 89 hg28 ?_
     refine oOf 89 hg28 ?_
     refine oOf 89 hg28 ?_
     refine oOf 89 hg28 ?_
     refine oOf 89 hg28 ?_
     refine oOn 80 hg24 ?_
     refine o_p (Qg rfl rfl hg28 rfl) rfl ?_
     refine aS ?_
     exact oJn 9 98) ?_
   refine o_p (Qg rfl rfl hg24 rfl) rfl ?_
   refine aS ?_
   exact oJn 11 99)
  (by
   intro hg30
   have hs31:=hg30;try simp only [dN] at hs31
   refine oOf 80 hg30 ?_
   refine oOf 80 hg30 ?_
   refine oOf 80 hg30 ?_
   refine oOf 80 hg30 ?_
   refine oOf 80 hg30 ?_
   refine oOf 80 hg30 ?_
   refine oOf 80 hg30 ?_
   refine oOf 80 hg30 ?_
   refine oOf 80 hg30 ?_
   refine QE 89 rfl rfl rfl ?_
   refine QE 89 rfl rfl rfl ?_
   refine QE 89 rfl rfl rfl ?_
   refine QE 89 rfl rfl rfl ?_
   refine QE 89 rfl rfl rfl ?_
   refine QE 89 rfl rfl rfl ?_
   refine QE 89 rfl rfl rfl ?_
   refine QE 89 rfl rfl rfl ?_
   refine oOf 80 hg30 ?_
   refine o_p (Qf rfl rfl hg30 rfl) rfl ?_
   refine aS ?_
   exact oJn 19 99) ?_
 refine aS ?_
 refine Qb rfl (fun h32=>?_) fun h32=>?_
 ·try simp only [Bool.and_eq_true,decide_eq_true_eq,Bool.or_eq_true,Bool.not_eq_true',Bool.and_eq_false_iff,decide_eq_false_iff_not] at h32
  exfalso;have hq:=h32;simp [hE] at hq
 try simp only [Bool.and_eq_false_iff,decide_eq_false_iff_not,Bool.or_eq_false_iff,Bool.not_eq_false',Bool.and_eq_true,decide_eq_true_eq] at h32
 refine aS7 ?_
 refine Xn 11 102 113 _ _ rfl
  (by
   intro hg33
   have hs34:=hg33;try simp only [dT] at hs34
   refine oOn 102 hg33 ?_
   refine aS ?_
   refine oOn 102 hg33 ?_
   refine aS ?_
   refine oOn 102 hg33 ?_
   refine o_q (Qa rfl QeI rfl (fun w1 h1=>c35 w1 _)) rfl ?_
   refine oOn 102 hg33 ?_
   refine aS ?_
   refine oOn 102 hg33 ?_
   refine aS ?_
   refine Xt 5 107 112 _ _ rfl
    (by
     intro hg35
     have hs36:=hg35;try simp only [Bool.not_eq_false',Bool.and_eq_true,decide_eq_true_eq] at hs36
     refine oOn 107 hg35 ?_
     refine aS ?_
     refine oOn 107 hg35 ?_
     refine aS ?_
     refine oOn 107 hg35 ?_
     refine o_q (Qa rfl YM rfl (fun w1 h1=>c40 w1 _ _ _)) rfl ?_
     refine oOn 107 hg35 ?_
     refine aS ?_
     refine oOn 102 hg33 ?_
     refine o_p (Qf rfl rfl hg35 rfl) rfl ?_
     refine aS ?_
     exact oJn 5 112)
    (by
     intro hg37
     have hs38:=hg37;try simp only [Bool.not_eq_true',Bool.and_eq_false_iff,decide_eq_false_iff_not] at hs38
     refine oOf 107 hg37 ?_
     refine oOf 107 hg37 ?_
     refine oOf 107 hg37 ?_
     refine oOf 107 hg37 ?_
     refine oOn 102 hg33 ?_
     refine o_p (Qg rfl rfl hg37 rfl) rfl ?_
     refine aS ?_
     exact oJn 5 112) ?_
   refine o_p (Qg rfl rfl hg33 rfl) rfl ?_
   refine aS ?_
   exact oJn 7 113)
  (by
   intro hg39
   have hs40:=hg39;try simp only [dN] at hs40
   refine oOf 102 hg39 ?_
   refine oOf 102 hg39 ?_
   refine oOf 102 hg39 ?_
   refine oOf 102 hg39 ?_
   refine oOf 102 hg39 ?_
   refine QE 107 rfl rfl rfl ?_
   refine QE 107 rfl rfl rfl ?_
   refine QE 107 rfl rfl rfl ?_
   refine QE 107 rfl rfl rfl ?_
   refine oOf 102 hg39 ?_
   refine o_p (Qf rfl rfl hg39 rfl) rfl ?_
   refine aS ?_
   exact oJn 11 113) ?_
 refine aS ?_
 refine Qb rfl (fun h41=>?_) fun h41=>?_
 ·try simp only [Bool.and_eq_true,decide_eq_true_eq,Bool.or_eq_true,Bool.not_eq_true',Bool.and_eq_false_iff,decide_eq_false_iff_not] at h41
  exfalso;have hq:=h41;simp [hE] at hq
 try simp only [Bool.and_eq_false_iff,decide_eq_false_iff_not,Bool.or_eq_false_iff,Bool.not_eq_false',Bool.and_eq_true,decide_eq_true_eq] at h41
 refine aS7 ?_
 refine Qb rfl (fun h42=>?_) fun h42=>?_
 ·try simp only [Bool.not_eq_true',decide_eq_false_iff_not] at h42
  refine aS6 ?_
  refine Xn 3 119 122 _ _ rfl
   (by
    intro hg43
    have hs44:=hg43;try simp only [dT] at hs44
    refine oOn 119 hg43 ?_
    refine aS ?_
    refine oOn 119 hg43 ?_
    refine aS ?_
    refine o_p (Qg rfl rfl hg43 rfl) rfl ?_
    refine aS ?_
    exact oJn 3 122)
   (by
    intro hg45
    have hs46:=hg45;try simp only [dN] at hs46
    refine oOf 119 hg45 ?_
    refine oOf 119 hg45 ?_
    refine o_p (Qf rfl rfl hg45 rfl) rfl ?_
    refine aS ?_
    exact oJn 3 122) ?_
  refine aS2 ?_
  exact rT rfl rfl (fun w' h'=>⟨by first | rfl | (simp [QT];done),h'.below⟩)
 try simp only [Bool.not_eq_false',decide_eq_true_eq] at h42
 exfalso;have hq:=h42;exact hE hq
set_option maxHeartbeats 1000000 in
theorem c7c (w : World) (co mo rm : Int) (a : Option Addr) (cap : Nat) (L : List LNd) (num lsn usn : Int) (s : List UInt8) (hs : Nt w [] a L) (hfw : Yx (pln L) = true) (hl20 : L.length ≤ 20) (h513 : s.length ≤ 513) (hE : YC (⟨co,mo,rm,pln L⟩ : Tre) = 0) (hU : ¬ ((1 ≤ num ∧ num ≤ (((⟨co,mo,rm,pln L⟩ : Tre)).ns.length : Int) - 1) ∧ (nth ((⟨co,mo,rm,pln L⟩ : Tre)).ns num.toNat).us = true)) : Calls Tryz.prog 7 #[.agg #[.int .i64 co,.int .i64 mo,.int .i64 rm,.slice a L.length cap],.agg #[.int .i64 num,.int .i64 lsn,.int .i64 usn],.string (bs s)] w fun en w'=>en = .returned (.bool true) ∧ Below w.heap.size w w':=by
 have hB:=Qfm hfw
 have hkl:=Qcl hfw
 have hsm:=Qe1 hfw
 have hle:=hB.len
 rw [Qi] at hle
 have hkv:=Qae hfw
 have hpl9 : (nth (pln L) num.toNat) = (nth L num.toNat).pl:=XJ L num.toNat
 have hN:=Qiv (lsn:=lsn) (usn:=usn) hE hU
 have hN0 : ¬ (nbE (⟨co,mo,rm,pln L⟩ : Tre) num lsn usn) = 0:=by rw [hN];decide
 have hU8 : ¬ ((1 ≤ num ∧ num ≤ ((pln L).length : Int) - 1) ∧ (nth (pln L) num.toNat).us = true):=hU
 rw [Qi,hpl9] at hU8
 refine enter (args:=[_,_,_]) Tryz.func7 Tryz.ntmps7 rfl rfl (HS.refl w []) ?_
 refine aS2 ?_
 refine oBx fun b1 _=>?_
 refine oBx fun b2 _=>?_
 refine aS5 ?_
 refine o_q (Qa rfl QjS rfl (fun w1 h1=>c11 w1)) rfl ?_
 refine aS2 ?_
 refine Qb rfl (fun h3=>?_) fun h3=>?_
 ·try simp only [Bool.not_true] at h3
  exfalso;simp at h3
 try simp only [Bool.not_true] at h3
 refine aS5 ?_
 refine o_q (Qa rfl Qi1 rfl (fun w1 h1=>c19 w1 co mo rm a cap L (hs.later h1.nil))) rfl ?_
 refine aS2 ?_
 refine Xt 4 22 26 _ _ rfl
  (by
   intro hg4
   have hs5:=hg4;try simp only [Bool.not_eq_false',Bool.and_eq_true,decide_eq_true_eq] at hs5
   refine oOn 22 hg4 ?_
   refine aS ?_
   refine oOn 22 hg4 ?_
   refine o_p (Qn rfl rfl Tryz.underlying9) rfl ?_
   refine oOn 22 hg4 ?_
   refine aS ?_
   refine o_p (Qf rfl rfl hg4 rfl) rfl ?_
   refine aS ?_
   exact oJn 4 26)
  (by
   intro hg6
   have hs7:=hg6;try simp only [Bool.not_eq_true',Bool.and_eq_false_iff,decide_eq_false_iff_not] at hs7
   refine oOf 22 hg6 ?_
   refine oOf 22 hg6 ?_
   refine oOf 22 hg6 ?_
   refine o_p (Qg rfl rfl hg6 rfl) rfl ?_
   refine aS ?_
   exact oJn 4 26) ?_
 refine aS ?_
 refine Qb rfl (fun h8=>?_) fun h8=>?_
 ·try simp only [Bool.or_eq_true,Bool.not_eq_true',Bool.and_eq_false_iff,decide_eq_false_iff_not,decide_eq_true_eq] at h8
  exfalso;have hq:=h8;simp [hfw] at hq;omega
 try simp only [Bool.or_eq_false_iff,Bool.not_eq_false',Bool.and_eq_true,decide_eq_true_eq,decide_eq_false_iff_not] at h8
 refine aS2 ?_
 refine QG [] QU ?_
 refine dLn 0 [] ?_
 refine dFa 2 ?_
 refine dLd 3 [] ?_
 refine dFa 4 ?_
 refine dLd 5 [] ?_
 refine dFa 6 ?_
 refine dLd 7 [] ?_
 refine dH 1 rfl (Ye rfl QlY rfl (fun w1 h1=>c21 w1 co mo rm a cap L (hs.later h1.nil) hle hsm)) (fun ⟨⟨ga,gc⟩,LC⟩ hLC=>?_)
 refine dBa ?_
 refine dQ 8 [] rfl (Qa rfl Ql8 rfl (fun w1 h1=>c37 w1 co mo rm ga gc LC num lsn usn (HS.nt h1 aPk) (by rw [hLC];exact hB) (Qae (by rw [hLC];exact hfw)))) ?_
 rw [show (nth LC num.toNat).pl = nth (pln LC) num.toNat from (XJ LC num.toNat).symm,hLC]
 rw [if_neg hN0,hN]
 refine dP 9 ?_
 refine dP 10 ?_
 refine dP 11 ?_
 refine dP 12 ?_
 refine dP 13 ?_
 refine dNi ?_
 refine aS5 ?_
 refine o_h (Ye rfl QjM rfl (fun w1 h1=>c38 w1 s num (by omega))) rfl (fun n1 hn1=>?_)
 refine aS5 ?_
 refine oAl (fun b9 _=>?_) XF
 refine oSt ?_
 refine aS5 ?_
 refine Qm (L':=[(2,_),(3,_),(4,_),(6,_),(7,_),(8,_),(9,_),(10,_),(11,_),(12,_)]) aSx (fun _ h=>h) ?_
 refine aS4 ?_
 refine o_h (Ye rfl QlR rfl (fun w1 h1=>c39 w1 s num (by omega))) rfl (fun n2 hn2=>?_)
 refine aS5 ?_
 refine oAl (fun b10 _=>?_) XF
 refine oSt ?_
 refine QeX ?_
 refine Xt 5 60 65 _ _ rfl
  (by
   intro hg11
   have hs12:=hg11;try simp only [Bool.not_eq_false',decide_eq_true_eq] at hs12
   refine oOn 60 hg11 ?_
   refine aS ?_
   refine oOn 60 hg11 ?_
   refine aS ?_
   refine oOn 60 hg11 ?_
   refine o_q (Qa rfl Qjb rfl (fun w1 h1=>c33 w1 n1 n2 (h1.rw_own ev2 aPk rfl) (h1.rw_own iv1 aPk rfl) (h1.rw_own ev2 aPk rfl) (h1.rw_own iv1 aPk rfl) (QdY hn1) (QdY hn2))) rfl ?_
   refine oOn 60 hg11 ?_
   refine aS ?_
   refine o_p (Qf rfl rfl hg11 rfl) rfl ?_
   refine aS ?_
   exact oJn 5 65)
  (by
   intro hg13
   have hs14:=hg13;try simp only [Bool.not_eq_true',decide_eq_false_iff_not] at hs14
   refine oOf 60 hg13 ?_
   refine oOf 60 hg13 ?_
   refine oOf 60 hg13 ?_
   refine oOf 60 hg13 ?_
   refine o_p (Qg rfl rfl hg13 rfl) rfl ?_
   refine aS ?_
   exact oJn 5 65) ?_
 refine aS ?_
 refine Xt 4 66 70 _ _ rfl
  (by
   intro hg15
   have hs16:=hg15;try simp only [Bool.or_eq_false_iff,Bool.not_eq_false',decide_eq_true_eq] at hs16
   refine oOn 66 hg15 ?_
   refine aS ?_
   refine oOn 66 hg15 ?_
   refine aS ?_
   refine oOn 66 hg15 ?_
   refine aS ?_
   refine o_p (Qf rfl rfl hg15 rfl) rfl ?_
   refine aS ?_
   exact oJn 4 70)
  (by
   intro hg17
   have hs18:=hg17;try simp only [Bool.or_eq_true,Bool.not_eq_true',decide_eq_false_iff_not] at hs18
   refine oOf 66 hg17 ?_
   refine oOf 66 hg17 ?_
   refine oOf 66 hg17 ?_
   refine o_p (Qg rfl rfl hg17 rfl) rfl ?_
   refine aS ?_
   exact oJn 4 70) ?_
 refine aS ?_
 refine Xt 4 71 75 _ _ rfl
  (by
   intro hg19
   have hs20:=hg19;try simp only [Bool.or_eq_false_iff,Bool.not_eq_false',decide_eq_true_eq] at hs20
   refine oOn 71 hg19 ?_
   refine aS ?_
   refine oOn 71 hg19 ?_
   refine aS ?_
   refine oOn 71 hg19 ?_
   refine aS ?_
   refine o_p (Qf rfl rfl hg19 rfl) rfl ?_
   refine aS ?_
   exact oJn 4 75)
  (by
   intro hg21
   have hs22:=hg21;try simp only [Bool.or_eq_true,Bool.not_eq_true',decide_eq_false_iff_not] at hs22
   refine oOf 71 hg21 ?_
   refine oOf 71 hg21 ?_
   refine oOf 71 hg21 ?_
   refine o_p (Qg rfl rfl hg21 rfl) rfl ?_
   refine aS ?_
   exact oJn 4 75) ?_
 refine aS ?_
 refine Qb rfl (fun h23=>?_) fun h23=>?_
 ·try simp only [Bool.or_eq_true,Bool.not_eq_true',decide_eq_false_iff_not] at h23
  exfalso;have hq:=h23;simp [hn1,hn2] at hq
 try simp only [Bool.or_eq_false_iff,Bool.not_eq_false',decide_eq_true_eq] at h23
 refine aS2 ?_
 refine Qm (L':=[(3,_),(4,_),(6,_),(7,_),(8,_),(9,_),(10,_),(11,_),(12,_),(16,_)]) aSx (fun _ h=>h) ?_
 refine aS2 ?_
 refine o_q (Qa rfl QlA rfl (fun w1 h1=>c24 w1 co mo rm a cap L (hs.later h1.nil) hB hkv)) rfl ?_
 rw [hE]
 refine aS8 ?_
 refine Xn 19 80 99 _ _ rfl
  (by
   intro hg24
   have hs25:=hg24;try simp only [dT] at hs25
   refine oOn 80 hg24 ?_
   refine aS ?_
   refine oOn 80 hg24 ?_
   refine aS ?_
   refine oOn 80 hg24 ?_
   refine aS ?_
   refine oOn 80 hg24 ?_
   refine aS ?_
   refine oOn 80 hg24 ?_
   refine aS ?_
   refine oOn 80 hg24 ?_
   refine aS ?_
   try refine oWr ?_
   refine oOn 80 hg24 ?_
   refine o_q (Qa rfl YM rfl (fun w1 h1=>c40 w1 _ _ _)) rfl ?_
   refine oOn 80 hg24 ?_
   refine aS ?_
   refine oOn 80 hg24 ?_
   refine aS ?_
   refine Xt 9 89 98 _ _ rfl
    (by
     intro hg26
     have hs27:=hg26;try simp only [Bool.not_eq_false',Bool.and_eq_true,decide_eq_true_eq] at hs27
     refine oOn 89 hg26 ?_
     refine aS ?_
     refine oOn 89 hg26 ?_
     refine aS ?_
     refine oOn 89 hg26 ?_
     refine aS ?_
     refine oOn 89 hg26 ?_
     refine aS ?_
     refine oOn 89 hg26 ?_
     refine o_p (Qc rfl rfl rfl XB num.toNat (by omega) (by omega) (Rw.some hs.1 (by omega))) rfl ?_
     refine oOn 89 hg26 ?_
     refine aS ?_
     refine oOn 89 hg26 ?_
     refine o_q (Qd rfl rfl Qdl ((hs.1.rdj (i:=num.toNat) 0 (by omega) rfl))) rfl ?_
     refine oOn 89 hg26 ?_
     refine aS ?_
     refine oOn 80 hg24 ?_
     refine o_p (Qf rfl rfl hg26 rfl) rfl ?_
     refine aS ?_
     exact oJn 9 98)
    (by
     intro hg28
     have hs29:=hg28;try simp only [Bool.not_eq_true',Bool.and_eq_false_iff,decide_eq_false_iff_not] at hs29
     refine oOf 89 hg28 ?_
     refine oOf 89 hg28 ?_
     refine oOf 89 hg28 ?_
     refine oOf 89 hg28 ?_
     refine oOf 89 hg28 ?_
     refine oOf 89 hg28 ?_
     refine oOf 89 hg28 ?_
     refine oOf 89 hg28 ?_
     refine oOn 80 hg24 ?_
     refine o_p (Qg rfl rfl hg28 rfl) rfl ?_
     refine aS ?_
     exact oJn 9 98) ?_
   refine o_p (Qg rfl rfl hg24 rfl) rfl ?_
   refine aS ?_
   exact oJn 11 99)
  (by
   intro hg30
   have hs31:=hg30;try simp only [dN] at hs31
   refine oOf 80 hg30 ?_
   refine oOf 80 hg30 ?_
   refine oOf 80 hg30 ?_
   refine oOf 80 hg30 ?_
   refine oOf 80 hg30 ?_
   refine oOf 80 hg30 ?_
   refine oOf 80 hg30 ?_
   refine oOf 80 hg30 ?_
   refine oOf 80 hg30 ?_
   refine QE 89 rfl rfl rfl ?_
   refine QE 89 rfl rfl rfl ?_
   refine QE 89 rfl rfl rfl ?_
   refine QE 89 rfl rfl rfl ?_
   refine QE 89 rfl rfl rfl ?_
   refine QE 89 rfl rfl rfl ?_
   refine QE 89 rfl rfl rfl ?_
   refine QE 89 rfl rfl rfl ?_
   refine oOf 80 hg30 ?_
   refine o_p (Qf rfl rfl hg30 rfl) rfl ?_
   refine aS ?_
   exact oJn 19 99) ?_
 refine aS ?_
 refine Qb rfl (fun h32=>?_) fun h32=>?_
 ·try simp only [Bool.and_eq_true,decide_eq_true_eq,Bool.or_eq_true,Bool.not_eq_true',Bool.and_eq_false_iff,decide_eq_false_iff_not] at h32
  refine aS9 ?_
  refine Xn 11 102 113 _ _ rfl
   (by
    intro hg33
    have hs34:=hg33;try simp only [dT] at hs34
    refine oOn 102 hg33 ?_
    refine aS ?_
    refine oOn 102 hg33 ?_
    refine aS ?_
    refine oOn 102 hg33 ?_
    refine o_q (Qa rfl QeI rfl (fun w1 h1=>c35 w1 _)) rfl ?_
    refine oOn 102 hg33 ?_
    refine aS ?_
    refine oOn 102 hg33 ?_
    refine aS ?_
    refine Xt 5 107 112 _ _ rfl
     (by
      intro hg35
      have hs36:=hg35;try simp only [Bool.not_eq_false',Bool.and_eq_true,decide_eq_true_eq] at hs36
      refine oOn 107 hg35 ?_
      refine aS ?_
      refine oOn 107 hg35 ?_
      refine aS ?_
      refine oOn 107 hg35 ?_
      refine o_q (Qa rfl YM rfl (fun w1 h1=>c40 w1 _ _ _)) rfl ?_
      refine oOn 107 hg35 ?_
      refine aS ?_
      refine oOn 102 hg33 ?_
      refine o_p (Qf rfl rfl hg35 rfl) rfl ?_
      refine aS ?_
      exact oJn 5 112)
     (by
      intro hg37
      have hs38:=hg37;try simp only [Bool.not_eq_true',Bool.and_eq_false_iff,decide_eq_false_iff_not] at hs38
      refine oOf 107 hg37 ?_
      refine oOf 107 hg37 ?_
      refine oOf 107 hg37 ?_
      refine oOf 107 hg37 ?_
      refine oOn 102 hg33 ?_
      refine o_p (Qg rfl rfl hg37 rfl) rfl ?_
      refine aS ?_
      exact oJn 5 112) ?_
    refine o_p (Qg rfl rfl hg33 rfl) rfl ?_
    refine aS ?_
    exact oJn 7 113)
   (by
    intro hg39
    have hs40:=hg39;try simp only [dN] at hs40
    refine oOf 102 hg39 ?_
    refine oOf 102 hg39 ?_
    refine oOf 102 hg39 ?_
    refine oOf 102 hg39 ?_
    refine oOf 102 hg39 ?_
    refine QE 107 rfl rfl rfl ?_
    refine QE 107 rfl rfl rfl ?_
    refine QE 107 rfl rfl rfl ?_
    refine QE 107 rfl rfl rfl ?_
    refine oOf 102 hg39 ?_
    refine o_p (Qf rfl rfl hg39 rfl) rfl ?_
    refine aS ?_
    exact oJn 11 113) ?_
  refine aS ?_
  refine Qb rfl (fun h41=>?_) fun h41=>?_
  ·try simp only [Bool.and_eq_true,decide_eq_true_eq,Bool.or_eq_true,Bool.not_eq_true',Bool.and_eq_false_iff,decide_eq_false_iff_not] at h41
   exfalso;have hq:=h41;simp at hq
  try simp only [Bool.and_eq_false_iff,decide_eq_false_iff_not,Bool.or_eq_false_iff,Bool.not_eq_false',Bool.and_eq_true,decide_eq_true_eq] at h41
  refine aS7 ?_
  refine Qb rfl (fun h42=>?_) fun h42=>?_
  ·try simp only [Bool.not_eq_true',decide_eq_false_iff_not] at h42
   refine aS6 ?_
   refine Xn 3 119 122 _ _ rfl
    (by
     intro hg43
     have hs44:=hg43;try simp only [dT] at hs44
     refine oOn 119 hg43 ?_
     refine aS ?_
     refine oOn 119 hg43 ?_
     refine aS ?_
     refine o_p (Qg rfl rfl hg43 rfl) rfl ?_
     refine aS ?_
     exact oJn 3 122)
    (by
     intro hg45
     have hs46:=hg45;try simp only [dN] at hs46
     refine oOf 119 hg45 ?_
     refine oOf 119 hg45 ?_
     refine o_p (Qf rfl rfl hg45 rfl) rfl ?_
     refine aS ?_
     exact oJn 3 122) ?_
   refine aS2 ?_
   exact rT rfl rfl (fun w' h'=>⟨by first | rfl | (simp [QT];done),h'.below⟩)
  try simp only [Bool.not_eq_false',decide_eq_true_eq] at h42
  exfalso;have hq:=h42;simp at hq
 try simp only [Bool.and_eq_false_iff,decide_eq_false_iff_not,Bool.or_eq_false_iff,Bool.not_eq_false',Bool.and_eq_true,decide_eq_true_eq] at h32
 exfalso;have hq:=h32;rcases hq with h9 | h9;exact h9 trivial;exact hU8 ⟨h9.1,h9.2⟩
set_option maxHeartbeats 1000000 in
theorem c7d (w : World) (co mo rm : Int) (a : Option Addr) (cap : Nat) (L : List LNd) (num lsn usn : Int) (s : List UInt8) (hs : Nt w [] a L) (hfw : Yx (pln L) = true) (hl20 : L.length ≤ 20) (h513 : s.length ≤ 513) (hE : YC (⟨co,mo,rm,pln L⟩ : Tre) = 0) (hU : ((1 ≤ num ∧ num ≤ (((⟨co,mo,rm,pln L⟩ : Tre)).ns.length : Int) - 1) ∧ (nth ((⟨co,mo,rm,pln L⟩ : Tre)).ns num.toNat).us = true)) (hG : ¬ ((0 ≤ lsn ∧ lsn ≤ 2147483647) ∧ 1 ≤ usn ∧ usn ≤ 65535)) : Calls Tryz.prog 7 #[.agg #[.int .i64 co,.int .i64 mo,.int .i64 rm,.slice a L.length cap],.agg #[.int .i64 num,.int .i64 lsn,.int .i64 usn],.string (bs s)] w fun en w'=>en = .returned (.bool true) ∧ Below w.heap.size w w':=by
 have hB:=Qfm hfw
 have hkl:=Qcl hfw
 have hsm:=Qe1 hfw
 have hle:=hB.len
 rw [Qi] at hle
 have hkv:=Qae hfw
 have hpl9 : (nth (pln L) num.toNat) = (nth L num.toNat).pl:=XJ L num.toNat
 have hN:=QdX hE hU hG
 have hN0 : ¬ (nbE (⟨co,mo,rm,pln L⟩ : Tre) num lsn usn) = 0:=by rw [hN];decide
 have hU8 : (1 ≤ num ∧ num ≤ ((pln L).length : Int) - 1) ∧ (nth (pln L) num.toNat).us = true:=hU
 rw [Qi,hpl9] at hU8
 refine enter (args:=[_,_,_]) Tryz.func7 Tryz.ntmps7 rfl rfl (HS.refl w []) ?_
 refine aS2 ?_
 refine oBx fun b1 _=>?_
 refine oBx fun b2 _=>?_
 refine aS5 ?_
 refine o_q (Qa rfl QjS rfl (fun w1 h1=>c11 w1)) rfl ?_
 refine aS2 ?_
 refine Qb rfl (fun h3=>?_) fun h3=>?_
 ·try simp only [Bool.not_true] at h3
  exfalso;simp at h3
 try simp only [Bool.not_true] at h3
 refine aS5 ?_
 refine o_q (Qa rfl Qi1 rfl (fun w1 h1=>c19 w1 co mo rm a cap L (hs.later h1.nil))) rfl ?_
 refine aS2 ?_
 refine Xt 4 22 26 _ _ rfl
  (by
   intro hg4
   have hs5:=hg4;try simp only [Bool.not_eq_false',Bool.and_eq_true,decide_eq_true_eq] at hs5
   refine oOn 22 hg4 ?_
   refine aS ?_
   refine oOn 22 hg4 ?_
   refine o_p (Qn rfl rfl Tryz.underlying9) rfl ?_
   refine oOn 22 hg4 ?_
   refine aS ?_
   refine o_p (Qf rfl rfl hg4 rfl) rfl ?_
   refine aS ?_
   exact oJn 4 26)
  (by
   intro hg6
   have hs7:=hg6;try simp only [Bool.not_eq_true',Bool.and_eq_false_iff,decide_eq_false_iff_not] at hs7
   refine oOf 22 hg6 ?_
   refine oOf 22 hg6 ?_
   refine oOf 22 hg6 ?_
   refine o_p (Qg rfl rfl hg6 rfl) rfl ?_
   refine aS ?_
   exact oJn 4 26) ?_
 refine aS ?_
 refine Qb rfl (fun h8=>?_) fun h8=>?_
 ·try simp only [Bool.or_eq_true,Bool.not_eq_true',Bool.and_eq_false_iff,decide_eq_false_iff_not,decide_eq_true_eq] at h8
  exfalso;have hq:=h8;simp [hfw] at hq;omega
 try simp only [Bool.or_eq_false_iff,Bool.not_eq_false',Bool.and_eq_true,decide_eq_true_eq,decide_eq_false_iff_not] at h8
 refine aS2 ?_
 refine QG [] QU ?_
 refine dLn 0 [] ?_
 refine dFa 2 ?_
 refine dLd 3 [] ?_
 refine dFa 4 ?_
 refine dLd 5 [] ?_
 refine dFa 6 ?_
 refine dLd 7 [] ?_
 refine dH 1 rfl (Ye rfl QlY rfl (fun w1 h1=>c21 w1 co mo rm a cap L (hs.later h1.nil) hle hsm)) (fun ⟨⟨ga,gc⟩,LC⟩ hLC=>?_)
 refine dBa ?_
 refine dQ 8 [] rfl (Qa rfl Ql8 rfl (fun w1 h1=>c37 w1 co mo rm ga gc LC num lsn usn (HS.nt h1 aPk) (by rw [hLC];exact hB) (Qae (by rw [hLC];exact hfw)))) ?_
 rw [show (nth LC num.toNat).pl = nth (pln LC) num.toNat from (XJ LC num.toNat).symm,hLC]
 rw [if_neg hN0,hN]
 refine dP 9 ?_
 refine dP 10 ?_
 refine dP 11 ?_
 refine dP 12 ?_
 refine dP 13 ?_
 refine dNi ?_
 refine aS5 ?_
 refine o_h (Ye rfl QjM rfl (fun w1 h1=>c38 w1 s num (by omega))) rfl (fun n1 hn1=>?_)
 refine aS5 ?_
 refine oAl (fun b9 _=>?_) XF
 refine oSt ?_
 refine aS5 ?_
 refine Qm (L':=[(2,_),(3,_),(4,_),(6,_),(7,_),(8,_),(9,_),(10,_),(11,_),(12,_)]) aSx (fun _ h=>h) ?_
 refine aS4 ?_
 refine o_h (Ye rfl QlR rfl (fun w1 h1=>c39 w1 s num (by omega))) rfl (fun n2 hn2=>?_)
 refine aS5 ?_
 refine oAl (fun b10 _=>?_) XF
 refine oSt ?_
 refine QeX ?_
 refine Xt 5 60 65 _ _ rfl
  (by
   intro hg11
   have hs12:=hg11;try simp only [Bool.not_eq_false',decide_eq_true_eq] at hs12
   refine oOn 60 hg11 ?_
   refine aS ?_
   refine oOn 60 hg11 ?_
   refine aS ?_
   refine oOn 60 hg11 ?_
   refine o_q (Qa rfl Qjb rfl (fun w1 h1=>c33 w1 n1 n2 (h1.rw_own ev2 aPk rfl) (h1.rw_own iv1 aPk rfl) (h1.rw_own ev2 aPk rfl) (h1.rw_own iv1 aPk rfl) (QdY hn1) (QdY hn2))) rfl ?_
   refine oOn 60 hg11 ?_
   refine aS ?_
   refine o_p (Qf rfl rfl hg11 rfl) rfl ?_
   refine aS ?_
   exact oJn 5 65)
  (by
   intro hg13
   have hs14:=hg13;try simp only [Bool.not_eq_true',decide_eq_false_iff_not] at hs14
   refine oOf 60 hg13 ?_
   refine oOf 60 hg13 ?_
   refine oOf 60 hg13 ?_
   refine oOf 60 hg13 ?_
   refine o_p (Qg rfl rfl hg13 rfl) rfl ?_
   refine aS ?_
   exact oJn 5 65) ?_
 refine aS ?_
 refine Xt 4 66 70 _ _ rfl
  (by
   intro hg15
   have hs16:=hg15;try simp only [Bool.or_eq_false_iff,Bool.not_eq_false',decide_eq_true_eq] at hs16
   refine oOn 66 hg15 ?_
   refine aS ?_
   refine oOn 66 hg15 ?_
   refine aS ?_
   refine oOn 66 hg15 ?_
   refine aS ?_
   refine o_p (Qf rfl rfl hg15 rfl) rfl ?_
   refine aS ?_
   exact oJn 4 70)
  (by
   intro hg17
   have hs18:=hg17;try simp only [Bool.or_eq_true,Bool.not_eq_true',decide_eq_false_iff_not] at hs18
   refine oOf 66 hg17 ?_
   refine oOf 66 hg17 ?_
   refine oOf 66 hg17 ?_
   refine o_p (Qg rfl rfl hg17 rfl) rfl ?_
   refine aS ?_
   exact oJn 4 70) ?_
 refine aS ?_
 refine Xt 4 71 75 _ _ rfl
  (by
   intro hg19
   have hs20:=hg19;try simp only [Bool.or_eq_false_iff,Bool.not_eq_false',decide_eq_true_eq] at hs20
   refine oOn 71 hg19 ?_
   refine aS ?_
   refine oOn 71 hg19 ?_
   refine aS ?_
   refine oOn 71 hg19 ?_
   refine aS ?_
   refine o_p (Qf rfl rfl hg19 rfl) rfl ?_
   refine aS ?_
   exact oJn 4 75)
  (by
   intro hg21
   have hs22:=hg21;try simp only [Bool.or_eq_true,Bool.not_eq_true',decide_eq_false_iff_not] at hs22
   refine oOf 71 hg21 ?_
   refine oOf 71 hg21 ?_
   refine oOf 71 hg21 ?_
   refine o_p (Qg rfl rfl hg21 rfl) rfl ?_
   refine aS ?_
   exact oJn 4 75) ?_
 refine aS ?_
 refine Qb rfl (fun h23=>?_) fun h23=>?_
 ·try simp only [Bool.or_eq_true,Bool.not_eq_true',decide_eq_false_iff_not] at h23
  exfalso;have hq:=h23;simp [hn1,hn2] at hq
 try simp only [Bool.or_eq_false_iff,Bool.not_eq_false',decide_eq_true_eq] at h23
 refine aS2 ?_
 refine Qm (L':=[(3,_),(4,_),(6,_),(7,_),(8,_),(9,_),(10,_),(11,_),(12,_),(16,_)]) aSx (fun _ h=>h) ?_
 refine aS2 ?_
 refine o_q (Qa rfl QlA rfl (fun w1 h1=>c24 w1 co mo rm a cap L (hs.later h1.nil) hB hkv)) rfl ?_
 rw [hE]
 refine aS8 ?_
 refine Xn 19 80 99 _ _ rfl
  (by
   intro hg24
   have hs25:=hg24;try simp only [dT] at hs25
   refine oOn 80 hg24 ?_
   refine aS ?_
   refine oOn 80 hg24 ?_
   refine aS ?_
   refine oOn 80 hg24 ?_
   refine aS ?_
   refine oOn 80 hg24 ?_
   refine aS ?_
   refine oOn 80 hg24 ?_
   refine aS ?_
   refine oOn 80 hg24 ?_
   refine aS ?_
   try refine oWr ?_
   refine oOn 80 hg24 ?_
   refine o_q (Qa rfl YM rfl (fun w1 h1=>c40 w1 _ _ _)) rfl ?_
   refine oOn 80 hg24 ?_
   refine aS ?_
   refine oOn 80 hg24 ?_
   refine aS ?_
   refine Xt 9 89 98 _ _ rfl
    (by
     intro hg26
     have hs27:=hg26;try simp only [Bool.not_eq_false',Bool.and_eq_true,decide_eq_true_eq] at hs27
     refine oOn 89 hg26 ?_
     refine aS ?_
     refine oOn 89 hg26 ?_
     refine aS ?_
     refine oOn 89 hg26 ?_
     refine aS ?_
     refine oOn 89 hg26 ?_
     refine aS ?_
     refine oOn 89 hg26 ?_
     refine o_p (Qc rfl rfl rfl XB num.toNat (by omega) (by omega) (Rw.some hs.1 (by omega))) rfl ?_
     refine oOn 89 hg26 ?_
     refine aS ?_
     refine oOn 89 hg26 ?_
     refine o_q (Qd rfl rfl Qdl ((hs.1.rdj (i:=num.toNat) 0 (by omega) rfl))) rfl ?_
     refine oOn 89 hg26 ?_
     refine aS ?_
     refine oOn 80 hg24 ?_
     refine o_p (Qf rfl rfl hg26 rfl) rfl ?_
     refine aS ?_
     exact oJn 9 98)
    (by
     intro hg28
     have hs29:=hg28;try simp only [Bool.not_eq_true',Bool.and_eq_false_iff,decide_eq_false_iff_not] at hs29
     refine oOf 89 hg28 ?_
     refine oOf 89 hg28 ?_
     refine oOf 89 hg28 ?_
     refine oOf 89 hg28 ?_
     refine oOf 89 hg28 ?_
     refine oOf 89 hg28 ?_
     refine oOf 89 hg28 ?_
     refine oOf 89 hg28 ?_
     refine oOn 80 hg24 ?_
     refine o_p (Qg rfl rfl hg28 rfl) rfl ?_
     refine aS ?_
     exact oJn 9 98) ?_
   refine o_p (Qg rfl rfl hg24 rfl) rfl ?_
   refine aS ?_
   exact oJn 11 99)
  (by
   intro hg30
   have hs31:=hg30;try simp only [dN] at hs31
   refine oOf 80 hg30 ?_
   refine oOf 80 hg30 ?_
   refine oOf 80 hg30 ?_
   refine oOf 80 hg30 ?_
   refine oOf 80 hg30 ?_
   refine oOf 80 hg30 ?_
   refine oOf 80 hg30 ?_
   refine oOf 80 hg30 ?_
   refine oOf 80 hg30 ?_
   refine QE 89 rfl rfl rfl ?_
   refine QE 89 rfl rfl rfl ?_
   refine QE 89 rfl rfl rfl ?_
   refine QE 89 rfl rfl rfl ?_
   refine QE 89 rfl rfl rfl ?_
   refine QE 89 rfl rfl rfl ?_
   refine QE 89 rfl rfl rfl ?_
   refine QE 89 rfl rfl rfl ?_
   refine oOf 80 hg30 ?_
   refine o_p (Qf rfl rfl hg30 rfl) rfl ?_
   refine aS ?_
   exact oJn 19 99) ?_
 refine aS ?_
 refine Qb rfl (fun h32=>?_) fun h32=>?_
 ·try simp only [Bool.and_eq_true,decide_eq_true_eq,Bool.or_eq_true,Bool.not_eq_true',Bool.and_eq_false_iff,decide_eq_false_iff_not] at h32
  exfalso;have hq:=h32;have h7 : (nth L num.toNat).us = true:=hU8.2;have h61:=hU8.1.1;have h62:=hU8.1.2;first | (simp [h7,h61,h62] at hq;done) | (simp [h7] at hq;omega) | grind
 try simp only [Bool.and_eq_false_iff,decide_eq_false_iff_not,Bool.or_eq_false_iff,Bool.not_eq_false',Bool.and_eq_true,decide_eq_true_eq] at h32
 refine aS7 ?_
 refine Xn 11 102 113 _ _ rfl
  (by
   intro hg33
   have hs34:=hg33;try simp only [dT] at hs34
   refine oOn 102 hg33 ?_
   refine aS ?_
   refine oOn 102 hg33 ?_
   refine aS ?_
   refine oOn 102 hg33 ?_
   refine o_q (Qa rfl QeI rfl (fun w1 h1=>c35 w1 _)) rfl ?_
   refine oOn 102 hg33 ?_
   refine aS ?_
   refine oOn 102 hg33 ?_
   refine aS ?_
   refine Xt 5 107 112 _ _ rfl
    (by
     intro hg35
     have hs36:=hg35;try simp only [Bool.not_eq_false',Bool.and_eq_true,decide_eq_true_eq] at hs36
     refine oOn 107 hg35 ?_
     refine aS ?_
     refine oOn 107 hg35 ?_
     refine aS ?_
     refine oOn 107 hg35 ?_
     refine o_q (Qa rfl YM rfl (fun w1 h1=>c40 w1 _ _ _)) rfl ?_
     refine oOn 107 hg35 ?_
     refine aS ?_
     refine oOn 102 hg33 ?_
     refine o_p (Qf rfl rfl hg35 rfl) rfl ?_
     refine aS ?_
     exact oJn 5 112)
    (by
     intro hg37
     have hs38:=hg37;try simp only [Bool.not_eq_true',Bool.and_eq_false_iff,decide_eq_false_iff_not] at hs38
     refine oOf 107 hg37 ?_
     refine oOf 107 hg37 ?_
     refine oOf 107 hg37 ?_
     refine oOf 107 hg37 ?_
     refine oOn 102 hg33 ?_
     refine o_p (Qg rfl rfl hg37 rfl) rfl ?_
     refine aS ?_
     exact oJn 5 112) ?_
   refine o_p (Qg rfl rfl hg33 rfl) rfl ?_
   refine aS ?_
   exact oJn 7 113)
  (by
   intro hg39
   have hs40:=hg39;try simp only [dN] at hs40
   refine oOf 102 hg39 ?_
   refine oOf 102 hg39 ?_
   refine oOf 102 hg39 ?_
   refine oOf 102 hg39 ?_
   refine oOf 102 hg39 ?_
   refine QE 107 rfl rfl rfl ?_
   refine QE 107 rfl rfl rfl ?_
   refine QE 107 rfl rfl rfl ?_
   refine QE 107 rfl rfl rfl ?_
   refine oOf 102 hg39 ?_
   refine o_p (Qf rfl rfl hg39 rfl) rfl ?_
   refine aS ?_
   exact oJn 11 113) ?_
 refine aS ?_
 refine Qb rfl (fun h41=>?_) fun h41=>?_
 ·try simp only [Bool.and_eq_true,decide_eq_true_eq,Bool.or_eq_true,Bool.not_eq_true',Bool.and_eq_false_iff,decide_eq_false_iff_not] at h41
  refine aS9 ?_
  refine Qb rfl (fun h42=>?_) fun h42=>?_
  ·try simp only [Bool.not_eq_true',decide_eq_false_iff_not] at h42
   refine aS6 ?_
   refine Xn 3 119 122 _ _ rfl
    (by
     intro hg43
     have hs44:=hg43;try simp only [dT] at hs44
     refine oOn 119 hg43 ?_
     refine aS ?_
     refine oOn 119 hg43 ?_
     refine aS ?_
     refine o_p (Qg rfl rfl hg43 rfl) rfl ?_
     refine aS ?_
     exact oJn 3 122)
    (by
     intro hg45
     have hs46:=hg45;try simp only [dN] at hs46
     refine oOf 119 hg45 ?_
     refine oOf 119 hg45 ?_
     refine o_p (Qf rfl rfl hg45 rfl) rfl ?_
     refine aS ?_
     exact oJn 3 122) ?_
   refine aS2 ?_
   exact rT rfl rfl (fun w' h'=>⟨by first | rfl | (simp [QT];done),h'.below⟩)
  try simp only [Bool.not_eq_false',decide_eq_true_eq] at h42
  exfalso;have hq:=h42;simp at hq
 try simp only [Bool.and_eq_false_iff,decide_eq_false_iff_not,Bool.or_eq_false_iff,Bool.not_eq_false',Bool.and_eq_true,decide_eq_true_eq] at h41
 exfalso;have hq:=h41;apply hG;grind
theorem c7z (w : World) (co mo rm : Int) (a : Option Addr) (cap : Nat) (L : List LNd) (num lsn usn : Int) (s : List UInt8) (hs : Nt w [] a L) (hz : ¬ ((Yx (pln L) = true ∧ L.length ≤ 20) ∧ s.length ≤ 513)) : Calls Tryz.prog 7 #[.agg #[.int .i64 co,.int .i64 mo,.int .i64 rm,.slice a L.length cap],.agg #[.int .i64 num,.int .i64 lsn,.int .i64 usn],.string (bs s)] w fun en w'=>en = .returned (.bool true) ∧ Below w.heap.size w w':=by
 refine enter (args:=[_,_,_]) Tryz.func7 Tryz.ntmps7 rfl rfl (HS.refl w []) ?_
 refine aS2 ?_
 refine oBx fun b1 _=>?_
 refine oBx fun b2 _=>?_
 refine aS5 ?_
 refine o_q (Qa rfl QjS rfl (fun w1 h1=>c11 w1)) rfl ?_
 refine aS2 ?_
 refine Qb rfl (fun h3=>?_) fun h3=>?_
 ·try simp only [Bool.not_true] at h3
  exfalso;simp at h3
 try simp only [Bool.not_true] at h3
 refine aS5 ?_
 refine o_q (Qa rfl Qi1 rfl (fun w1 h1=>c19 w1 co mo rm a cap L (hs.later h1.nil))) rfl ?_
 refine aS2 ?_
 refine Xt 4 22 26 _ _ rfl
  (by
   intro hg4
   have hs5:=hg4;try simp only [Bool.not_eq_false',Bool.and_eq_true,decide_eq_true_eq] at hs5
   refine oOn 22 hg4 ?_
   refine aS ?_
   refine oOn 22 hg4 ?_
   refine o_p (Qn rfl rfl Tryz.underlying9) rfl ?_
   refine oOn 22 hg4 ?_
   refine aS ?_
   refine o_p (Qf rfl rfl hg4 rfl) rfl ?_
   refine aS ?_
   exact oJn 4 26)
  (by
   intro hg6
   have hs7:=hg6;try simp only [Bool.not_eq_true',Bool.and_eq_false_iff,decide_eq_false_iff_not] at hs7
   refine oOf 22 hg6 ?_
   refine oOf 22 hg6 ?_
   refine oOf 22 hg6 ?_
   refine o_p (Qg rfl rfl hg6 rfl) rfl ?_
   refine aS ?_
   exact oJn 4 26) ?_
 refine aS ?_
 refine Qb rfl (fun h8=>?_) fun h8=>?_
 ·try simp only [Bool.or_eq_true,Bool.not_eq_true',Bool.and_eq_false_iff,decide_eq_false_iff_not,decide_eq_true_eq] at h8
  refine aS4 ?_
  exact rT rfl rfl (fun w' h'=>⟨by rfl,h'.below⟩)
 try simp only [Bool.or_eq_false_iff,Bool.not_eq_false',Bool.and_eq_true,decide_eq_true_eq,decide_eq_false_iff_not] at h8
 exfalso;have hq:=h8;exact hz ⟨⟨hq.1.1,by have:=hq.1.2;omega⟩,by have:=hq.2;omega⟩
theorem c7 (w : World) (co mo rm : Int) (a : Option Addr) (cap : Nat) (L : List LNd) (num lsn usn : Int) (s : List UInt8) (hs : Nt w [] a L) : Calls Tryz.prog 7 #[.agg #[.int .i64 co,.int .i64 mo,.int .i64 rm,.slice a L.length cap],.agg #[.int .i64 num,.int .i64 lsn,.int .i64 usn],.string (bs s)] w fun en w'=>en = .returned (.bool true) ∧ Below w.heap.size w w':=by
  by_cases hz : ((Yx (pln L) = true ∧ L.length ≤ 20) ∧ s.length ≤ 513)
  · obtain ⟨⟨h1,h2⟩,h3⟩:=hz
    by_cases hE : YC (⟨co,mo,rm,pln L⟩ : Tre) = 0
    · by_cases hU : ((1 ≤ num ∧ num ≤ (((⟨co,mo,rm,pln L⟩ : Tre)).ns.length : Int) - 1) ∧ (nth ((⟨co,mo,rm,pln L⟩ : Tre)).ns num.toNat).us = true)
      · by_cases hG : ((0 ≤ lsn ∧ lsn ≤ 2147483647) ∧ 1 ≤ usn ∧ usn ≤ 65535)
        · exact c7a w co mo rm a cap L num lsn usn s hs h1 h2 h3 (QsV hE hU hG)
        · exact c7d w co mo rm a cap L num lsn usn s hs h1 h2 h3 hE hU hG
      · exact c7c w co mo rm a cap L num lsn usn s hs h1 h2 h3 hE hU
    · exact c7b w co mo rm a cap L num lsn usn s hs h1 h2 h3 hE
  · exact c7z w co mo rm a cap L num lsn usn s hs hz
end Go.Proofs
