/- Contracts of the program's functions, proved by walking them with the rules of the Gx texts; without conditions beyond those that each contract names. -/
import Derived.WalkKit
import Derived.Deep.Draws
import Derived.TacticsIn
import Derived.OrdersIn
import Derived.RangeFuncLeaves
import Derived.Lib.Strings
import Derived.Laws.BytesArg
import Derived.Laws.IdiomStrings
import Derived.Deep.Quiet
import Derived.ProofKit
import Derived.OpenShut
import Derived.Laws.StructEq
import Derived.ChangeKeysEq
import Derived.Laws.Externs
import Derived.Lib.Overlaps
import Derived.Carry
import Derived.Laws.Small
import Derived.Lib.Bytealg
import Derived.Lib.Builder
import Derived.Laws.Pointers
import Derived.RangeFuncRecord
import Derived.Test.YtpkhkcchibbhmaaGreatDoorProg
import Derived.KernelRfl
import Derived.SizedLaws
import Derived.ChangeSame
import Derived.Handed
import Derived.Test.YtpkhkcchibbhmaaGreatDoorTie
import Derived.Test.YtpkhkcchibbhmaaGreatDoorCards
import Derived.SevenTiedAt
import Derived.LaidMore
import Derived.Lay
import Derived.Stop.Joined
import Derived.Test.YtpkhkcchibbhmaaGreatDoorP2
set_option linter.unusedSimpArgs false
set_option maxHeartbeats 1000000
set_option linter.unusedVariables false
set_option linter.unusedSectionVars false
set_option linter.unnecessarySimpa false
namespace Gx
namespace Ev
open Go Go.RowKit
structure HB where
 ty : Nat
 sz : Nat
 cs : List Value
inductive HX where
 | row (r : HB)
 | mp (ks : List Int)
abbrev Hp:=Tr HX
noncomputable def Yf (H : Hp) (n : Nat) : Option HX:=YE (pth n) n H
noncomputable def YG (H : Hp) (n : Nat) (y : HX) : Hp:=Yh (pth n) n y H
noncomputable def Yq (H : Hp) (n : Nat) : Option HB:=match Yf H n with
 | some (.row r)=>some r
 | _=>none
noncomputable def Qfj (H : Hp) (n : Nat) : Option (List Int):=match Yf H n with
 | some (.mp r)=>some r
 | _=>none
noncomputable def X5 (H : Hp) (n : Nat) (y : HB) : Hp:=YG H n (.row y)
noncomputable def Qhv (H : Hp) (n : Nat) : Hp:=Qds (pth n) H
theorem QcC {H : Hp} {n : Nat} {r : HB} (h : Yq H n = some r) : Yf H n = some (.row r):=by grind [Yq]
theorem Qpv {H : Hp} {n : Nat} {r : List Int} (h : Qfj H n = some r) : Yf H n = some (.mp r):=by grind [Qfj]
theorem QfT {H : Hp} {n m : Nat} {y r : HX} (h : Yf (YG H n y) m = some r) : (m = n ∧ r = y) ∨ (m ≠ n ∧ Yf H m = some r):=by grind [Yf,YG,Zd,YV]
theorem Qeg {H : Hp} {n m : Nat} {y : HX} (hm : m ≠ n) : Yf (YG H n y) m = Yf H m:=Qci hm _ _ _ fun e=>hm (QlB e)
theorem QbB {H : Hp} {n m : Nat} (hm : m ≠ n) : Yf (Qhv H n) m = Yf H m:=Qca _ _ _ fun e=>hm (QlB e)
theorem QiE {H : Hp} {n m : Nat} {r : HX} (h : Yf (Qhv H n) m = some r) : m ≠ n ∧ Yf H m = some r:=by grind [Qff,Yf,Qhv,Qal]
def Qb6 : List (Nat × HX) → Nat → Option HX
 | [],_=>none
 | (k,x) :: H,n=>bif Nat.beq k n then some x else Qb6 H n
def Qjc : List (Nat × HX) → Nat → HX → List (Nat × HX)
 | [],_,_=>[]
 | (k,x) :: H,n,y=>bif Nat.beq k n then (k,y) :: H else (k,x) :: Qjc H n y
def Qg1 : List (Nat × HX) → Nat → List (Nat × HX)
 | [],_=>[]
 | (k,x) :: H,n=>bif Nat.beq k n then H else (k,x) :: Qg1 H n
def room (x : HB) (d : Nat) : Prop:=d = 0 ∨ x.cs.length + d * x.sz ≤ maxLen * x.sz
abbrev Qjg : Int → Value:=fun n=>.int .i64 n
open Classical in
noncomputable def ha (ρ : Rho) (p : Nat × HX) : Option HA:=match p.2 with
 | .row x=>match ρ p.1,Qu (QP ρ) x.cs with
  | some (b,d),some us=>if room x d then some (.blk b x.ty (us.length + d * x.sz) us) else none
  | _,_=>none
 | .mp ks=>match ρ p.1 with
  | some (b,0)=>some (.mp b Qjg ks)
  | _=>none
theorem QhQ {ρ : Rho} {n : Nat} {x : HB} {A : HA} (h : ha ρ (n,.row x) = some A) : ∃ b d us,ρ n = some (b,d) ∧ Qu (QP ρ) x.cs = some us ∧ room x d ∧ A = .blk b x.ty (us.length + d * x.sz) us:=by grind [ha]
theorem QkZ {ρ : Rho} {n : Nat} {x : HB} {b d : Nat} {us : List Value} (h1 : ρ n = some (b,d)) (h2 : Qu (QP ρ) x.cs = some us) (h3 : room x d) : ha ρ (n,.row x) = some (.blk b x.ty (us.length + d * x.sz) us):=by grind [ha]
theorem Qqp {ρ : Rho} {n : Nat} {ks : List Int} {A : HA} (h : ha ρ (n,.mp ks) = some A) : ∃ b,ρ n = some (b,0) ∧ A = .mp b Qjg ks:=by grind [ha]
theorem QnH {ρ : Rho} {p : Nat × HX} {A : HA} (h : ha ρ p = some A) : ∃ x,ρ p.1 = some x:=by
 obtain ⟨n,x⟩:=p;cases x <;> grind [QhQ,ks,Qqp]
theorem Qc6 {ρ ρ' : Rho} (h : ρ.le ρ') (p : Nat × HX) (A : HA) (e : ha ρ p = some A) : ha ρ' p = some A:=by
 obtain ⟨n,x⟩:=p;cases x with
 | row x=>
  obtain ⟨b,d,us,h1,h2,h3,rfl⟩:=QhQ e;exact QkZ (h.1 _ _ h1) (Xh (QdY h) h2) h3
 | mp ks=>
  obtain ⟨b,h1,rfl⟩:=Qqp e;simp only [ha,h.1 _ _ h1]
theorem QdD {k m : Nat} (h : m ≠ k) : Nat.beq k m = false:=by cases hz : Nat.beq k m <;> simp_all
theorem Qg2 {ρ : Rho} {n : Nat} {x : HX} : ∀ {H : List (Nat × HX)} {As : List HA},Qu (ha ρ) H = some As → Qb6 H n = some x → ∃ A Rs,ha ρ (n,x) = some A ∧ QD As A Rs ∧
  (∀ (x' : HX) (A' : HA),ha ρ (n,x') = some A' → ∃ As2,Qu (ha ρ) (Qjc H n x') = some As2 ∧ (A' :: Rs).Perm As2 ∧ ∀ m,Qb6 (Qjc H n x') m = bif Nat.beq m n then some x' else Qb6 H m) ∧
  ∃ As3,Qu (ha ρ) (Qg1 H n) = some As3 ∧ Rs.Perm As3 ∧ ∀ m,m ≠ n → Qb6 (Qg1 H n) m = Qb6 H m
 | [],As,_,h=>by cases h
 | (k,y) :: H,As,e,h=>by
  simp only [Qu] at e;split at e
  ·rename_i A As' h1 h2;injection e with e
   subst e;simp only [Qb6] at h;cases hb : Nat.beq k n with
   | true=>
    rw [hb] at h;injection h with h
    subst h;have hk:=Nat.eq_of_beq_eq_true hb;subst hk;refine ⟨A,As',h1,.here,fun x' A' e1=>⟨_,?_,.refl _,fun m=>?_⟩,As',?_,.refl _,fun m hm=>?_⟩
    ·grind [Qjc,Qu]
    ·grind [Qjc,Qb6,QdD]
    ·grind [Qg1]
    grind [Qg1,Qb6,QdD]
   | false=>
    rw [hb] at h;obtain ⟨A0,Rs,g1,g4,g5,As3,g6,g7,g8⟩:=Qg2 h2 h;refine ⟨A0,A :: Rs,g1,g4.there,fun x' A' e1=>?_,A :: As3,?_,g7.cons _,fun m hm=>?_⟩
    ·obtain ⟨As2,e3,e4,e5⟩:=g5 x' A' e1;refine ⟨A :: As2,by simp only [Qjc,hb,cond_false,Qu,h1,e3],(List.Perm.swap ..).trans (e4.cons _),fun m=>?_⟩;simp only [Qjc,hb,cond_false,Qb6,e5];cases hq : Nat.beq k m <;> simp_all
    ·grind [Qg1,Qu]
    grind [Qg1,Qb6]
  ·cases e
def HM (ρ : Rho) (H : Hp) (As : List HA) : Prop:=∃ (G : List (Nat × HX)) (Bs : List HA),(∀ m r,Yf H m = some r → Qb6 G m = some r) ∧ Qu (ha ρ) G = some Bs ∧ As = Bs ++ ρ.ex
theorem HM.mono {ρ ρ' : Rho} (h : ρ.le ρ') {H : Hp} {As : List HA} : HM ρ H As → HM ρ' H As:=fun ⟨G,Bs,h1,h2,h3⟩=>⟨G,Bs,h1,Xh (Qc6 h) h2,by rw [h.2];exact h3⟩
theorem HM.push {ρ : Rho} {H : Hp} {As : List HA} {n : Nat} {x : HX} {A : HA} (h : HM ρ H As) (hA : ha ρ (n,x) = some A) : HM ρ (YG H n x) (A :: As):=by
 obtain ⟨G,Bs,h1,h2,h3⟩:=h;refine ⟨(n,x) :: G,A :: Bs,fun m r hm=>?_,by simp only [Qu,hA,h2],by rw [h3];rfl⟩;simp only [Qb6];rcases QfT hm with ⟨rfl,rfl⟩ | ⟨h3,h4⟩
 ·simp [Nat.beq_refl]
 grind [QdD]
theorem Qt3 {ρ : Rho} {n : Nat} {x : HX} {H : Hp} {As : List HA} (hH : HM ρ H As) (h : Yf H n = some x) : ∃ A Rs,ha ρ (n,x) = some A ∧ QD As A Rs ∧
  (∀ (x' : HX) (A' : HA),ha ρ (n,x') = some A' → ∃ As2,HM ρ (YG H n x') As2 ∧ (A' :: Rs).Perm As2) ∧
  ∃ As3,HM ρ (Qhv H n) As3 ∧ Rs.Perm As3:=by
 obtain ⟨G,Bs,h1,h2,rfl⟩:=hH;obtain ⟨A,Rs,g1,g4,g5,As3,g6,g7,g8⟩:=Qg2 h2 (h1 _ _ h);refine ⟨A,Rs ++ ρ.ex,g1,g4.append_right _,fun x' A' e1=>?_,As3 ++ ρ.ex,⟨Qg1 G n,As3,fun m r hm=>?_,g6,rfl⟩,g7.append_right _⟩
 ·obtain ⟨As2,e3,e4,e5⟩:=g5 x' A' e1;refine ⟨As2 ++ ρ.ex,⟨Qjc G n x',As2,fun m r hm=>?_,e3,rfl⟩,e4.append_right _⟩;rw [e5];rcases QfT hm with ⟨rfl,rfl⟩ | ⟨h3,h4⟩
  ·simp [Nat.beq_refl]
  ·rw [QdD (Ne.symm h3)];exact h1 m r h4
 ·obtain ⟨h3,h4⟩:=QiE hm;rw [g8 m h3];exact h1 m r h4
theorem X3 {ρ : Rho} {n : Nat} {x : HB} {H : Hp} {As : List HA} (hH : HM ρ H As) (h : Yq H n = some x) : ∃ b d us Rs,ρ n = some (b,d) ∧ Qu (QP ρ) x.cs = some us ∧ room x d ∧ QD As (.blk b x.ty (us.length + d * x.sz) us) Rs ∧
  (∀ (x' : HB) (us' : List Value),Qu (QP ρ) x'.cs = some us' → room x' d → ∃ As2,HM ρ (X5 H n x') As2 ∧ (HA.blk b x'.ty (us'.length + d * x'.sz) us' :: Rs).Perm As2) ∧
  ∃ As3,HM ρ (Qhv H n) As3 ∧ Rs.Perm As3:=by
 obtain ⟨A,Rs,g1,g4,g5,g6⟩:=Qt3 hH (QcC h);obtain ⟨b,d,us,e1,e2,e3,rfl⟩:=QhQ g1;exact ⟨b,d,us,Rs,e1,e2,e3,g4,fun x' us' f1 f2=>g5 (.row x') _ (QkZ e1 f1 f2),g6⟩
theorem QnD {ρ : Rho} {n : Nat} {ks : List Int} {H : Hp} {As : List HA} (hH : HM ρ H As) (h : Qfj H n = some ks) : ∃ b Rs,ρ n = some (b,0) ∧ QD As (.mp b Qjg ks) Rs ∧
  ∀ ks',∃ As2,HM ρ (YG H n (.mp ks')) As2 ∧ (HA.mp b Qjg ks' :: Rs).Perm As2:=by
 obtain ⟨A,Rs,g1,g4,g5,g6⟩:=Qt3 hH (Qpv h);obtain ⟨b,e1,rfl⟩:=Qqp g1;exact ⟨b,Rs,e1,g4,fun ks'=>g5 (.mp ks') _ (by simp only [ha,e1])⟩
def QO (ρ : Rho) (n : Nat) : Prop:=∀ k,n ≤ k → ρ k = none
def ext (ρ : Rho) (n : Nat) (x : Nat × Nat) : Rho:=⟨fun k=>bif Nat.beq k n then some x else ρ k,ρ.ex⟩
theorem QaO (ρ : Rho) (n : Nat) (x : Nat × Nat) : ext ρ n x n = some x:=by simp [ext,Nat.beq_refl]
theorem Qfv {ρ : Rho} {n : Nat} (h : QO ρ n) (x : Nat × Nat) : ρ.le (ext ρ n x):=⟨fun k y hk=>by
 unfold ext;simp only [];cases hb : Nat.beq k n with
 | true=>
  have:=Nat.eq_of_beq_eq_true hb;subst this;rw [h k (Nat.le_refl _)] at hk;cases hk
 | false=>exact hk,rfl⟩
theorem Qav {ρ : Rho} {n : Nat} (h : QO ρ n) (x : Nat × Nat) : QO (ext ρ n x) (n + 1):=fun k hk=>by
 show (bif Nat.beq k n then some x else ρ k) = none;cases hb : Nat.beq k n with
 | true=>
  have:=Nat.eq_of_beq_eq_true hb;omega
 | false=>exact h k (by omega)
def Out (w0 : World) (ρ : Rho) (v : Value) (H' : Hp) (n' : Nat) (u : Value) (C : World → Prop) : Prop:=
 ∃ ρ' As',ρ.le ρ' ∧ QO ρ' n' ∧ den ρ' v = some u ∧ HM ρ' H' As' ∧ ∀ w,C w → HS w0 [] As' w
def OpT (P : Program) (o : Oper) (L' : Qb) (C : World → Prop) (K : Value → (World → Prop) → Prop) : Prop:=
 ∃ (G : Type) (V : G → Value) (F : G → Prop) (C' : G → World → Prop),OpH P o L' C V F C' ∧ ∀ g,F g → K (V g) (C' g)
section
variable {P : Program} {o : Oper} {L' : Qb} {w0 : World} {ρ : Rho} {L : Env} {H : Hp} {n : Nat} {As : List HA}
theorem OpT.of_p {v u : Value} (h : OpP P o L' u) (hd : den ρ v = some u) (hH : HM ρ H As) (hf : QO ρ n) : OpT P o L' (HS w0 [] As) (Out w0 ρ v H n):=
 ⟨Unit,_,_,_,(h.q (HS w0 [] As)).h (HS.stab _ _ _),fun _ _=>⟨ρ,As,ρ.le_refl,hf,hd,hH,fun _ h=>h⟩⟩
theorem OpT.of_q {v u : Value} (h : OpQ P o L' (HS w0 [] As) u) (hd : den ρ v = some u) (hH : HM ρ H As) (hf : QO ρ n) : OpT P o L' (HS w0 [] As) (Out w0 ρ v H n):=
 ⟨Unit,_,_,_,h.h (HS.stab _ _ _),fun _ _=>⟨ρ,As,ρ.le_refl,hf,hd,hH,fun _ h=>h⟩⟩
theorem QaF {b d : Nat} {x : HB} {us : List Value} {v u : Value} {C : World → Prop} (hH : HM ρ H As) (hf : QO ρ n) (hc : Qu (QP ρ) x.cs = some us) (hr : room x d) (hv : den (ext ρ n (b,d)) v = some u) (hC : ∀ w,C w → HS w0 [] (.blk b x.ty (us.length + d * x.sz) us :: As) w) : Out w0 ρ v (X5 H n x) (n + 1) u C:=by
 have hle:=Qfv hf (b,d);refine ⟨ext ρ n (b,d),_,hle,Qav hf _,hv,?_,hC⟩;exact (HM.mono hle hH).push (QkZ (QaO ρ n (b,d)) (Xh (QdY hle) hc) hr)
theorem QsH {t x : Nat} {m i sz : Nat} {ag : Bool} {r : HB} {v : Value} (ho : o.op = .load t (.tmp x)) (hs : SR ρ L L') (hH : HM ρ H As) (hx : L x = some (.pointer (some ⟨m,i,none⟩))) (hg : Yq H m = some r) (hz : tsz P t = some (sz,ag))
  (h : (if ag then (bif Nat.ble (i + sz) r.cs.length then some (.agg (cut r.cs i sz).toArray) else none) else (bif Nat.beq sz 1 then r.cs[i]? else none)) = some v) : ∃ u,OpQ P o L' (HS w0 [] As) u ∧ den ρ v = some u:=by
 obtain ⟨b,d,us,Rs,g1,g2,g3,g4,_,_⟩:=X3 hH hg;obtain ⟨u,e1,e2⟩:=hs.get hx;simp only [den,Xr,QP,XJ,g1,Option.some.injEq] at e2;subst e2;cases ag with
 | true=>
  simp only [if_true] at h;cases hb : Nat.ble (i + sz) r.cs.length with
  | false=>rw [hb] at h;cases h
  | true=>
   rw [hb] at h;injection h with h
   subst h;refine ⟨_,Qc8 ho e1 hz g4 (by rw [Q6 g2];exact hb),?_⟩
   grind [den,Xr,cut,XG,Yt]
 | false=>
  cases hb : Nat.beq sz 1 with
  | false=>rw [hb] at h;simp at h
  | true=>
   rw [hb] at h;have hk:=Nat.eq_of_beq_eq_true hb;subst hk;have h' : r.cs[i]? = some v:=by simpa using h
   obtain ⟨u,e3,e4⟩:=QaC g2 h'
   grind [YA,Qcq,QaS]
theorem Qqh {v u : Value} (e : XJ ρ v = some u) : u.oneCell' = true:=by
 cases v <;> simp only [XJ] at e <;> first
  | (injection e with e;subst e;rfl)
  | ((repeat' split at e) <;> first | (injection e with e;subst e;rfl) | cases e)
  | cases e
theorem Qn9 {v u : Value} (e : QP ρ v = some u) : u.oneCell' = true:=by
 cases v with
 | func f a b=>
  simp only [QP] at e;split at e
  ·injection e with e;subst e;rfl
  ·cases e
 | _=>grind [QP,Qqh]
theorem YL {vs us : List Value} (h : Qu (QP ρ) vs = some us) : us.all (·.oneCell') = true:=by
 refine List.all_eq_true.2 fun u hu=>?_;obtain ⟨a,_,e⟩:=Qie h hu;exact Qn9 e
theorem QqV {t x : Nat} {y : Operand} {m i sz : Nat} {ag : Bool} {r : HB} {v : Value} (ho : o.op = .store t (.tmp x) y) (hs : SR ρ L L') (hH : HM ρ H As) (hf : QO ρ n) (hx : L x = some (.pointer (some ⟨m,i,none⟩))) (hy : opd L y = some v) (hn : Zy v = true) (hg : Yq H m = some r) (hz : tsz P t = some (sz,ag))
  (hl : v.cells.toList.length = sz) (hr : i + sz ≤ r.cs.length) : OpT P o L' (HS w0 [] As) (Out w0 ρ undef (X5 H m { r with cs:=Qd r.cs i v.cells.toList }) n):=by
 obtain ⟨b,d,us,Rs,g1,g2,g3,g4,g5,_⟩:=X3 hH hg;obtain ⟨p,e1,e2⟩:=hs.get hx;simp only [den,Xr,QP,XJ,g1,Option.some.injEq] at e2;subst e2;obtain ⟨u,e3,e4⟩:=YT hs hy;have hc:=Qhc hn e4;have hlu:=Q6 hc;have hl2:=Q6 g2;have X5:=X1 i g2 hc;obtain ⟨As2,g6,g7⟩:=g5 { r with cs:=Qd r.cs i v.cells.toList } _ X5 (by unfold room at *;simpa [Qg] using g3);have hS:=Z6 (w0:=w0) (M:=[]) (As:=As) (As':=.blk b r.ty (us.length + d * r.sz) (Qd us i u.cells.toList) :: Rs) (tot:=us.length + d * r.sz) ho e1 e3 hz (by rw [hlu];exact hl) ⟨Rs,g4,.refl _⟩ (by rw [hl2];exact hr) (YL hc);refine ⟨_,_,_,_,hS,fun _ _=>⟨ρ,As2,ρ.le_refl,hf,?_,g6,fun w hw=>?_⟩⟩
 ·rfl
 ·have : HS w0 [] (.blk b r.ty ((Qd us i u.cells.toList).length + d * r.sz) (Qd us i u.cells.toList) :: Rs) w:=by rw [Qg];exact hw
  exact this.perm g7
theorem QhR {m b d i : Nat} : den (ext ρ m (b,d)) (.pointer (some ⟨m,i,none⟩)) = some (.pointer (some ⟨b,i,none⟩)):=by simp only [den,Xr,QP,XJ,QaO]
theorem Qe6 {m b d i l c : Nat} : den (ext ρ m (b,d)) (.slice (some ⟨m,i,none⟩) l c) = some (.slice (some ⟨b,i,none⟩) l (c + d)):=by simp only [den,Xr,QP,XJ,QaO]
theorem QqL {t : TypeId} {z : List Value} (ho : o.op = .alloc t) (hz : QM P t = some z) (hfl : Xd z = true) (hH : HM ρ H As) (hf : QO ρ n) : OpT P o L' (HS w0 [] As) (Out w0 ρ (.pointer (some ⟨n,0,none⟩)) (X5 H n ⟨t,0,z⟩) (n + 1)):=
 ⟨_,_,_,_,QbX ho hz,fun b _=>QaF (d:=0) hH hf (XQ hfl) (.inl rfl) QhR fun w hw=>by rw [Nat.zero_mul,Nat.add_zero];exact hw⟩
theorem Qvd {t : TypeId} {x : Operand} {v : Value} (ho : o.op = .box t x) (hs : SR ρ L L') (hx : opd L x = some v) (hn : Zy v = true) (hH : HM ρ H As) (hf : QO ρ n) : OpT P o L' (HS w0 [] As) (Out w0 ρ (.pointer (some ⟨n,0,none⟩)) (X5 H n ⟨t,0,v.cells.toList⟩) (n + 1)):=by
 obtain ⟨u,e1,e2⟩:=YT hs hx;exact ⟨_,_,_,_,Qso ho e1,fun b _=>QaF (d:=0) hH hf (Qhc hn e2) (.inl rfl) QhR fun w hw=>by rw [Nat.zero_mul,Nat.add_zero];exact hw⟩
theorem QhH {t e sz by' len : Nat} {parts : Array (Nat × Operand)} {vs : List (Nat × Value)} {z cs : List Value} (ho : o.op = .buildSlice t len parts) (hs : SR ρ L L') (hp : Qdq L parts.toList = some vs) (ht : tsl P t = some (e,sz,by')) (hz : QM P e = some z) (hfl : Xd z = true) (hlen : Nat.ble (len * sz) 16777216 = true) (h0 : Nat.blt 0 (len * sz) = true)
  (hc : Zh (fun i=>some (i * sz,sz)) ((List.range (len * sz)).map fun i=>z.getD (i % z.length) default) vs = some cs) (hfz : Xd ((List.range (len * sz)).map fun i=>z.getD (i % z.length) default) = true) (hH : HM ρ H As) (hf : QO ρ n) : OpT P o L' (HS w0 [] As) (Out w0 ρ (.slice (some ⟨n,0,none⟩) len len) (X5 H n ⟨e,sz,cs⟩) (n + 1)):=by
 obtain ⟨us,e1,e2⟩:=QeQ hs hp;obtain ⟨ts,e3,e4⟩:=QeG e2 (XQ hfz) hc;exact ⟨_,_,_,_,Ql ho e1 ht hz hlen h0 e3,fun b _=>QaF (d:=0) hH hf e4 (.inl rfl) (by rw [Qe6];rfl) fun w hw=>by rw [Nat.zero_mul,Nat.add_zero];exact hw⟩
theorem HS.own_some {w : World} {M : List Nat} {As : List HA} {b t sz n cap : Nat} {xs : List Value} (h : HS w0 M (.own (.slice (some ⟨b,0,none⟩) n cap) t sz n xs :: As) w) : HS w0 M (.blk b t (cap * sz) xs :: As) w:=by
 refine h.turn (fun c hc=>by simpa [HA.fp_own,HA.fp_blk,Value.ownBlock] using hc) fun ho=>?_;obtain ⟨hl,⟨e,_⟩ | ⟨g,cap',e,h2,h3,hb⟩⟩:=ho
 ·cases e
 ·injection e with e1 e2 e3
  injection e1 with e1
  injection e1 with e1 _ _
  subst e1 e3;exact hb
theorem Qgb {t e sz by' : Nat} (ho : o.op = .buildSlice t 0 #[]) (ht : tsl P t = some (e,sz,by')) (hH : HM ρ H As) (hf : QO ρ n) : OpT P o L' (HS w0 [] As) (Out w0 ρ (.slice (some ⟨n,0,none⟩) 0 0) (X5 H n ⟨e,sz,[]⟩) (n + 1)):=
 ⟨_,_,_,_,Qf8 ho ht,fun b _=>QaF (d:=0) (us:=[]) hH hf rfl (.inl rfl) (by rw [Qe6]) fun w hw=>by have:=HS.own_some hw;simpa using this⟩
theorem h_make2 {t e sz by' k n : Nat} {x y : Operand} {z : List Value} (ho : o.op = .makeSlice t x y) (hx : Gx.ev L' x = some (.int .i64 (k : Int))) (hy : Gx.ev L' y = some (.int .i64 (n : Int))) (ht : tsl P t = some (e,sz,by')) (hz : QM P e = some z) (hlen : n * by' ≤ 281474976710656) (hn : n ≤ 16777216) (hkn : k ≤ n) :
  OpH P o L' (HS w0 [] As) (fun b : Nat=>.slice (some ⟨b,0,none⟩) k n) (fun _=>True) (fun b=>HS w0 [] (.blk b e (n * sz) (Xw z (n * sz)) :: As)):=by
 intro ρ w hρ hw;obtain ⟨hu,inf,h1,h2,h3⟩:=QV ht;have hsz : ∀ w,(Go.sizeOf e).run P w = .ok sz w:=fun w=>by simp [Go.sizeOf,typeInfo,h1,h2]
 have hti : (typeInfo e).run P w = .ok inf w:=by simp [typeInfo,h1]
 obtain ⟨zv,hz',hzr⟩ : ∃ zv : Value,zv.cells.toList = z ∧ ∀ w,(zeroValue e).run P w = .ok zv w:=by
  unfold QM at hz;rw [h1] at hz;simp only [Option.bind_some] at hz;cases hzz : inf.zero with
  | none=>rw [hzz] at hz;cases hz
  | some v=>rw [hzz] at hz;simp only [Option.map_some,Option.some.injEq] at hz;exact ⟨v,hz,fun w=>by simp [zeroValue,typeInfo,h1,hzz]⟩
 have hwr : IntKind.i64.wrap (n : Int) = n:=IntWalk.i64_in _ ⟨by omega,by omega⟩;have hwk : IntKind.i64.wrap (k : Int) = k:=IntWalk.i64_in _ ⟨by omega,by omega⟩;have hz'' : zv.cells = z.toArray:=by rw [← hz']
 have hpr : ((inf.bytes : Nat) : Int) * (n : Int) ≤ 281474976710656:=by grind
 have e2 : (2 : Int) ^ 48 = 281474976710656:=by decide
 have d1 : ¬ ((inf.bytes : Nat) : Int) * (n : Int) > 2 ^ 48:=by rw [e2];omega
 have d1k : ¬ ((inf.bytes : Nat) : Int) * (k : Int) > 2 ^ 48:=by
  have h8 : ((inf.bytes : Nat) : Int) * (k : Int) ≤ ((inf.bytes : Nat) : Int) * (n : Int):=Int.mul_le_mul_of_nonneg_left (by omega) (by omega);rw [e2];omega
 have d2 : ¬ (n : Int) < 0:=by omega
 have d2k : ¬ (k : Int) < 0:=by omega
 have d3 : ¬ (k : Int) > n:=by omega
 have hai : ∀ (q : Nat) w,(asInt (.int .i64 (q : Int))).run P w = .ok (q : Int) w:=fun q w=>by simp [asInt,asIntOf]
 have hb : (Instr.makeSlice t (.int .i64 k) (.int .i64 n)).run P w = .ok (.slice (some ⟨w.heap.size,0,none⟩) k n) (w.alloc (.cells (Xw z (n * sz)).toArray e)):=by
  unfold Instr.makeSlice;simp only [Sem.run_bind,run_underlying hu,Result.andThen_ok,hsz,hai,Sem.run_pure,hti,hwr,hwk,d1,d1k,d2,d2k,d3,decide_false,Bool.or_false,Bool.false_eq_true,if_false,run_askRoom,Int.toNat_natCast]
  by_cases h0 : n * sz = 0
  ·have e1 : ∀ q : Array Value,(Array.map (fun x=>q[x % q.size]!) (Array.range 0)) = #[]:=fun q=>Array.eq_empty_of_size_eq_zero (by simp);have e3 : (Xw z (n * sz)).toArray = #[]:=by rw [h0];rfl
   simp only [h0,if_true,Sem.run_bind,Sem.run_pure,Result.andThen_ok,newRow,run_newObj,World.alloc_eq,e1,e3];simp only [h0] at e3;rw [e3]
  ·simp only [if_neg h0,Sem.run_bind,hzr,Sem.run_pure,Result.andThen_ok,newRow,run_newObj,World.alloc_eq,hz''];congr 2;simp [Xw,← List.toArray_range]
 simp only [execOp,ho,Sem.run_bind,hρ _ _ hx,hρ _ _ hy,hb,Result.andThen_ok,Sem.run_pure];have h4:=hw.blk_new e (Xw z (n * sz)).toArray;refine ⟨w.heap.size,rfl,trivial,?_⟩
 simpa [Qx] using h4
theorem QiM {t e sz by' k c : Nat} {x y : Operand} {z : List Value} (ho : o.op = .makeSlice t x y) (hs : SR ρ L L') (hx : opd L x = some (.int .i64 (k : Int))) (hy : opd L y = some (.int .i64 (c : Int))) (hkc : k ≤ c) (ht : tsl P t = some (e,sz,by')) (hz : QM P e = some z) (hb : c * by' ≤ 281474976710656) (hk : c ≤ 16777216) (hfz : Xd (Xw z (c * sz)) = true) (hH : HM ρ H As) (hf : QO ρ n) :
  OpT P o L' (HS w0 [] As) (Out w0 ρ (.slice (some ⟨n,0,none⟩) k c) (X5 H n ⟨e,sz,Xw z (c * sz)⟩) (n + 1)):=
 ⟨_,_,_,_,h_make2 ho (Qh hs hx rfl) (Qh hs hy rfl) ht hz hb hk hkc,fun b _=>QaF (d:=0) hH hf (XQ hfz) (.inl rfl) (by rw [Qe6] <;> rfl) fun w hw=>by rw [Qx,Nat.zero_mul,Nat.add_zero];exact hw⟩
theorem Qrz {src dst e : TypeId} {x : Operand} {l : List UInt8} (ho : o.op = .convert src dst x) (hs : SR ρ L L') (hx : opd L x = some (.string ⟨⟨l⟩⟩)) (h1 : P.underlying src = some .string) (h2 : P.underlying dst = some (.slice e)) (h3 : P.underlying e = some (.int .u8)) (h5 : e = u8T) (hl : l.length ≤ maxLen) (hH : HM ρ H As) (hf : QO ρ n) :
  OpT P o L' (HS w0 [] As) (Out w0 ρ (.slice (some ⟨n,0,none⟩) l.length l.length) (X5 H n ⟨e,1,l.map fun b=>.int .u8 (b.toNat : Int)⟩) (n + 1)):=by
 have hfl : Xd (l.map fun b=>Value.int .u8 (b.toNat : Int)) = true:=by
  unfold Xd;rw [List.all_map];exact List.all_eq_true.2 fun _ _=>rfl
 refine ⟨_,_,_,_,Z2 ho (Qh hs hx rfl) h1 h2 h3 h5 hl,fun p hp=>QaF (b:=p.1) (d:=p.2 - l.length) hH hf (XQ hfl) (.inr ?_) ?_ fun w hw=>?_⟩
 ·grind
 ·grind [Qe6]
 grind
theorem Qnk {t : TypeId} (ho : o.op = .makeMap t none) (hH : HM ρ H As) (hf : QO ρ n) : OpT P o L' (HS w0 [] As) (Out w0 ρ (.map (some n)) (YG H n (.mp [])) (n + 1)):=by
 refine ⟨_,_,_,_,QgS ho Qjg,fun b _=>?_⟩;have hle:=Qfv hf (b,0);refine ⟨ext ρ n (b,0),_,hle,Qav hf _,?_,(HM.mono hle hH).push (A:=.mp b Qjg []) (by simp only [ha,QaO]),fun w hw=>hw⟩;simp only [den,Xr,QP,XJ,QaO]
def QhP (a : Int) : List Int → Bool
 | []=>false
 | b :: l=>bif decide (a = b) then true else QhP a l
theorem QhI (a : Int) : ∀ l,QhP a l = decide (a ∈ l)
 | []=>by simp [QhP]
 | b :: l=>by simp_all [QhP,QhI]
theorem QkT {x : Operand} {m : Nat} (hs : SR ρ L L') (h : opd L x = some (.map (some m))) : ∃ b d,ρ m = some (b,d) ∧ ev L' x = some (.map (some b)):=by grind [YT,den,Xr,QP,XJ]
theorem QnS {t kt et r : Nat} {m x : Operand} {a : Int} {ks : List Int} (ho : o.op = .lookup t m x false) (hs : SR ρ L L') (hH : HM ρ H As) (hm : opd L m = some (.map (some r))) (hx : opd L x = some (.int .i64 a)) (ht : P.underlying t = some (.map kt et)) (hz : tzv P et = some (.bool false)) (hk : tki P kt = some .i64) (hg : Qfj H r = some ks) :
  ∃ u,OpQ P o L' (HS w0 [] As) u ∧ den ρ (.bool (QhP a ks)) = some u:=by
 obtain ⟨b,Rs,g1,g2,_⟩:=QnD hH hg;obtain ⟨b',d',e1,e2⟩:=QkT hs hm;rw [g1] at e1;injection e1 with e1
 injection e1 with e1 _
 subst e1;rw [QhI];exact ⟨_,Qpe ho e2 (Qh hs hx rfl) ht hz (QlC hk) g2,by simp only [den,Xr,QP,XJ];congr⟩
theorem Qi3 {t kt et r : Nat} {m x y : Operand} {a : Int} {ks : List Int} (ho : o.op = .mapUpdate t m x y ∨ o.op = .insert t m x y) (hs : SR ρ L L') (hH : HM ρ H As) (hf : QO ρ n) (hm : opd L m = some (.map (some r))) (hx : opd L x = some (.int .i64 a)) (hy : opd L y = some (.bool true)) (ht : P.underlying t = some (.map kt et)) (hk : tki P kt = some .i64) (hg : Qfj H r = some ks) :
  OpT P o L' (HS w0 [] As) (Out w0 ρ (.tuple #[]) (YG H r (.mp (bif QhP a ks then ks else ks ++ [a]))) n):=by
 obtain ⟨b,Rs,g1,g2,g3⟩:=QnD hH hg;obtain ⟨b',d',e1,e2⟩:=QkT hs hm;rw [g1] at e1;injection e1 with e1
 injection e1 with e1 _
 subst e1;have hik : Qdm ks a = (bif QhP a ks then ks else ks ++ [a]):=by grind [Qdm,QhI,ks]
 obtain ⟨As2,g4,g5⟩:=g3 (Qdm ks a);rw [← hik];exact ⟨_,_,_,_,Qio (As':=.mp b Qjg (Qdm ks a) :: Rs) ho e2 (Qh hs hx rfl) (Qh hs hy rfl) ht (QlC hk) ⟨Rs,g2,.refl _⟩,fun _ _=>⟨ρ,As2,ρ.le_refl,hf,rfl,g4,fun w hw=>hw.perm g5⟩⟩
end
end Ev
namespace Ev
open Go Go.RowKit
noncomputable def QjI (P : Program) (H : Hp) (xt sz : Nat) : Value → Option (Nat × List Value)
 | .slice none k _=>bif Xc P xt && Nat.beq k 0 then some (0,[]) else none
 | .slice (some ⟨m,i,_⟩) k _=>bif Xc P xt then (bif Nat.beq k 0 then some (0,[]) else match Yq H m with
  | some r=>bif Nat.ble (i + k * sz) r.cs.length then some (k,cut r.cs i (k * sz)) else none
  | none=>none) else none
 | .pointer (some ⟨_,_,some _⟩)=>bif Xc P xt then some (0,[]) else none
 | .string ⟨⟨l⟩⟩=>bif Q9 P xt && Nat.beq sz 1 then some (l.length,l.map fun b=>.int .u8 (b.toNat : Int)) else none
 | _=>none
structure SrcOk (P : Program) (w0 : World) (As : List HA) (xt sz : Nat) (uy : Value) (m : Nat) (us : List Value) : Prop where
 ty : P.underlying xt = some .string ∨ ∃ e',P.underlying xt = some (.slice e')
 lenOf : ∀ w,(Builtin.lenOf uy).run P w = .ok m w
 cells : ∀ w,HS w0 [] As w → (Builtin.firstCells sz m uy).run P w = .ok us.toArray w
 len : us.length = m * sz
theorem Qu3 {ρ : Rho} (l : List UInt8) : Qu (QP ρ) (l.map fun b=>Value.int .u8 (b.toNat : Int)) = some (l.map fun b=>.int .u8 (b.toNat : Int)):=XQ (by
 unfold Xd;rw [List.all_map];exact List.all_eq_true.2 fun _ _=>rfl)
section
variable {P : Program} {o : Oper} {L' : Qb} {w0 : World} {ρ : Rho} {L : Env} {H : Hp} {n : Nat} {As : List HA}
theorem QmC {α : Type} {c : Bool} {x a : α} (h : (bif c then some x else none) = some a) : c = true ∧ x = a:=by grind
theorem Ql2 {xt sz : Nat} {y : Operand} {v : Value} {m : Nat} {cs : List Value} (hs : SR ρ L L') (hH : HM ρ H As) (hy : opd L y = some v) (h : QjI P H xt sz v = some (m,cs)) : ∃ uy us,ev L' y = some uy ∧ Qu (QP ρ) cs = some us ∧ SrcOk P w0 As xt sz uy m us:=by
 unfold QjI at h;split at h
 ·rename_i k c;cases hb : Xc P xt && Nat.beq k 0 with
  | false=>rw [hb] at h;cases h
  | true=>
   rw [hb] at h;simp only [cond_true,Option.some.injEq,Prod.mk.injEq] at h;obtain ⟨rfl,rfl⟩:=h;simp only [Bool.and_eq_true] at hb;have hk:=Nat.eq_of_beq_eq_true hb.2;subst hk;exact ⟨_,[],Qh hs hy rfl,rfl,.inr (XI hb.1),fun _=>rfl,fun w _=>X6 (news:=[]) (by simp) fun h=>absurd rfl h,by simp⟩
 ·rename_i m2 i q k c;cases hb : Xc P xt with
  | false=>rw [hb] at h;cases h
  | true=>
   rw [hb] at h;simp only [cond_true] at h
   have hev : ∃ b c',ρ m2 = some b ∧ ev L' y = some (.slice (some ⟨b.1,i,none⟩) k c'):=by
    cases q with
    | none=>
     obtain ⟨b,d,h1,h2⟩:=XT hs hy
     simp_all
    | some q=>
     obtain ⟨b,d,h1,h2⟩:=Yo hs hy
     simp_all
   obtain ⟨⟨b,d⟩,c',h1,h2⟩:=hev;cases hk : Nat.beq k 0 with
   | true=>
    rw [hk] at h;simp only [cond_true,Option.some.injEq,Prod.mk.injEq] at h;obtain ⟨rfl,rfl⟩:=h;have hk:=Nat.eq_of_beq_eq_true hk;subst hk;exact ⟨_,[],h2,rfl,.inr (XI hb),fun _=>rfl,fun w _=>X6 (news:=[]) (by simp) fun h=>absurd rfl h,by simp⟩
   | false=>
    rw [hk] at h;simp only [cond_false] at h;split at h
    ·rename_i r hg;cases hl : Nat.ble (i + k * sz) r.cs.length with
     | false=>rw [hl] at h;cases h
     | true=>
      rw [hl] at h;simp only [cond_true,Option.some.injEq,Prod.mk.injEq] at h;obtain ⟨rfl,rfl⟩:=h;have hl':=Nat.le_of_ble_eq_true hl;obtain ⟨b9,d9,us,Rs,g1,g2,g3,g4,_,_⟩:=X3 hH hg;rw [h1] at g1;injection g1 with g1
      injection g1 with g1 g1'
      subst g1 g1';have hlu:=Q6 g2;have hcl : (cut us i (k * sz)).length = k * sz:=by simp only [cut,List.length_take,List.length_drop];omega
      exact ⟨_,cut us i (k * sz),h2,XG (k * sz) (Yt i g2),.inr (XI hb),fun _=>rfl,fun w hw=>X6 hcl (ZE i (k * sz) (fun _=>rfl) g4 w hw),hcl⟩
    ·cases h
 ·rename_i m2 i q;obtain ⟨hb,h⟩:=QmC h;simp only [Prod.mk.injEq] at h;obtain ⟨rfl,rfl⟩:=h;obtain ⟨b,d,j,h1,h2⟩:=QfH hs hy;exact ⟨_,[],h2,rfl,.inr (XI hb),fun _=>rfl,fun w _=>X6 (news:=[]) (by simp) fun h=>absurd rfl h,by simp⟩
 ·rename_i l;cases hb : Q9 P xt && Nat.beq sz 1 with
  | false=>rw [hb] at h;cases h
  | true=>
   rw [hb] at h;simp only [cond_true,Option.some.injEq,Prod.mk.injEq] at h;obtain ⟨rfl,rfl⟩:=h;simp only [Bool.and_eq_true] at hb;have hk:=Nat.eq_of_beq_eq_true hb.2;subst hk;refine ⟨.string (bs l),_,Qh hs hy rfl,Qu3 l,.inl (X8 hb.1),fun _=>rfl,fun w _=>?_,by simp⟩;have hx : (bs l).extract 0 l.length = bs l:=(QgJ _).trans (congrArg bs (by rw [Lib.extract_data];simp));simp only [Builtin.firstCells,hx,Sem.run_pure];congr 1;simp [bs]
 ·cases h
theorem Qm6 {t xt e sz by' k c m p : Nat} {s y : Operand} {r : HB} {vy : Value} {cs : List Value} {q : Option Nat} (ho : o.op = .call { callee:=.builtin .append,args:=#[s,y],argTypes:=#[t,xt] }) (hs : SR ρ L L') (hH : HM ρ H As) (hf : QO ρ n) (hx : opd L s = some (.slice (some ⟨p,0,q⟩) k c)) (hy : opd L y = some vy) (ht : tsl P t = some (e,sz,by'))
  (hsrc : QjI P H xt sz vy = some (m,cs)) (hg : Yq H p = some r) (hfit : k + m ≤ c) (hr : k * sz + cs.length ≤ r.cs.length) : OpT P o L' (HS w0 [] As) (Out w0 ρ (.slice (some ⟨p,0,q⟩) (k + m) c) (X5 H p { r with cs:=Qd r.cs (k * sz) cs }) n):=by
 obtain ⟨uy,us,h1,h2,h3⟩:=Ql2 (w0:=w0) hs hH hy hsrc;obtain ⟨b,d,rs,Rs,g1,g2,g3,g4,g5,_⟩:=X3 hH hg;have X5:=X1 (k * sz) g2 h2;obtain ⟨As2,g6,g7⟩:=g5 { r with cs:=Qd r.cs (k * sz) cs } _ X5 (by unfold room at *;simpa [Qg] using g3);have hev : ∃ c',c ≤ c' ∧ ev L' s = some (.slice (some ⟨b,0,none⟩) k c') ∧ den ρ (.slice (some ⟨p,0,q⟩) (k + m) c) = some (.slice (some ⟨b,0,none⟩) (k + m) c'):=by cases q <;> grind [XT,den,Xr,QP,XJ,Yo]
 obtain ⟨c',hc,e1,e2⟩:=hev;have hlr:=Q6 g2;have hlu:=Q6 h2;refine ⟨Unit,fun _=>.slice (some ⟨b,0,none⟩) (k + m) c',fun _=>True,fun _=>HS w0 [] (.blk b r.ty (rs.length + d * r.sz) (Qd rs (k * sz) us) :: Rs),?_,fun _ _=>⟨ρ,As2,ρ.le_refl,hf,e2,g6,fun w hw=>?_⟩⟩
 ·intro a w hρ hw;obtain ⟨hu,inf,hi,hs1,hs2⟩:=QV ht;subst hs1;have hpk:=hw.pick g4;obtain ⟨w',hst,hb,r1,r2,r3,r4,r5⟩:=Xs (P:=P) us 0 rs w hpk.head (by rw [Nat.add_zero,hlr,hlu];exact hr) (fun u hu=>List.all_eq_true.1 (YL h2) u hu) (i:=k * inf.size);have he:=QfU (P:=P) (ty:=o.type) (x:=uy) (w':=w') (g:=b) (n:=k) (m:=m) (cap:=c') (t:=t) (xt:=xt) hu h3.ty hi (h3.lenOf w) (h3.cells w hw) (by rw [Xo,Nat.zero_add];exact hst) (by omega);simp only [execOp,ho,resolve,Sem.run_bind,Sem.run_pure,Result.andThen_ok,invoke,builtin,List.map_toArray,List.map_cons,List.map_nil,hρ _ _ e1,hρ _ _ h1,he];exact ⟨(),rfl,trivial,HS.swap hpk (B:=.blk b r.ty (rs.length + d * r.sz) (Qd rs (k * inf.size) us)) (fun _ h=>h) r1 r2 r3 r4 (fun k hk=>r5 k (by simpa [HA.fp_blk] using hk)) (show QQ b _ _ (Qd rs (k * inf.size) us) w' by simpa using hb)⟩
 ·have : HS w0 [] (.blk b r.ty ((Qd rs (k * sz) us).length + d * r.sz) (Qd rs (k * sz) us) :: Rs) w:=by rw [Qg];exact hw
  exact this.perm g7
theorem Qd9 {t xt e sz by' k m : Nat} {s y : Operand} {v uy : Value} {z xs us : List Value} {Rs : List HA} (ho : o.op = .call { callee:=.builtin .append,args:=#[s,y],argTypes:=#[t,xt] }) (hv : ev L' s = some v) (hy : ev L' y = some uy) (ht : tsl P t = some (e,sz,by')) (hz : QM P e = some z) (hzs : z.length = sz)
  (hcls : ∀ w,HS w0 [] As w → HS w0 [] (.own v e sz k xs :: Rs) w) (h3 : SrcOk P w0 As xt sz uy m us) (h1 : us.all (·.oneCell') = true) (hroom : (k + m) * by' ≤ 140737488355328) (hmax : k + m ≤ maxLen) (hpos : 0 < k + m) :
  OpH P o L' (HS w0 [] As) (fun g : Nat × Nat=>.slice (some ⟨g.1,0,none⟩) (k + m) g.2) (fun g=>k + m ≤ g.2 ∧ g.2 ≤ maxLen ∧ (xs ++ us).length = (k + m) * sz) (fun g=>HS w0 [] (.blk g.1 e (g.2 * sz) (xs ++ us) :: Rs)):=by
 intro a w hρ hw;obtain ⟨v',w',hr,hw'⟩:=QfC (P:=P) (ty:=o.type) ht h3.ty hz hzs (hcls w hw) .here (x:=uy) (h3.lenOf w) (h3.cells w hw) (h3.cells _ hw.drew) h3.len (fun u hu=>List.all_eq_true.1 h1 u hu) hroom hmax;simp only [execOp,ho,resolve,Sem.run_bind,Sem.run_pure,Result.andThen_ok,invoke,builtin,List.map_toArray,List.map_cons,List.map_nil,hρ _ _ hv,hρ _ _ hy,hr];obtain ⟨a',cap',rfl,_⟩:=hw'.head.form;obtain ⟨g,rfl,_,h4,h5,h6,h7⟩:=hw'.own_blk hpos .here;exact ⟨(g,cap'),rfl,⟨h4,h5,h6⟩,h7⟩
theorem Qde {Rs : List HA} {H' : Hp} {e sz k m : Nat} {cs xs : List Value} {g : Nat × Nat} (hH : ∃ As3,HM ρ H' As3 ∧ Rs.Perm As3) (hf : QO ρ n) (hc : Qu (QP ρ) cs = some xs) (h1 : k + m ≤ g.2) (h2 : g.2 ≤ maxLen) (h3 : xs.length = (k + m) * sz) :
  Out w0 ρ (.slice (some ⟨n,0,none⟩) (k + m) (k + m)) (X5 H' n ⟨e,sz,cs⟩) (n + 1) (.slice (some ⟨g.1,0,none⟩) (k + m) g.2) (HS w0 [] (.blk g.1 e (g.2 * sz) xs :: Rs)):=by
 obtain ⟨As3,h4,h5⟩:=hH;have hl:=Q6 hc;have hsum : (k + m) * sz + (g.2 - (k + m)) * sz = g.2 * sz:=by rw [← Nat.add_mul];congr 1;omega
 refine QaF (b:=g.1) (d:=g.2 - (k + m)) h4 hf hc (.inr ?_) (by rw [Qe6,show k + m + (g.2 - (k + m)) = g.2 by omega]) fun w hw=>?_
 ·simp only [];rw [← hl,h3,hsum];exact Nat.mul_le_mul_right _ h2
 ·simp only [];rw [h3,hsum];exact hw.perm (h5.cons _)
theorem Qm3 {t xt e sz by' k c m p : Nat} {s y : Operand} {r : HB} {vy : Value} {z cs : List Value} (ho : o.op = .call { callee:=.builtin .append,args:=#[s,y],argTypes:=#[t,xt] }) (hs : SR ρ L L') (hH : HM ρ H As) (hf : QO ρ n) (hx : opd L s = some (.slice (some ⟨p,0,none⟩) k c)) (hy : opd L y = some vy) (ht : tsl P t = some (e,sz,by')) (hz : QM P e = some z) (hzs : z.length = sz)
  (hsrc : QjI P H xt sz vy = some (m,cs)) (hg : Yq H p = some r) (hty : r.ty = e) (hsz : r.sz = sz) (hlen : r.cs.length = c * sz) (hsz0 : 0 < sz) (hkc : k ≤ c) (hcm : c ≤ maxLen) (hroom : (k + m) * by' ≤ 140737488355328) (hmax : k + m ≤ maxLen) (hpos : 0 < k + m) :
  OpT P o L' (HS w0 [] As) (Out w0 ρ (.slice (some ⟨n,0,none⟩) (k + m) (k + m)) (X5 (Qhv H p) n ⟨e,sz,r.cs.take (k * sz) ++ cs⟩) (n + 1)):=by
 obtain ⟨uy,us,h1,h2,h3⟩:=Ql2 (w0:=w0) hs hH hy hsrc;obtain ⟨b,d,rs,Rs,g1,g2,g3,g4,_,g6⟩:=X3 hH hg;obtain ⟨b9,d9,e1,e2⟩:=XT hs hx;rw [g1] at e1;injection e1 with e1
 injection e1 with e1 e3
 subst e1 e3;have hlr:=Q6 g2
 have hcd : c + d ≤ maxLen:=by
  unfold room at g3;rcases g3 with g3 | g3
  ·omega
  ·rw [hlen,hsz,← Nat.add_mul] at g3;exact Nat.le_of_mul_le_mul_right g3 hsz0
 have htot : rs.length + d * r.sz = (c + d) * sz:=by rw [hlr,hlen,hsz,Nat.add_mul]
 rw [hty,htot] at g4;have hH4:=Qd9 (w0:=w0) (As:=As) (xs:=rs.take (k * sz)) (Rs:=Rs) (k:=k) ho e2 h1 ht hz hzs (fun w hw=>HS.to_own g4 hw (List.take_append_drop (k * sz) rs).symm (by rw [List.length_take,hlr,hlen];exact Nat.min_eq_left (Nat.mul_le_mul_right _ hkc)) (by omega) hcd) h3 (YL h2) hroom hmax hpos;exact ⟨_,_,_,_,hH4,fun g hg4=>Qde g6 hf (Ze (XG (k * sz) g2) h2) hg4.1 hg4.2.1 hg4.2.2⟩
theorem QmS {t xt e sz by' m : Nat} {s y : Operand} {vy : Value} {z cs : List Value} (ho : o.op = .call { callee:=.builtin .append,args:=#[s,y],argTypes:=#[t,xt] }) (hs : SR ρ L L') (hH : HM ρ H As) (hf : QO ρ n) (hx : opd L s = some (.slice none 0 0)) (hy : opd L y = some vy) (ht : tsl P t = some (e,sz,by')) (hz : QM P e = some z) (hzs : z.length = sz)
  (hsrc : QjI P H xt sz vy = some (m,cs)) (hroom : (0 + m) * by' ≤ 140737488355328) (hmax : 0 + m ≤ maxLen) (hpos : 0 < 0 + m) :
  OpT P o L' (HS w0 [] As) (Out w0 ρ (.slice (some ⟨n,0,none⟩) (0 + m) (0 + m)) (X5 H n ⟨e,sz,[] ++ cs⟩) (n + 1)):=by
 obtain ⟨uy,us,h1,h2,h3⟩:=Ql2 (w0:=w0) hs hH hy hsrc;have hH4:=Qd9 (w0:=w0) (As:=As) (xs:=[]) (Rs:=As) (k:=0) ho (Qh hs hx rfl) h1 ht hz hzs (fun w hw=>hw.own_nil e sz) h3 (YL h2) hroom hmax hpos;exact ⟨_,_,_,_,hH4,fun g hg4=>Qde ⟨As,hH,.refl _⟩ hf (Ze (by rfl) h2) hg4.1 hg4.2.1 hg4.2.2⟩
theorem QmM {t xt e sz by' : Nat} {s y : Operand} {vy : Value} {cs : List Value} (ho : o.op = .call { callee:=.builtin .append,args:=#[s,y],argTypes:=#[t,xt] }) (hs : SR ρ L L') (hH : HM ρ H As) (hf : QO ρ n) (hx : opd L s = some (.slice none 0 0)) (hy : opd L y = some vy) (ht : tsl P t = some (e,sz,by'))
  (hsrc : QjI P H xt sz vy = some (0,cs)) : OpT P o L' (HS w0 [] As) (Out w0 ρ (.slice none 0 0) H n):=by
 obtain ⟨uy,us,h1,h2,h3⟩:=Ql2 (w0:=w0) hs hH hy hsrc;refine ⟨Unit,fun _=>.slice none 0 0,fun _=>True,fun _=>HS w0 [] As,?_,fun _ _=>⟨ρ,As,ρ.le_refl,hf,rfl,hH,fun _ h=>h⟩⟩;intro a w hρ hw;obtain ⟨hu,inf,hi,hs1,hs2⟩:=QV ht;subst hs1;have hu0 : us = []:=List.eq_nil_of_length_eq_zero (by have:=h3.len;omega);subst hu0;have he:=QfY (P:=P) (ty:=o.type) (t:=t) (xt:=xt) (x:=uy) (w:=w) hu h3.ty hi (h3.lenOf w) (h3.cells w hw);simp only [execOp,ho,resolve,Sem.run_bind,Sem.run_pure,Result.andThen_ok,invoke,builtin,List.map_toArray,List.map_cons,List.map_nil,hρ _ _ (Qh hs hx rfl),hρ _ _ h1,he];exact ⟨(),rfl,trivial,hw⟩
end
end Ev
namespace Ev
open Go Go.RowKit
section
variable {P : Program} {o : Oper} {L' : Qb} {w0 : World} {ρ : Rho} {L : Env} {H : Hp} {n : Nat} {As : List HA}
theorem Qo2 {cs us : List Value} (h : Xd cs = true) (e : Qu (QP ρ) cs = some us) : us = cs:=by grind [XQ]
theorem QdN {x : Operand} {p i l c : Nat} {q : Option Nat} (hs : SR ρ L L') (h : opd L x = some (.slice (some ⟨p,i,q⟩) l c)) : ∃ b d c',ρ p = some (b,d) ∧ ev L' x = some (.slice (some ⟨b,i,none⟩) l c'):=by cases q <;> grind [XT,Yo]
theorem Qme {src dst e p i k c : Nat} {x : Operand} {q : Option Nat} {r : HB} (ho : o.op = .convert src dst x) (hs : SR ρ L L') (hH : HM ρ H As) (hx : opd L x = some (.slice (some ⟨p,i,q⟩) k c)) (h1 : P.underlying src = some (.slice e)) (h2 : Q9 P dst = true) (h3 : P.underlying e = some (.int .u8)) (hg : Yq H p = some r) (hl : i + k ≤ r.cs.length)
  (h8 : (cut r.cs i k).all QgY = true) (hf : Xd (cut r.cs i k) = true) : ∃ u,OpQ P o L' (HS w0 [] As) u ∧ den ρ (.string (bs ((cut r.cs i k).map Qa6))) = some u:=by
 obtain ⟨b,d,us,Rs,g1,g2,g3,g4,_,_⟩:=X3 hH hg;obtain ⟨b9,d9,c',e1,e2⟩:=QdN hs hx;rw [g1] at e1;injection e1 with e1
 injection e1 with e1 e3
 subst e1 e3;have hc : Qu (QP ρ) (cut r.cs i k) = some (cut us i k):=XG k (Yt i g2);have he:=Qo2 hf hc;have hlen : (cut r.cs i k).length = k:=by simp only [cut,List.length_take,List.length_drop];omega
 refine ⟨_,?_,rfl⟩;intro a w hρ hw
 have hr : (convert src dst (.slice (some ⟨b,i,none⟩) (cut r.cs i k).length c')).run P w = .ok (.string (bs ((cut r.cs i k).map Qa6))) w:=
  Yi h1 (X8 h2) h3 (fun v hv=>List.all_eq_true.1 h8 v hv) (by rw [← he];exact ZE i k (fun _=>rfl) g4 w hw)
 rw [hlen] at hr;simp only [execOp,ho,Sem.run_bind,hρ _ _ e2,hr,Result.andThen_ok,Sem.run_pure];exact ⟨rfl,Below.refl _ _⟩
theorem QmF {src dst e k c : Nat} {x : Operand} (ho : o.op = .convert src dst x) (hs : SR ρ L L') (hx : opd L x = some (.slice none 0 c)) (h1 : P.underlying src = some (.slice e)) (h2 : Q9 P dst = true) (h3 : P.underlying e = some (.int .u8)) : ∃ u,OpQ P o L' (HS w0 [] As) u ∧ den ρ (.string (bs [])) = some u:=by
 refine ⟨_,?_,rfl⟩;intro a w hρ hw
 have hr : (convert src dst (.slice none ([] : List Value).length c)).run P w = .ok (.string (bs (([] : List Value).map Qa6))) w:=
  Yi h1 (X8 h2) h3 (fun v hv=>by cases hv) (fun h=>absurd rfl h)
 simp only [execOp,ho,Sem.run_bind,hρ _ _ (Qh hs hx rfl),show (0 : Nat) = ([] : List Value).length from rfl,hr,Result.andThen_ok,Sem.run_pure];exact ⟨rfl,Below.refl _ _⟩
theorem Qni {src dst e p i q : Nat} {x : Operand} (ho : o.op = .convert src dst x) (hs : SR ρ L L') (hx : opd L x = some (.pointer (some ⟨p,i,some q⟩))) (h1 : P.underlying src = some (.slice e)) (h2 : Q9 P dst = true) (h3 : P.underlying e = some (.int .u8)) : ∃ u,OpQ P o L' (HS w0 [] As) u ∧ den ρ (.string (bs [])) = some u:=by
 obtain ⟨b,d,j,_,h4⟩:=QfH hs hx;exact ⟨_,QeW [] ho h4 h1 (X8 h2) h3 rfl (fun _ _ h=>absurd h (Nat.lt_irrefl 0)),rfl⟩
theorem Qna {t xt e sz by' m : Nat} {s y : Operand} {z : List Value} (ho : o.op = .call { callee:=.builtin .append,args:=#[s,y],argTypes:=#[t,xt] }) (hs : SR ρ L L') (hH : HM ρ H As) (hf : QO ρ n) (hx : opd L s = some (.slice none 0 0)) (hy : opd L y = some (.int .i64 (m : Int))) (hk : tki P xt = some .i64) (ht : tsl P t = some (e,sz,by')) (hz : QM P e = some z) (hzs : z.length = sz) (hsz : 0 < sz)
  (hfz : Xd (Xw z (m * sz)) = true) (hroom : (0 + m) * by' ≤ 140737488355328) (hmax : 0 + m ≤ maxLen) (hpos : 0 < m) : OpT P o L' (HS w0 [] As) (Out w0 ρ (.slice (some ⟨n,0,none⟩) (0 + m) (0 + m)) (X5 H n ⟨e,sz,[] ++ Xw z (m * sz)⟩) (n + 1)):=by
 exact ⟨_,_,_,_,ZV (olds:=[]) ho (Qh hs hx rfl) (Qh hs hy rfl) ht hk hz hzs hsz hpos (by omega) (fun w _ h=>absurd rfl h) (by simp) hroom hmax,fun g hg=>Qde ⟨As,hH,.refl _⟩ hf (Ze (by rfl) (XQ hfz)) hg.1 hg.2 (by rw [List.nil_append,Qx,Nat.zero_add])⟩
theorem Qs6 {dt st e sz by' p i k c p2 i2 k2 c2 : Nat} {d s : Operand} {q q2 : Option Nat} {r r2 : HB} (ho : o.op = .call { callee:=.builtin .copy,args:=#[d,s],argTypes:=#[dt,st] }) (hs : SR ρ L L') (hH : HM ρ H As) (hf : QO ρ n) (hd : opd L d = some (.slice (some ⟨p,i,q⟩) k c)) (hx : opd L s = some (.slice (some ⟨p2,i2,q2⟩) k2 c2)) (ht : tsl P dt = some (e,sz,by'))
  (hg : Yq H p = some r) (hg2 : Yq H p2 = some r2) (hl : i + min k2 k * sz ≤ r.cs.length) (hl2 : i2 + min k2 k * sz ≤ r2.cs.length) : OpT P o L' (HS w0 [] As) (Out w0 ρ (.int .i64 ((min k2 k : Nat) : Int)) (X5 H p { r with cs:=Qd r.cs i (cut r2.cs i2 (min k2 k * sz)) }) n):=by
 obtain ⟨b,dd,us,Rs,g1,g2,g3,g4,g5,_⟩:=X3 hH hg;obtain ⟨b2,dd2,us2,Rs2,m1,m2,m3,m4,_,_⟩:=X3 hH hg2;obtain ⟨b9,d9,c',e1,e2⟩:=QdN hs hd;rw [g1] at e1;injection e1 with e1
 injection e1 with e1 e3
 subst e1 e3;obtain ⟨b8,d8,c8,f1,f2⟩:=QdN hs hx;rw [m1] at f1;injection f1 with f1
 injection f1 with f1 f3
 subst f1 f3;have hc : Qu (QP ρ) (cut r2.cs i2 (min k2 k * sz)) = some (cut us2 i2 (min k2 k * sz)):=XG _ (Yt i2 m2);have hlu:=Q6 g2;have hlu2:=Q6 m2;have hcl : (cut us2 i2 (min k2 k * sz)).length = min k2 k * sz:=by simp only [cut,List.length_take,List.length_drop];omega
 obtain ⟨As2,g6,g7⟩:=g5 { r with cs:=Qd r.cs i (cut r2.cs i2 (min k2 k * sz)) } _ (X1 i g2 hc) (by unfold room at *;simpa [Qg] using g3);have hS:=QaT (w0:=w0) (M:=[]) (As:=As) (As':=.blk b r.ty (us.length + dd * r.sz) (Qd us i (cut us2 i2 (min k2 k * sz))) :: Rs) (min k2 k) (cut us2 i2 (min k2 k * sz)) ho e2 f2 ht ⟨Rs,g4,.refl _⟩ rfl hcl (fun _=>rfl) (by rw [hcl,hlu];exact hl) (ZE i2 _ (fun _=>rfl) m4) (fun u hu=>List.all_eq_true.1 (YL hc) u hu);refine ⟨_,_,_,_,hS,fun _ _=>⟨ρ,As2,ρ.le_refl,hf,rfl,g6,fun w hw=>?_⟩⟩;have : HS w0 [] (.blk b r.ty ((Qd us i (cut us2 i2 (min k2 k * sz))).length + dd * r.sz) (Qd us i (cut us2 i2 (min k2 k * sz))) :: Rs) w:=by rw [Qg];exact hw
 exact this.perm g7
theorem QqS {src e p i k c : Nat} {x : Operand} {r : HB} (ho : o.op = .convert src src x) (hs : SR ρ L L') (hH : HM ρ H As) (hf : QO ρ n) (hx : opd L x = some (.slice (some ⟨p,i,none⟩) k c)) (h1 : P.underlying src = some (.slice e)) (h3 : P.underlying e = some (.int .u8)) (hg : Yq H p = some r) (ht : r.ty = u8T) :
  OpT P o L' (HS w0 [] As) (Out w0 ρ (.slice (some ⟨p,i,none⟩) k c) H n):=by
 obtain ⟨b,dd,us,Rs,g1,g2,g3,g4,g5,_⟩:=X3 hH hg;obtain ⟨b9,d9,e1,e2⟩:=XT hs hx;rw [g1] at e1;injection e1 with e1
 injection e1 with e1 e3
 subst e1 e3;rw [ht] at g4;have hS:=Qkp (w0:=w0) (M:=[]) (As:=As) (As':=.blk b u8T (us.length + dd * r.sz) us :: Rs) ho e2 h1 h3 ⟨Rs,g4,.refl _⟩;refine ⟨_,_,_,_,hS,fun _ _=>⟨ρ,As,ρ.le_refl,hf,?_,hH,fun w hw=>hw.perm g4.symm⟩⟩;simp only [den,Xr,QP,XJ,g1]
theorem Qr2 {dt st e by' m cd b tot i : Nat} {d s : Operand} {bt : TypeId} {cs news : List Value} {l : List UInt8} {As As' : List HA} (k : Nat) (ho : o.op = .call { callee:=.builtin .copy,args:=#[d,s],argTypes:=#[dt,st] }) (hd : Gx.ev L' d = some (.slice (some ⟨b,i,none⟩) m cd)) (hx : Gx.ev L' s = some (.string (bs l))) (ht : tsl P dt = some (e,1,by'))
  (hnw : news = (l.take k).map fun b=>Value.int .u8 (b.toNat : Int)) (hp : Put As (.blk b bt tot cs) (.blk b bt tot (Qd cs i news)) As') (hk : min l.length m = k) (hr : i + k ≤ cs.length) :
  OpH P o L' (HS w0 [] As) (fun _ : Unit=>.int .i64 (k : Int)) (fun _=>True) (fun _=>HS w0 [] As'):=by
 intro ρ w hρ hw;obtain ⟨hu,inf,hi,hs1,hs2⟩:=QV ht;have hl : news.length = k:=by rw [hnw,List.length_map,List.length_take];omega
 have hsz : (Go.sizeOf e).run P w = .ok 1 w:=by simp [Go.sizeOf,typeInfo,hi,hs1]
 have hfc : (Builtin.firstCells 1 k (.string (bs l))).run P w = .ok news.toArray w:=by
  have hx : (bs l).extract 0 k = bs (l.take k):=(QgJ _).trans (congrArg bs (by rw [Lib.extract_data];simp));simp only [Builtin.firstCells,hx,Sem.run_pure,hnw];congr 1;simp [bs]
 have hbl : (bs l).size = l.length:=rfl;have hk' : Nat.min l.length m = k:=hk;obtain ⟨Rs,h3,h4⟩:=hp.ex;have hpk:=hw.pick h3;obtain ⟨w',hst,hb,r1,r2,r3,r4,r5⟩:=Xs (P:=P) news 0 cs w hpk.head (by simpa [hl] using hr) (fun u hu=>by rw [hnw] at hu;obtain ⟨b,_,rfl⟩:=List.mem_map.1 hu;rfl) (i:=i)
 have he : (Builtin.copy_ #[dt,st] o.type #[.slice (some ⟨b,i,none⟩) m cd,.string (bs l)]).run P w = .ok (.int .i64 (k : Int)) w':=by
  unfold Builtin.copy_;simp [run_underlying hu,Builtin.lenOf,hbl,hk',hsz,hfc,goInt,hst]
 simp only [execOp,ho,resolve,Sem.run_bind,Sem.run_pure,Result.andThen_ok,invoke,builtin,List.map_toArray,List.map_cons,List.map_nil,hρ _ _ hd,hρ _ _ hx,he];exact ⟨(),rfl,trivial,(HS.swap hpk (B:=.blk b bt tot (Qd cs i news)) (fun _ h=>h) r1 r2 r3 r4 (fun k hk=>r5 k (by simpa [HA.fp_blk] using hk)) (show QQ b bt tot (Qd cs i news) w' by simpa using hb)).perm h4⟩
theorem Qq4 {dt st e by' p i k c : Nat} {d s : Operand} {q : Option Nat} {r : HB} {l : List UInt8} (ho : o.op = .call { callee:=.builtin .copy,args:=#[d,s],argTypes:=#[dt,st] }) (hs : SR ρ L L') (hH : HM ρ H As) (hf : QO ρ n) (hd : opd L d = some (.slice (some ⟨p,i,q⟩) k c)) (hx : opd L s = some (.string (bs l))) (ht : tsl P dt = some (e,1,by'))
  (hg : Yq H p = some r) (hl : i + min l.length k ≤ r.cs.length) : OpT P o L' (HS w0 [] As) (Out w0 ρ (.int .i64 ((min l.length k : Nat) : Int)) (X5 H p { r with cs:=Qd r.cs i ((l.take (min l.length k)).map fun b=>Value.int .u8 (b.toNat : Int)) }) n):=by
 obtain ⟨b,dd,us,Rs,g1,g2,g3,g4,g5,_⟩:=X3 hH hg;obtain ⟨b9,d9,c',e1,e2⟩:=QdN hs hd;rw [g1] at e1;injection e1 with e1
 injection e1 with e1 e3
 subst e1 e3
 have hfl : Xd ((l.take (min l.length k)).map fun b=>Value.int .u8 (b.toNat : Int)) = true:=by
  unfold Xd;rw [List.all_map];exact List.all_eq_true.2 fun _ _=>rfl
 have hlu:=Q6 g2;obtain ⟨As2,g6,g7⟩:=g5 { r with cs:=Qd r.cs i ((l.take (min l.length k)).map fun b=>Value.int .u8 (b.toNat : Int)) } _ (X1 i g2 (XQ hfl)) (by unfold room at *;simpa [Qg] using g3);have hS:=Qr2 (w0:=w0) (As:=As) (As':=.blk b r.ty (us.length + dd * r.sz) (Qd us i ((l.take (min l.length k)).map fun b=>Value.int .u8 (b.toNat : Int))) :: Rs) (min l.length k) ho e2 (Qh hs hx rfl) ht rfl ⟨Rs,g4,.refl _⟩ rfl (by rw [hlu];exact hl);refine ⟨_,_,_,_,hS,fun _ _=>⟨ρ,As2,ρ.le_refl,hf,rfl,g6,fun w hw=>?_⟩⟩;have : HS w0 [] (.blk b r.ty ((Qd us i ((l.take (min l.length k)).map fun b=>Value.int .u8 (b.toNat : Int))).length + dd * r.sz) (Qd us i ((l.take (min l.length k)).map fun b=>Value.int .u8 (b.toNat : Int))) :: Rs) w:=by rw [Qg];exact hw
 exact this.perm g7
theorem Qqy {t e sz by' p i k c : Nat} {x : Operand} {q : Option Nat} {r : HB} {z : List Value} (ho : o.op = .call { callee:=.builtin .clear,args:=#[x],argTypes:=#[t] }) (hs : SR ρ L L') (hH : HM ρ H As) (hf : QO ρ n) (hx : opd L x = some (.slice (some ⟨p,i,q⟩) k c)) (ht : tsl P t = some (e,sz,by')) (hz : QM P e = some z) (hzs : z.length = sz) (hz1 : z.all (·.oneCell') = true) (hz0 : Nat.blt 0 z.length = true) (hfz : Xd (Xw z (k * sz)) = true)
  (hg : Yq H p = some r) (hl : i + k * sz ≤ r.cs.length) : OpT P o L' (HS w0 [] As) (Out w0 ρ (.tuple #[]) (X5 H p { r with cs:=Qd r.cs i (Xw z (k * sz)) }) n):=by
 obtain ⟨b,dd,us,Rs,g1,g2,g3,g4,g5,_⟩:=X3 hH hg;obtain ⟨b9,d9,c',e1,e2⟩:=QdN hs hx;rw [g1] at e1;injection e1 with e1
 injection e1 with e1 e3
 subst e1 e3;have hlu:=Q6 g2;obtain ⟨As2,g6,g7⟩:=g5 { r with cs:=Qd r.cs i (Xw z (k * sz)) } _ (X1 i g2 (XQ hfz)) (by unfold room at *;simpa [Qg] using g3);have hS:=Qlw (w0:=w0) (M:=[]) (As:=As) (As':=.blk b r.ty (us.length + dd * r.sz) (Qd us i (Xw z (k * sz))) :: Rs) ho e2 ht hz hzs hz1 (by intro h;rw [h] at hz0;cases hz0) ⟨Rs,g4,.refl _⟩ (fun _=>rfl) (by rw [hlu];exact hl);refine ⟨_,_,_,_,hS,fun _ _=>⟨ρ,As2,ρ.le_refl,hf,rfl,g6,fun w hw=>?_⟩⟩;have : HS w0 [] (.blk b r.ty ((Qd us i (Xw z (k * sz))).length + dd * r.sz) (Qd us i (Xw z (k * sz))) :: Rs) w:=by rw [Qg];exact hw
 exact this.perm g7
theorem Qtt {t : TypeId} {x : Operand} {l : List UInt8} (ho : o.op = .call { callee:=.builtin .len,args:=#[x],argTypes:=#[t] }) (hs : SR ρ L L') (hx : opd L x = some (.string ⟨⟨l⟩⟩)) (h : Q9 P t = true) : ∃ u,OpP P o L' u ∧ den ρ (.int .i64 (l.length : Int)) = some u:=
 ⟨_,Qf ho (Qh hs hx rfl) (X8 h),rfl⟩
theorem Qt0 {t : TypeId} {x : Operand} {a : Option Addr} {k c : Nat} (ho : o.op = .call { callee:=.builtin .len,args:=#[x],argTypes:=#[t] }) (hs : SR ρ L L') (hx : opd L x = some (.slice a k c)) (h : Xc P t = true) : ∃ u,OpP P o L' u ∧ den ρ (.int .i64 (k : Int)) = some u:=by
 obtain ⟨e,he⟩:=XI h;rcases a with _ | ⟨p,i,q⟩
 ·exact ⟨_,Xk ho (Qh hs hx rfl) he,rfl⟩
 ·obtain ⟨b,d,c',h1,h2⟩:=QdN hs hx;exact ⟨_,Xk ho h2 he,rfl⟩
theorem Qth {t : TypeId} {x : Operand} {p i q : Nat} (ho : o.op = .call { callee:=.builtin .len,args:=#[x],argTypes:=#[t] }) (hs : SR ρ L L') (hx : opd L x = some (.pointer (some ⟨p,i,some q⟩))) (h : Xc P t = true) : ∃ u,OpP P o L' u ∧ den ρ (.int .i64 0) = some u:=by
 obtain ⟨e,he⟩:=XI h;obtain ⟨b,d,j,h1,h2⟩:=QfH hs hx;exact ⟨_,Xk ho h2 he,rfl⟩
theorem Qtm {t : TypeId} {x : Operand} {k c : Nat} (ho : o.op = .call { callee:=.builtin .cap,args:=#[x],argTypes:=#[t] }) (hs : SR ρ L L') (hx : opd L x = some (.slice none k c)) (h : Xc P t = true) : ∃ u,OpP P o L' u ∧ den ρ (.int .i64 (c : Int)) = some u:=by
 obtain ⟨e,he⟩:=XI h;exact ⟨_,QoC ho (Qh hs hx rfl) he,rfl⟩
theorem QtX {x y : Operand} {k k' : IntKind} {a b : Int} {ts : Array TypeId} (ho : o.op = .call { callee:=.builtin .min,args:=#[x,y],argTypes:=ts }) (hs : SR ρ L L') (hx : opd L x = some (.int k a)) (hy : opd L y = some (.int k' b)) (hk : kEq k k' = true) : ∃ u,OpP P o L' u ∧ den ρ (.int k (if b < a then b else a)) = some u:=by
 obtain rfl:=Qbr hk;exact ⟨_,QpO ho (Qh hs hx rfl) (Qh hs hy rfl),rfl⟩
theorem QtY {x y : Operand} {k k' : IntKind} {a b : Int} {ts : Array TypeId} (ho : o.op = .call { callee:=.builtin .max,args:=#[x,y],argTypes:=ts }) (hs : SR ρ L L') (hx : opd L x = some (.int k a)) (hy : opd L y = some (.int k' b)) (hk : kEq k k' = true) : ∃ u,OpP P o L' u ∧ den ρ (.int k (if b > a then b else a)) = some u:=by
 obtain rfl:=Qbr hk;exact ⟨_,QkH ho (Qh hs hx rfl) (Qh hs hy rfl),rfl⟩
end
end Ev
namespace Ev
open Go Go.RowKit
inductive Ans where
 | p (v : Value)
 | q (v : Value)
 | h (v : Value) (H : Hp) (n : Nat)
def Qda : Option Value → Option Ans
 | some v=>some (.p v)
 | none=>none
abbrev Qis:=FuncId → List Value → Hp → Nat → Option (Value × Hp × Nat)
abbrev Qnn:=Nat → List Value → Hp → Nat → Option (Value × Hp × Nat)
structure CallF where
 f : Qnn → Qis
 e : FuncId → List Value → Option Value
 y : Qnn
noncomputable section
variable (P : Program) (L : Env) (H : Hp) (n : Nat)
def Qe5 (st f : Nat) : Option Value → Option Value
 | some (.agg cs)=>match tfd P st f with
  | some (off,ft)=>match tsz P ft with
   | some (k,ag)=>if ag then some (.agg (cut cs.toList off k).toArray) else cs.toList[off]?
   | none=>none
  | none=>none
 | _=>none
def QfB (t : Nat) : Option Value → Option Nat → Option Value
 | some (.string ⟨⟨l⟩⟩),some j=>bif Q9 P t && Nat.blt j l.length then some (.int .u8 ((l.getD j 0).toNat : Int)) else none
 | some (.agg cs),some j=>match tar P t with
  | some (len,e,sz)=>match tsz P e with
   | some (k,ag)=>bif Nat.blt j len then (if ag then some (.agg (cut cs.toList (j * sz) k).toArray) else cs.toList[j * sz]?) else none
   | none=>none
  | none=>none
 | _,_=>none
def QjR (t : Nat) (lo hi : Option Operand) : Option Value → Option Value
 | some (.string ⟨⟨l⟩⟩)=>match loN L lo,hiN L l.length hi with
  | some a,some b=>bif Q9 P t && (Nat.ble a b && Nat.ble b l.length) then some (.string (bs ((l.take b).drop a))) else none
  | _,_=>none
 | some (.slice (some ⟨m,off,none⟩) l c)=>match tsl P t,loN L lo,hiN L l hi with
  | some (_,sz,_),some i,some j=>bif Nat.ble i j && (Nat.ble j c && (Nat.beq i 0 || Nat.blt i c)) then some (.slice (some ⟨m,off + i * sz,none⟩) (j - i) (c - i)) else (bif Nat.beq i c && Nat.beq j c then some (.pointer (some ⟨m,off,some (c * sz)⟩)) else none)
  | _,_,_=>none
 | some (.slice (some ⟨m,off,some q⟩) l c)=>match tsl P t,loN L lo,hiN L l hi with
  | some (_,sz,_),some i,some j=>bif Nat.ble i j && Nat.ble j c then some (.slice (some ⟨m,(if c = i then off else off + i * sz),some q⟩) (j - i) (c - i)) else none
  | _,_,_=>none
 | some (.slice none l c)=>match tsl P t,loN L lo,hiN L l hi with
  | some _,some i,some j=>bif Nat.ble i j && Nat.ble j c then some (.slice none (j - i) (c - i)) else none
  | _,_,_=>none
 | _=>none
def Qhx (t : Nat) (lo : Option Operand) (hi mx : Operand) : Option Value → Option Value
 | some (.slice (some ⟨m,off,_⟩) _ c)=>match tsl P t,loN L lo,vN (opd L hi),vN (opd L mx) with
  | some (_,sz,_),some i,some j,some k=>bif Nat.ble i j && (Nat.ble j k && Nat.ble k c) then some (.slice (some ⟨m,(if k = i then off else off + i * sz),some 0⟩) (j - i) (k - i)) else none
  | _,_,_,_=>none
 | some (.slice none _ c)=>match tsl P t,loN L lo,vN (opd L hi),vN (opd L mx) with
  | some _,some i,some j,some k=>bif Nat.ble i j && (Nat.ble j k && Nat.ble k c) then some (.slice none (j - i) (k - i)) else none
  | _,_,_,_=>none
 | _=>none
def QaP (st f : Nat) : Option Value → Option Value
 | some (.pointer (some ⟨m,i,none⟩))=>match tfd P st f with
  | some (off,ft)=>match tsz P ft with
   | some (sz,_)=>bif Nat.blt 0 sz then some (.pointer (some ⟨m,i + off,none⟩)) else none
   | none=>none
  | none=>none
 | _=>none
def ZN (t : Nat) : Option Value → Option Nat → Option Value
 | some (.slice (some ⟨m,off,_⟩) l _),some j=>match tsl P t with
  | some (_,sz,_)=>bif Nat.blt j l then some (.pointer (some ⟨m,off + j * sz,none⟩)) else none
  | none=>none
 | some (.pointer (some ⟨m,i,none⟩)),some j=>match tar P t with
  | some (len,_,sz)=>bif Nat.blt j len then some (.pointer (some ⟨m,i + j * sz,none⟩)) else none
  | none=>none
 | _,_=>none
def Qj0 (t : Nat) (parts : List (Nat × Operand)) : Option Value:=match Qdq L parts,QM P t with
 | some vs,some z=>bif Xd z then (match Zc P t with
  | some pl=>match Zh (fun i=>pl[i]?) z vs with
   | some cs=>some (.agg cs.toArray)
   | none=>none
  | none=>match tar P t with
   | some (_,_,sz)=>match Zh (fun i=>some (i * sz,sz)) z vs with
    | some cs=>some (.agg cs.toArray)
    | none=>none
   | none=>none) else none
 | _,_=>none
def Qf0 (t x : Nat) : Option Value:=match L x with
 | some (.pointer (some ⟨m,i,none⟩))=>match Yq H m,tsz P t with
  | some r,some (sz,ag)=>if ag then (bif Nat.ble (i + sz) r.cs.length then some (.agg (cut r.cs i sz).toArray) else none) else (bif Nat.beq sz 1 then r.cs[i]? else none)
  | _,_=>none
 | _=>none
def QhC (t x : Nat) (y : Operand) : Option Ans:=match L x,opd L y,tsz P t with
 | some (.pointer (some ⟨m,i,none⟩)),some v,some (sz,_)=>match Yq H m with
  | some r=>bif Zy v && (Nat.beq v.cells.toList.length sz && Nat.ble (i + sz) r.cs.length) then some (.h undef (X5 H m { r with cs:=Qd r.cs i v.cells.toList }) n) else none
  | none=>none
 | _,_,_=>none
def Qa9 (t : Nat) : Bool:=match P.underlying t with | some (.int .u8)=>true | _=>false
def Qf1 (src dst : Nat) : Option Value → Option Ans
 | some (.string ⟨⟨l⟩⟩)=>match P.underlying dst with
  | some (.slice e)=>bif Q9 P src && (Qa9 P e && (Nat.beq e u8T && Nat.ble l.length maxLen)) then some (.h (.slice (some ⟨n,0,none⟩) l.length l.length) (X5 H n ⟨e,1,l.map fun b=>.int .u8 (b.toNat : Int)⟩) (n + 1)) else none
  | _=>none
 | some (.slice none k c)=>match P.underlying src with
  | some (.slice e)=>bif Q9 P dst && (Qa9 P e && Nat.beq k 0) then some (.q (.string (bs []))) else none
  | _=>none
 | some (.slice (some ⟨p,i,q⟩) k c)=>match P.underlying src,Yq H p with
  | some (.slice e),some r=>bif Q9 P dst && (Qa9 P e && (Nat.ble (i + k) r.cs.length && ((cut r.cs i k).all QgY && Xd (cut r.cs i k)))) then some (.q (.string (bs ((cut r.cs i k).map Qa6)))) else (match q with
   | none=>bif Nat.beq src dst && (Qa9 P e && Nat.beq r.ty u8T) then some (.h (.slice (some ⟨p,i,none⟩) k c) H n) else none
   | _=>none)
  | _,_=>none
 | some (.pointer (some ⟨_,_,some _⟩))=>match P.underlying src with
  | some (.slice e)=>bif Q9 P dst && Qa9 P e then some (.q (.string (bs []))) else none
  | _=>none
 | _=>none
def QuA (t : Nat) : Option Ans:=match QM P t with
 | some z=>bif Xd z then some (.h (.pointer (some ⟨n,0,none⟩)) (X5 H n ⟨t,0,z⟩) (n + 1)) else none
 | none=>none
def QtT (t : Nat) : Option Value → Option Ans
 | some v=>bif Zy v then some (.h (.pointer (some ⟨n,0,none⟩)) (X5 H n ⟨t,0,v.cells.toList⟩) (n + 1)) else none
 | none=>none
def Qpr (z : List Value) (k : Nat) : List Value:=(List.range k).map fun i=>z.getD (i % z.length) default
def Zi (t len : Nat) (parts : List (Nat × Operand)) : Option Ans:=match Qdq L parts,tsl P t with
 | some vs,some (e,sz,_)=>match QM P e with
  | some z=>match Zh (fun i=>some (i * sz,sz)) (Qpr z (len * sz)) vs with
   | some cs=>bif Xd z && (Nat.ble (len * sz) 16777216 && (Nat.blt 0 (len * sz) && Xd (Qpr z (len * sz)))) then some (.h (.slice (some ⟨n,0,none⟩) len len) (X5 H n ⟨e,sz,cs⟩) (n + 1)) else none
   | none=>none
  | none=>none
 | _,_=>none
def Qa0 (t : Nat) (x y : Operand) : Option Ans:=match opd L x,opd L y,tsl P t with
 | some (.int .i64 (.ofNat k)),some (.int .i64 (.ofNat k')),some (e,sz,by')=>match QM P e with
  | some z=>bif Nat.ble k k' && (Nat.ble (k' * by') 281474976710656 && (Nat.ble k' 16777216 && Xd (Xw z (k' * sz)))) then some (.h (.slice (some ⟨n,0,none⟩) k k') (X5 H n ⟨e,sz,Xw z (k' * sz)⟩) (n + 1)) else none
  | none=>none
 | _,_,_=>none
def Qhy (t xt : Nat) (s y : Operand) : Option Ans:=match opd L s,opd L y,tsl P t with
 | some (.slice a k c),some vy,some (e,sz,by')=>match vy with
  | .int .i64 (.ofNat m)=>match a,QM P e with
   | none,some z=>bif (Nat.beq k 0 && (Nat.beq c 0 && (Nat.beq z.length sz && (Nat.blt 0 sz && Xd (Xw z (m * sz)))))) && ((match tki P xt with | some .i64=>true | _=>false) && (Nat.ble ((0 + m) * by') 140737488355328 && (Nat.ble (0 + m) maxLen && Nat.blt 0 m))) then some (.h (.slice (some ⟨n,0,none⟩) (0 + m) (0 + m)) (X5 H n ⟨e,sz,[] ++ Xw z (m * sz)⟩) (n + 1)) else none
   | _,_=>none
  | _=>match QjI P H xt sz vy with
   | some (m,cs)=>match a with
    | none=>bif Nat.beq k 0 && Nat.beq c 0 then (bif Nat.beq m 0 then some (.h (.slice none 0 0) H n) else match QM P e with
     | some z=>bif Nat.beq z.length sz && (Nat.ble ((0 + m) * by') 140737488355328 && (Nat.ble (0 + m) maxLen && Nat.blt 0 (0 + m))) then some (.h (.slice (some ⟨n,0,none⟩) (0 + m) (0 + m)) (X5 H n ⟨e,sz,[] ++ cs⟩) (n + 1)) else none
     | none=>none) else none
    | some ⟨p,off,q⟩=>bif Nat.beq off 0 then (match Yq H p with
     | some r=>bif Nat.ble (k + m) c then (bif Nat.ble (k * sz + cs.length) r.cs.length then some (.h (.slice (some ⟨p,0,q⟩) (k + m) c) (X5 H p { r with cs:=Qd r.cs (k * sz) cs }) n) else none)
      else (match q,QM P e with
       | none,some z=>bif (Nat.beq z.length sz && (Nat.beq r.ty e && (Nat.beq r.sz sz && (Nat.beq r.cs.length (c * sz) && Nat.blt 0 sz)))) && ((Nat.ble k c && Nat.ble c maxLen) && (Nat.ble ((k + m) * by') 140737488355328 && (Nat.ble (k + m) maxLen && Nat.blt 0 (k + m)))) then some (.h (.slice (some ⟨n,0,none⟩) (k + m) (k + m)) (X5 (Qhv H p) n ⟨e,sz,r.cs.take (k * sz) ++ cs⟩) (n + 1)) else none
       | _,_=>none)
     | none=>none) else none
   | none=>none
 | _,_,_=>none
def QnL (dt : Nat) (d s : Operand) : Option Ans:=match opd L d,opd L s,tsl P dt with
 | some (.slice (some ⟨p,i,_⟩) k _),some (.slice (some ⟨p2,i2,_⟩) k2 _),some (_,sz,_)=>match Yq H p,Yq H p2 with
  | some r,some r2=>bif Nat.ble (i + min k2 k * sz) r.cs.length && Nat.ble (i2 + min k2 k * sz) r2.cs.length then some (.h (.int .i64 ((min k2 k : Nat) : Int)) (X5 H p { r with cs:=Qd r.cs i (cut r2.cs i2 (min k2 k * sz)) }) n) else none
  | _,_=>none
 | some (.slice (some ⟨p,i,_⟩) k _),some (.string ⟨⟨l⟩⟩),some (_,sz,_)=>match Yq H p with
  | some r=>bif Nat.beq sz 1 && Nat.ble (i + min l.length k) r.cs.length then some (.h (.int .i64 ((min l.length k : Nat) : Int)) (X5 H p { r with cs:=Qd r.cs i ((l.take (min l.length k)).map fun b=>Value.int .u8 (b.toNat : Int)) }) n) else none
  | none=>none
 | _,_,_=>none
def QjX (t : Nat) (x : Operand) : Option Ans:=match opd L x,tsl P t with
 | some (.slice (some ⟨p,i,_⟩) k _),some (e,sz,_)=>match Yq H p,QM P e with
  | some r,some z=>bif Nat.beq z.length sz && (z.all (·.oneCell') && (Nat.blt 0 z.length && (Xd (Xw z (k * sz)) && Nat.ble (i + k * sz) r.cs.length))) then some (.h (.tuple #[]) (X5 H p { r with cs:=Qd r.cs i (Xw z (k * sz)) }) n) else none
  | _,_=>none
 | _,_=>none
def Qdg (b : Builtin) (args : List Operand) (ts : List TypeId) : Option Ans:=match b,args,ts with
 | .len,[x],[t]=>match opd L x with
  | some (.string ⟨⟨l⟩⟩)=>bif Q9 P t then some (.p (.int .i64 (l.length : Int))) else none
  | some (.slice _ k _)=>bif Xc P t then some (.p (.int .i64 (k : Int))) else none
  | some (.pointer (some ⟨_,_,some _⟩))=>bif Xc P t then some (.p (.int .i64 0)) else none
  | _=>none
 | .cap,[x],[t]=>match opd L x with
  | some (.slice none _ c)=>bif Xc P t then some (.p (.int .i64 (c : Int))) else none
  | _=>none
 | .min,[x,y],_=>match opd L x,opd L y with
  | some (.int k a),some (.int k' b)=>bif kEq k k' then some (.p (.int k (if b < a then b else a))) else none
  | _,_=>none
 | .max,[x,y],_=>match opd L x,opd L y with
  | some (.int k a),some (.int k' b)=>bif kEq k k' then some (.p (.int k (if b > a then b else a))) else none
  | _,_=>none
 | .append,[s,y],[t,xt]=>Qhy P L H n t xt s y
 | .copy,[d,s],[dt,_]=>QnL P L H n dt d s
 | .clear,[x],[t]=>QjX P L H n t x
 | _,_,_=>none
def Qej (F : CallF) (f : Option Value) (vs : Option (List Value)) : Option Ans:=match f,vs with
 | some (.func (.func g) first cap),some vs=>bif Xl P g then (match F.f F.y g (first.toList ++ vs ++ cap.toList) H n with
  | some (v,H',n')=>some (.h v H' n')
  | none=>none) else none
 | some (.func (.yield k) ⟨[]⟩ ⟨[]⟩),some vs=>match F.y k vs H n with
  | some (v,H',n')=>some (.h v H' n')
  | none=>none
 | _,_=>none
def Z8 (t : Nat) : Option Value → Option Value → Option Ans
 | some (.map (some r)),some (.int .i64 a)=>match P.underlying t,Qfj H r with
  | some (.map kt et),some ks=>match tzv P et,tki P kt with
   | some (.bool false),some .i64=>some (.q (.bool (QhP a ks)))
   | _,_=>none
  | _,_=>none
 | _,_=>none
def QcJ (t : Nat) : Option Value → Option Value → Option Value → Option Ans
 | some (.map (some r)),some (.int .i64 a),some (.bool true)=>match P.underlying t,Qfj H r with
  | some (.map kt et),some ks=>match tki P kt with
   | some .i64=>some (.h (.tuple #[]) (YG H r (.mp (bif QhP a ks then ks else ks ++ [a]))) n)
   | _=>none
  | _,_=>none
 | _,_,_=>none
def Xu (F : CallF) : Op → Option Ans
 | .move x=>Qda (opd L x)
 | .assign x=>Qda (opd L x)
 | .pick c a b=>match opd L c,opd L a,opd L b with
  | some (.bool t),some x,some y=>some (.p (if t then x else y))
  | _,_,_=>none
 | .binOp op t x y _=>match opd L x,opd L y with
  | some a,some b=>Qda (Zq P op t a b)
  | _,_=>none
 | .unOp op _ x=>match opd L x with
  | some a=>Qda (QdX op a)
  | none=>none
 | .convert src dst x=>match opd L x with
  | some a=>match Qba P src dst a with
   | some v=>some (.p v)
   | none=>Qf1 P H n src dst (some a)
  | none=>none
 | .extract x i=>match opd L x with
  | some (.tuple vs)=>Qda (vs.toList[i]?)
  | _=>none
 | .makeFunc (.func f) first cap=>match QcL L first.toList,QcL L cap.toList with
  | some a,some b=>bif a.all Qkk && b.all Qkk then some (.p (.func (.func f) a.toArray b.toArray)) else none
  | _,_=>none
 | .nilCheck x=>match opd L x with
  | some (.pointer (some ⟨m,i,none⟩))=>some (.p (.pointer (some ⟨m,i,none⟩)))
  | some (.func (.func f) a b)=>some (.p (.func (.func f) a b))
  | _=>none
 | .field st x f=>Qda (Qe5 P st f (opd L x))
 | .index t x y=>Qda (QfB P t (opd L x) (vN (opd L y)))
 | .slice t x lo hi none=>Qda (QjR P L t lo hi (opd L x))
 | .slice t x lo (some hi) (some mx)=>Qda (Qhx P L t lo hi mx (opd L x))
 | .fieldAddr st x f=>Qda (QaP P st f (opd L x))
 | .indexAddr t x y=>Qda (ZN P t (opd L x) (vN (opd L y)))
 | .build t parts=>Qda (Qj0 P L t parts.toList)
 | .load t (.tmp x)=>match Qf0 P L H t x with
  | some v=>some (.q v)
  | none=>none
 | .store t (.tmp x) y=>QhC P L H n t x y
 | .alloc t=>QuA P H n t
 | .box t x=>QtT H n t (opd L x)
 | .buildSlice t 0 ⟨[]⟩=>match tsl P t with
  | some (e,sz,_)=>some (.h (.slice (some ⟨n,0,none⟩) 0 0) (X5 H n ⟨e,sz,[]⟩) (n + 1))
  | none=>none
 | .buildSlice t len parts=>Zi P L H n t len parts.toList
 | .makeSlice t x y=>Qa0 P L H n t x y
 | .call ⟨.builtin b,args,ts⟩=>Qdg P L H n b args.toList ts.toList
 | .call ⟨.value (.func g),args,_⟩=>match QcL L args.toList with
  | some vs=>match F.e g vs with
   | some v=>some (.q v)
   | none=>Qej P H n F (some (.func (.func g) #[] #[])) (some vs)
  | none=>none
 | .call ⟨.value f,args,_⟩=>Qej P H n F (opd L f) (QcL L args.toList)
 | .makeMap t none=>some (.h (.map (some n)) (YG H n (.mp [])) (n + 1))
 | .lookup t m x false=>Z8 P H t (opd L m) (opd L x)
 | .mapUpdate t m x y=>QcJ P H n t (opd L m) (opd L x) (opd L y)
 | _=>none
end
end Ev
namespace Ev
open Go Go.RowKit
theorem Qq {α : Type} {c : Bool} {x a : α} (h : (bif c then some x else none) = some a) : c = true ∧ x = a:=by grind
theorem Qaf {α : Type} {c : Bool} {x : Option α} {a : α} (h : (bif c then x else none) = some a) : c = true ∧ x = some a:=by grind
theorem Qdp {α : Type} {a : Array α} {x : α} (h : a.toList = [x]) : a = #[x]:=by grind
theorem Qc7 {α : Type} {a : Array α} {x y : α} (h : a.toList = [x,y]) : a = #[x,y]:=by grind
def Ql1 (w0 : World) (ρ : Rho) (v : Value) (H' : Hp) (n' : Nat) (e : Ending) (w' : World) : Prop:=
 ∃ ρ' As' u,ρ.le ρ' ∧ QO ρ' n' ∧ den ρ' v = some u ∧ HM ρ' H' As' ∧ e = .returned u ∧ HS w0 [] As' w'
def QiU (P : Program) (r0 : Rho) (F : Qis) : Prop:=∀ f vs H n v H' n',F f vs H n = some (v,H',n') → ∀ (w0 : World) (ρ : Rho) (us : List Value) (As : List HA),r0.le ρ → Qu (den ρ) vs = some us → HM ρ H As → QO ρ n → ∀ w,HS w0 [] As w → Calls P f us.toArray w (Ql1 w0 ρ v H' n')
def Qi9 (P : Program) (E : FuncId → List Value → Option Value) : Prop:=∀ f vs v,E f vs = some v → ∀ (w0 : World) (ρ : Rho) (us : List Value) (As : List HA),Qu (den ρ) vs = some us → ∀ (o : Oper) (L' : Qb) (args : Array Operand) (ts : Array TypeId),o.op = .call { callee:=.value (.func f),args:=args,argTypes:=ts } → evs L' args.toList = some us → ∃ u,den ρ v = some u ∧ OpQ P o L' (HS w0 [] As) u
def YOk (P : Program) (r0 : Rho) (Y : Qnn) : Prop:=∀ k vs H n v H' n',Y k vs H n = some (v,H',n') → ∀ (w0 : World) (ρ : Rho) (us : List Value) (As : List HA),r0.le ρ → Qu (den ρ) vs = some us → HM ρ H As → QO ρ n → ∃ x,ρ k = some x ∧ ∀ w,HS w0 [] As w → Qhb P x.1 us.toArray w (Ql1 w0 ρ v H' n')
structure CallOk (P : Program) (r0 : Rho) (F : CallF) : Prop where
 f : ∀ r1 Y,YOk P r1 Y → QiU P r1 (F.f Y)
 e : Qi9 P F.e
 y : YOk P r0 F.y
def ZX (P : Program) (o : Oper) (L' : Qb) (w0 : World) (ρ : Rho) (H : Hp) (n : Nat) (As : List HA) : Ans → Prop
 | .p v=>∃ u,OpP P o L' u ∧ den ρ v = some u
 | .q v=>∃ u,OpQ P o L' (HS w0 [] As) u ∧ den ρ v = some u
 | .h v H' n'=>OpT P o L' (HS w0 [] As) (Out w0 ρ v H' n')
section
variable {P : Program} {o : Oper} {L' : Qb} {w0 : World} {ρ : Rho} {L : Env} {H : Hp} {n : Nat} {As : List HA} {F : CallF} {a : Ans}
theorem Qep {x : Option Value} (h : Qda x = some a) (hx : ∀ v,x = some v → ∃ u,OpP P o L' u ∧ den ρ v = some u) : ZX P o L' w0 ρ H n As a:=by
 cases x with
 | none=>cases h
 | some v=>
  injection h with h
  subst h;exact hx v rfl
theorem Qnf {st f : Nat} {x : Operand} {v : Value} (ho : o.op = .field st x f) (hs : SR ρ L L') (h : Qe5 P st f (opd L x) = some v) : ∃ u,OpP P o L' u ∧ den ρ v = some u:=by
 unfold Qe5 at h
 grind [Qq9]
theorem QmE {t : Nat} {x y : Operand} {v : Value} (ho : o.op = .index t x y) (hs : SR ρ L L') (h : QfB P t (opd L x) (vN (opd L y)) = some v) : ∃ u,OpP P o L' u ∧ den ρ v = some u:=by
 unfold QfB at h;split at h
 ·rename_i l j hx hy;obtain ⟨hc,rfl⟩:=Qq h;simp only [Bool.and_eq_true] at hc;exact Qoe ho hs hx hy hc.1 (by simpa [Nat.blt_eq] using hc.2)
 ·rename_i cs j hx hy;split at h
  ·rename_i len e sz h1;split at h
   ·rename_i k ag h2;obtain ⟨hc,h3⟩:=Qaf h;exact QqD ho hs hx hy h1 h2 (by simpa [Nat.blt_eq] using hc) h3
   ·cases h
  ·cases h
 ·cases h
theorem Qm7 {t : Nat} {x : Operand} {lo hi : Option Operand} {v : Value} (ho : o.op = .slice t x lo hi none) (hs : SR ρ L L') (h : QjR P L t lo hi (opd L x) = some v) : ∃ u,OpP P o L' u ∧ den ρ v = some u:=by
 unfold QjR at h;split at h
 ·rename_i l hx;split at h
  ·rename_i i j h1 h2;obtain ⟨hc,rfl⟩:=Qq h;simp only [Bool.and_eq_true] at hc;exact QoH ho hs hx hc.1 h1 h2 (Nat.le_of_ble_eq_true hc.2.1) (Nat.le_of_ble_eq_true hc.2.2)
  ·cases h
 ·rename_i m off l c hx;split at h
  ·rename_i e sz by' i j h1 h2 h3;cases hb : Nat.ble i j && (Nat.ble j c && (Nat.beq i 0 || Nat.blt i c)) with
   | true=>
    rw [hb] at h;injection h with h
    subst h;simp only [Bool.and_eq_true,Bool.or_eq_true] at hb;exact QqK ho hs hx h1 h2 h3 (Nat.le_of_ble_eq_true hb.1) (Nat.le_of_ble_eq_true hb.2.1) (hb.2.2.imp Nat.eq_of_beq_eq_true (fun h=>by simpa [Nat.blt_eq] using h))
   | false=>
    rw [hb] at h;obtain ⟨hc,rfl⟩:=Qq h;simp only [Bool.and_eq_true] at hc;have e1:=Nat.eq_of_beq_eq_true hc.1;have e2:=Nat.eq_of_beq_eq_true hc.2
    grind [QoN]
  ·cases h
 ·rename_i m off q l c hx;split at h
  ·rename_i e sz by' i j h1 h2 h3;obtain ⟨hc,rfl⟩:=Qq h;simp only [Bool.and_eq_true] at hc;exact QnK ho hs hx h1 h2 h3 (Nat.le_of_ble_eq_true hc.1) (Nat.le_of_ble_eq_true hc.2)
  ·cases h
 ·rename_i l c hx;split at h
  ·rename_i y i j h1 h2 h3;obtain ⟨e,sz,by'⟩:=y;obtain ⟨hc,rfl⟩:=Qq h;simp only [Bool.and_eq_true] at hc;exact Qn8 ho hs hx h1 h2 h3 (Nat.le_of_ble_eq_true hc.1) (Nat.le_of_ble_eq_true hc.2)
  ·cases h
 ·cases h
theorem Qkm {t : Nat} {x hi mx : Operand} {lo : Option Operand} {v : Value} (ho : o.op = .slice t x lo (some hi) (some mx)) (hs : SR ρ L L') (h : Qhx P L t lo hi mx (opd L x) = some v) : ∃ u,OpP P o L' u ∧ den ρ v = some u:=by
 unfold Qhx at h;split at h
 ·rename_i m off q l c hx;split at h
  ·rename_i e sz by' i j k h1 h2 h3 h4;obtain ⟨hc,rfl⟩:=Qq h;simp only [Bool.and_eq_true] at hc;exact Qo7 ho hs hx h1 h2 h3 h4 (Nat.le_of_ble_eq_true hc.1) (Nat.le_of_ble_eq_true hc.2.1) (Nat.le_of_ble_eq_true hc.2.2)
  ·cases h
 ·rename_i l c hx;split at h
  ·rename_i y i j k h1 h2 h3 h4;obtain ⟨e,sz,by'⟩:=y;obtain ⟨hc,rfl⟩:=Qq h;simp only [Bool.and_eq_true] at hc;exact Qmy ho hs hx h1 h2 h3 h4 (Nat.le_of_ble_eq_true hc.1) (Nat.le_of_ble_eq_true hc.2.1) (Nat.le_of_ble_eq_true hc.2.2)
  ·cases h
 ·cases h
theorem Qf9 {st f : Nat} {x : Operand} {v : Value} (ho : o.op = .fieldAddr st x f) (hs : SR ρ L L') (h : QaP P st f (opd L x) = some v) : ∃ u,OpP P o L' u ∧ den ρ v = some u:=by
 unfold QaP at h;split at h
 ·rename_i m i hx;split at h
  ·rename_i off ft h1;split at h
   ·rename_i sz ag h2;obtain ⟨hc,rfl⟩:=Qq h
    grind [Qjb]
   ·cases h
  ·cases h
 ·cases h
theorem Qgf {t : Nat} {x y : Operand} {v : Value} (ho : o.op = .indexAddr t x y) (hs : SR ρ L L') (h : ZN P t (opd L x) (vN (opd L y)) = some v) : ∃ u,OpP P o L' u ∧ den ρ v = some u:=by
 unfold ZN at h;split at h
 ·rename_i m off q l c j hx hy;split at h
  ·rename_i e sz by' h1;obtain ⟨hc,rfl⟩:=Qq h;cases q with
   | none=>exact Qjq ho hs hx hy h1 (by simpa [Nat.blt_eq] using hc)
   | some q=>exact QgZ ho hs hx hy h1 (by simpa [Nat.blt_eq] using hc)
  ·cases h
 ·rename_i m i j hx hy;split at h
  ·rename_i len e sz h1;obtain ⟨hc,rfl⟩:=Qq h;exact Qha ho hs hx hy h1 (by simpa [Nat.blt_eq] using hc)
  ·cases h
 ·cases h
theorem QmX {t : Nat} {parts : Array (Nat × Operand)} {v : Value} (ho : o.op = .build t parts) (hs : SR ρ L L') (h : Qj0 P L t parts.toList = some v) : ∃ u,OpP P o L' u ∧ den ρ v = some u:=by
 unfold Qj0 at h;split at h
 ·rename_i vs z h1 h2;obtain ⟨hc,h⟩:=Qaf h
  grind [QrK,QoE]
 ·cases h
theorem Qpt {t x : Nat} {v : Value} (ho : o.op = .load t (.tmp x)) (hs : SR ρ L L') (hH : HM ρ H As) (h : Qf0 P L H t x = some v) : ∃ u,OpQ P o L' (HS w0 [] As) u ∧ den ρ v = some u:=by
 unfold Qf0 at h;split at h
 ·rename_i m i hx;split at h
  ·rename_i r sz ag h1 h2;exact QsH ho hs hH hx h1 h2 h
  ·cases h
 ·cases h
theorem Qmk {t x : Nat} {y : Operand} (ho : o.op = .store t (.tmp x) y) (hs : SR ρ L L') (hH : HM ρ H As) (hf : QO ρ n) (h : QhC P L H n t x y = some a) : ZX P o L' w0 ρ H n As a:=by
 unfold QhC at h;split at h
 ·rename_i m i v sz ag hx hy hz;split at h
  ·rename_i r hg;obtain ⟨hc,rfl⟩:=Qq h;simp only [Bool.and_eq_true] at hc;exact QqV ho hs hH hf hx hy hc.1 hg hz (Nat.eq_of_beq_eq_true hc.2.1) (Nat.le_of_ble_eq_true hc.2.2)
  ·cases h
 ·cases h
theorem Qbt {t : Nat} (h : Qa9 P t = true) : P.underlying t = some (.int .u8):=by grind [Qa9]
theorem Qoo {src dst : Nat} {x : Operand} {v : Value} (ho : o.op = .convert src dst x) (hs : SR ρ L L') (hH : HM ρ H As) (hf : QO ρ n) (hx : opd L x = some v) (h : Qf1 P H n src dst (some v) = some a) : ZX P o L' w0 ρ H n As a:=by
 unfold Qf1 at h;split at h
 ·rename_i l hv;injection hv with hv
  subst hv;split at h
  ·rename_i e h1;obtain ⟨hc,rfl⟩:=Qq h;simp only [Bool.and_eq_true] at hc;exact Qrz ho hs hx (X8 hc.1) h1 (Qbt hc.2.1) (Nat.eq_of_beq_eq_true hc.2.2.1) (Nat.le_of_ble_eq_true hc.2.2.2) hH hf
  ·cases h
 ·rename_i k c hv;injection hv with hv
  subst hv;split at h
  ·rename_i e h1;obtain ⟨hc,rfl⟩:=Qq h;simp only [Bool.and_eq_true] at hc;have hk:=Nat.eq_of_beq_eq_true hc.2.2;subst hk;exact QmF (k:=0) ho hs hx h1 hc.1 (Qbt hc.2.1)
  ·cases h
 ·rename_i p i q k c hv;injection hv with hv
  subst hv;split at h
  ·rename_i e r h1 h2;cases hb : Q9 P dst && (Qa9 P e && (Nat.ble (i + k) r.cs.length && ((cut r.cs i k).all QgY && Xd (cut r.cs i k)))) with
   | true=>
    rw [hb] at h;injection h with h
    subst h;simp only [Bool.and_eq_true] at hb;exact Qme ho hs hH hx h1 hb.1 (Qbt hb.2.1) h2 (Nat.le_of_ble_eq_true hb.2.2.1) hb.2.2.2.1 hb.2.2.2.2
   | false=>
    rw [hb] at h;simp only [cond_false] at h;split at h
    ·obtain ⟨hc,rfl⟩:=Qq h;simp only [Bool.and_eq_true] at hc;have e1:=Nat.eq_of_beq_eq_true hc.1;subst e1;exact QqS ho hs hH hf hx h1 (Qbt hc.2.1) h2 (Nat.eq_of_beq_eq_true hc.2.2)
    ·cases h
  ·cases h
 ·rename_i p i q hv;injection hv with hv
  subst hv;split at h
  ·rename_i e h1;obtain ⟨hc,rfl⟩:=Qq h;simp only [Bool.and_eq_true] at hc;exact Qni ho hs hx h1 hc.1 (Qbt hc.2)
  ·cases h
 ·cases h
theorem Qfa {t len : Nat} {parts : Array (Nat × Operand)} (ho : o.op = .buildSlice t len parts) (hs : SR ρ L L') (hH : HM ρ H As) (hf : QO ρ n) (h : Zi P L H n t len parts.toList = some a) : ZX P o L' w0 ρ H n As a:=by
 unfold Zi at h;split at h
 ·rename_i vs e sz by' h1 h2;split at h
  ·rename_i z h3;split at h
   ·rename_i cs h4;obtain ⟨hc,rfl⟩:=Qq h;simp only [Bool.and_eq_true] at hc;exact QhH ho hs h1 h2 h3 hc.1 hc.2.1 hc.2.2.1 h4 hc.2.2.2 hH hf
   ·cases h
  ·cases h
 ·cases h
theorem Qgg {t : Nat} {x y : Operand} (ho : o.op = .makeSlice t x y) (hs : SR ρ L L') (hH : HM ρ H As) (hf : QO ρ n) (h : Qa0 P L H n t x y = some a) : ZX P o L' w0 ρ H n As a:=by
 unfold Qa0 at h;split at h
 ·rename_i k k' e sz by' hx hy ht;split at h
  ·rename_i z hz;obtain ⟨hc,rfl⟩:=Qq h;simp only [Bool.and_eq_true] at hc;exact QiM ho hs hx hy (Nat.le_of_ble_eq_true hc.1) ht hz (Nat.le_of_ble_eq_true hc.2.1) (Nat.le_of_ble_eq_true hc.2.2.1) hc.2.2.2 hH hf
  ·cases h
 ·cases h
theorem Qku {t xt : Nat} {s y : Operand} (ho : o.op = .call { callee:=.builtin .append,args:=#[s,y],argTypes:=#[t,xt] }) (hs : SR ρ L L') (hH : HM ρ H As) (hf : QO ρ n) (h : Qhy P L H n t xt s y = some a) : ZX P o L' w0 ρ H n As a:=by
 unfold Qhy at h;split at h
 ·rename_i a0 k c vy e sz by' hx hy ht;split at h
  ·rename_i m;split at h
   ·rename_i z hz;obtain ⟨hc,rfl⟩:=Qq h;simp only [Bool.and_eq_true] at hc;obtain ⟨⟨c1,c2,c3,c4,c5⟩,c6,c7,c8,c9⟩:=hc;have hk:=Nat.eq_of_beq_eq_true c1;have hc0:=Nat.eq_of_beq_eq_true c2;subst hk hc0;refine Qna ho hs hH hf hx hy ?_ ht hz (Nat.eq_of_beq_eq_true c3) (by simpa [Nat.blt_eq] using c4) c5 (Nat.le_of_ble_eq_true c7) (Nat.le_of_ble_eq_true c8) (by simpa [Nat.blt_eq] using c9)
    grind
   ·cases h
  ·split at h
   ·rename_i m cs hsrc;split at h
    ·obtain ⟨hc,h⟩:=Qaf h;simp only [Bool.and_eq_true] at hc;have hk:=Nat.eq_of_beq_eq_true hc.1;have hc0:=Nat.eq_of_beq_eq_true hc.2;subst hk hc0;cases hm : Nat.beq m 0 with
     | true=>
      rw [hm] at h;have hm:=Nat.eq_of_beq_eq_true hm;subst hm;injection h with h
      subst h;exact QmM ho hs hH hf hx hy ht hsrc
     | false=>
      rw [hm] at h;simp only [cond_false] at h;split at h
      ·rename_i z hz;obtain ⟨hc,rfl⟩:=Qq h;simp only [Bool.and_eq_true] at hc;exact QmS ho hs hH hf hx hy ht hz (Nat.eq_of_beq_eq_true hc.1) hsrc (Nat.le_of_ble_eq_true hc.2.1) (Nat.le_of_ble_eq_true hc.2.2.1) (by simpa [Nat.blt_eq] using hc.2.2.2)
      ·cases h
    ·rename_i p off q;obtain ⟨hc,h⟩:=Qaf h;have ho0:=Nat.eq_of_beq_eq_true hc;subst ho0;split at h
     ·rename_i r hg;cases hfit : Nat.ble (k + m) c with
      | true=>
       rw [hfit] at h;obtain ⟨hc,rfl⟩:=Qq h;exact Qm6 ho hs hH hf hx hy ht hsrc hg (Nat.le_of_ble_eq_true hfit) (Nat.le_of_ble_eq_true hc)
      | false=>
       rw [hfit] at h;simp only [cond_false] at h;split at h
       ·rename_i z hz _;obtain ⟨hc,rfl⟩:=Qq h;simp only [Bool.and_eq_true] at hc;obtain ⟨⟨c1,c2,c3,c4,c5⟩,⟨c6,c7⟩,c8,c9,c10⟩:=hc;exact Qm3 ho hs hH hf hx hy ht hz (Nat.eq_of_beq_eq_true c1) hsrc hg (Nat.eq_of_beq_eq_true c2) (Nat.eq_of_beq_eq_true c3) (Nat.eq_of_beq_eq_true c4) (by simpa [Nat.blt_eq] using c5) (Nat.le_of_ble_eq_true c6) (Nat.le_of_ble_eq_true c7) (Nat.le_of_ble_eq_true c8) (Nat.le_of_ble_eq_true c9) (by simpa [Nat.blt_eq] using c10)
       ·cases h
     ·cases h
   ·cases h
 ·cases h
theorem QnE {dt st : Nat} {d s : Operand} (ho : o.op = .call { callee:=.builtin .copy,args:=#[d,s],argTypes:=#[dt,st] }) (hs : SR ρ L L') (hH : HM ρ H As) (hf : QO ρ n) (h : QnL P L H n dt d s = some a) : ZX P o L' w0 ρ H n As a:=by
 unfold QnL at h;split at h
 ·rename_i p i q k c p2 i2 q2 k2 c2 e sz by' hd hx ht;split at h
  ·rename_i r r2 hg hg2;obtain ⟨hc,rfl⟩:=Qq h;simp only [Bool.and_eq_true] at hc;exact Qs6 ho hs hH hf hd hx ht hg hg2 (Nat.le_of_ble_eq_true hc.1) (Nat.le_of_ble_eq_true hc.2)
  ·cases h
 ·rename_i p i q k c l e sz by' hd hx ht;split at h
  ·rename_i r hg;obtain ⟨hc,rfl⟩:=Qq h;simp only [Bool.and_eq_true] at hc;have h1:=Nat.eq_of_beq_eq_true hc.1;subst h1;exact Qq4 ho hs hH hf hd hx ht hg (Nat.le_of_ble_eq_true hc.2)
  ·cases h
 ·cases h
theorem QmA {t : Nat} {x : Operand} (ho : o.op = .call { callee:=.builtin .clear,args:=#[x],argTypes:=#[t] }) (hs : SR ρ L L') (hH : HM ρ H As) (hf : QO ρ n) (h : QjX P L H n t x = some a) : ZX P o L' w0 ρ H n As a:=by
 unfold QjX at h;split at h
 ·rename_i p i q k c e sz by' hx ht;split at h
  ·rename_i r z hg hz;obtain ⟨hc,rfl⟩:=Qq h;simp only [Bool.and_eq_true] at hc;obtain ⟨c1,c2,c3,c4,c5⟩:=hc;exact Qqy ho hs hH hf hx ht hz (Nat.eq_of_beq_eq_true c1) c2 c3 c4 hg (Nat.le_of_ble_eq_true c5)
  ·cases h
 ·cases h
theorem Qn7 {vs us : List Value} (h : Qu (XJ ρ) vs = some us) : Qu (den ρ) vs = some us:=Xh (fun a b e=>Qcq (QaS (QnI e))) h
theorem QjE {f : Operand} {args : Array Operand} {ts : Array TypeId} {r0 : Rho} (hF : CallOk P r0 F) (h0 : r0.le ρ) (ho : o.op = .call { callee:=.value f,args:=args,argTypes:=ts }) (hs : SR ρ L L') (hH : HM ρ H As) (hf : QO ρ n) (h : Qej P H n F (opd L f) (QcL L args.toList) = some a) : ZX P o L' w0 ρ H n As a:=by
 unfold Qej at h;split at h
 ·rename_i g first cap vs hx hvs
  obtain ⟨hc,h⟩:=Qaf h;split at h
  ·rename_i v H' n' hr;injection h with h
   subst h;obtain ⟨u,e1,e2⟩:=YT hs hx;simp only [den,Xr,QP,Qcl] at e2;split at e2
   ·rename_i f' a' b' g1 g2 g3;injection g1 with g1
    subst g1;injection e2 with e2
    subst e2;obtain ⟨us,e3,e4⟩:=Qd0 hs hvs;have hall:=Ze (Ze (Qn7 g2) e4) (Qn7 g3);refine ⟨{ x : Rho × List HA × Value // ρ.le x.1 ∧ QO x.1 n' ∧ den x.1 v = some x.2.2 ∧ HM x.1 H' x.2.1 },fun x=>x.1.2.2,fun _=>True,fun x=>HS w0 [] x.1.2.1,fun ag w hρ hw=>?_,fun x _=>⟨x.1.1,x.1.2.1,x.2.1,x.2.2.1,x.2.2.2.1,x.2.2.2.2,fun _ h=>h⟩⟩;rw [Qap ho hρ e1 hc e3];have hcall:=hF.f r0 F.y hF.y _ _ _ _ _ _ _ hr w0 ρ _ As h0 hall hH hf w hw;have hargs : (a' ++ us ++ b').toArray = a'.toArray ++ us.toArray ++ b'.toArray:=by simp
    rw [hargs] at hcall;exact Calls.mono hcall fun e w' ⟨ρ',As',u',h1,h2,h3,h4,h5,h6⟩=>⟨u',h5,⟨(ρ',As',u'),h1,h2,h3,h4⟩,rfl,trivial,h6⟩
   ·cases e2
  ·cases h
 ·rename_i k vs hx hvs;split at h
  ·rename_i v H' n' hr;injection h with h
   subst h;obtain ⟨u,e1,e2⟩:=YT hs hx;obtain ⟨us,e3,e4⟩:=Qd0 hs hvs;obtain ⟨x,hk,hy⟩:=hF.y _ _ _ _ _ _ _ hr w0 ρ us As h0 e4 hH hf;simp only [den,Xr,QP,Qcl,hk,Qu,Option.some.injEq] at e2;subst e2;refine ⟨{ x : Rho × List HA × Value // ρ.le x.1 ∧ QO x.1 n' ∧ den x.1 v = some x.2.2 ∧ HM x.1 H' x.2.1 },fun x=>x.1.2.2,fun _=>True,fun x=>HS w0 [] x.1.2.1,?_,fun x _=>⟨x.1.1,x.1.2.1,x.2.1,x.2.2.1,x.2.2.2.1,x.2.2.2.2,fun _ h=>h⟩⟩;refine QrS (l:=x.1) ho e1 e3 fun w hw=>?_;obtain ⟨f,tmps,assign,body,y1,y2⟩:=hy w hw;exact ⟨f,tmps,assign,body,y1,RoundIn.mono y2 fun e w' ⟨ρ',As',u',h1,h2,h3,h4,h5,h6⟩=>⟨⟨(ρ',As',u'),h1,h2,h3,h4⟩,h5,trivial,h6⟩⟩
  ·cases h
 ·cases h
theorem Qix {b : Builtin} {args : Array Operand} {ts : Array TypeId} (ho : o.op = .call { callee:=.builtin b,args:=args,argTypes:=ts }) (hs : SR ρ L L') (hH : HM ρ H As) (hf : QO ρ n) (h : Qdg P L H n b args.toList ts.toList = some a) : ZX P o L' w0 ρ H n As a:=by
 unfold Qdg at h;split at h
 ·rename_i x t h1 h2;rw [Qdp h1,Qdp h2] at ho;split at h
  ·rename_i l hx;obtain ⟨hc,rfl⟩:=Qq h;exact Qtt ho hs hx hc
  ·rename_i p k c hx;obtain ⟨hc,rfl⟩:=Qq h;exact Qt0 ho hs hx hc
  ·rename_i p i q hx;obtain ⟨hc,rfl⟩:=Qq h;exact Qth ho hs hx hc
  ·cases h
 ·rename_i x t h1 h2;rw [Qdp h1,Qdp h2] at ho;split at h
  ·rename_i k c hx;obtain ⟨hc,rfl⟩:=Qq h;exact Qtm ho hs hx hc
  ·cases h
 ·rename_i x y h1;rw [Qc7 h1] at ho;split at h
  ·rename_i k p k' q hx hy;obtain ⟨hc,rfl⟩:=Qq h;exact QtX ho hs hx hy hc
  ·cases h
 ·rename_i x y h1;rw [Qc7 h1] at ho;split at h
  ·rename_i k p k' q hx hy;obtain ⟨hc,rfl⟩:=Qq h;exact QtY ho hs hx hy hc
  ·cases h
 ·grind [Qc7,Qku]
 ·grind [Qc7,QnE]
 ·grind [Qdp,QmA]
 ·cases h
theorem Qj8 {t : Nat} {m x : Operand} (ho : o.op = .lookup t m x false) (hs : SR ρ L L') (hH : HM ρ H As) (h : Z8 P H t (opd L m) (opd L x) = some a) : ZX P o L' w0 ρ H n As a:=by
 unfold Z8 at h;split at h
 ·rename_i r k h1 h2;split at h
  ·rename_i kt et ks h3 h4;split at h
   ·rename_i h5 h6;injection h with h
    subst h;exact QnS ho hs hH h1 h2 h3 h5 h6 h4
   ·cases h
  ·cases h
 ·cases h
theorem Qgh {t : Nat} {m x y : Operand} (ho : o.op = .mapUpdate t m x y) (hs : SR ρ L L') (hH : HM ρ H As) (hf : QO ρ n) (h : QcJ P H n t (opd L m) (opd L x) (opd L y) = some a) : ZX P o L' w0 ρ H n As a:=by
 unfold QcJ at h;split at h
 ·rename_i r k h1 h2 h2';split at h
  ·rename_i kt et ks h3 h4;split at h
   ·rename_i h6;injection h with h
    subst h;exact Qi3 (.inl ho) hs hH hf h1 h2 h2' h3 h6 h4
   ·cases h
  ·cases h
 ·cases h
theorem Z3 {op : Op} {r0 : Rho} (hF : CallOk P r0 F) (h0 : r0.le ρ) (ho : o.op = op) (hs : SR ρ L L') (hH : HM ρ H As) (hf : QO ρ n) (h : Xu P L H n F op = some a) : ZX P o L' w0 ρ H n As a:=by
 unfold Xu at h;split at h
 ·exact Qep h fun v hv=>Qpz (.inl ho) hs hv
 ·exact Qep h fun v hv=>Qpz (.inr ho) hs hv
 ·split at h
  ·rename_i t x y h1 h2 h3;injection h with h
   subst h;exact QsI ho hs h1 h2 h3
  ·cases h
 ·grind [Qep,Qu5]
 ·split at h
  ·rename_i x h1;exact Qep h fun v hv=>un_R ho hs h1 hv
  ·cases h
 ·split at h
  ·rename_i x h1;split at h
   ·rename_i v hv;injection h with h
    subst h;exact QsR ho hs h1 hv
   grind [Qoo]
  ·cases h
 ·split at h
  ·rename_i vs h1;exact Qep h fun v hv=>Qmn ho hs h1 hv
  ·cases h
 ·split at h
  ·rename_i x y h1 h2;obtain ⟨hc,rfl⟩:=Qq h;simp only [Bool.and_eq_true] at hc;exact Qki ho hs h1 h2 hc.1 hc.2
  ·cases h
 ·split at h
  ·rename_i m i h1;injection h with h
   subst h;exact Qkh ho hs h1
  ·rename_i f x y h1;injection h with h
   subst h;exact Qjs ho hs h1
  ·cases h
 ·grind [Qep,Qnf]
 ·grind [Qep,QmE]
 ·grind [Qep,Qm7]
 ·grind [Qep,Qkm]
 ·grind [Qep,Qf9]
 ·grind [Qep,Qgf]
 ·grind [Qep,QmX]
 ·split at h
  ·rename_i v hv;injection h with h
   subst h;exact Qpt ho hs hH hv
  ·cases h
 ·exact Qmk ho hs hH hf h
 ·unfold QuA at h;split at h
  ·rename_i z hz;obtain ⟨hc,rfl⟩:=Qq h;exact QqL ho hz hc hH hf
  ·cases h
 ·unfold QtT at h;split at h
  ·rename_i v hv;obtain ⟨hc,rfl⟩:=Qq h;exact Qvd ho hs hv hc hH hf
  ·cases h
 ·split at h
  ·rename_i e sz by' ht;injection h with h
   subst h;exact Qgb ho ht hH hf
  ·cases h
 ·exact Qfa ho hs hH hf h
 ·exact Qgg ho hs hH hf h
 ·exact Qix ho hs hH hf h
 ·rename_i g args ts;split at h
  ·rename_i vs hvs;split at h
   ·rename_i v hv;injection h with h
    subst h;obtain ⟨us,e3,e4⟩:=Qd0 hs hvs;obtain ⟨u,e5,e6⟩:=hF.e _ _ _ hv w0 ρ us As e4 o L' args ts ho e3;exact ⟨u,e6,e5⟩
   ·exact QjE hF h0 ho hs hH hf (by rw [hvs];exact h)
  ·cases h
 ·grind [QjE]
 ·injection h with h
  subst h;exact Qnk ho hH hf
 ·exact Qj8 ho hs hH h
 ·exact Qgh ho hs hH hf h
 ·cases h
end
end Ev
namespace Ev
open Go Go.RowKit
structure Clo (α : Type) where
 run : α
noncomputable def en (T : Tr Value) : Env:=fun t=>YE (pth t) t T
inductive An where
 | no
 | p (v : Value)
 | q (m : Option Nat) (v : Value)
 | new (v : Value) (x : HX)
 | h (v : Value) (H : Hp) (n : Nat)
abbrev VF:=Tr Value → Option Value
abbrev OpF:=CallF → Tr Value → Hp → Nat → An
def Qtb (P : Program) (op : Op) (F : CallF) (T : Tr Value) (H : Hp) (n : Nat) : An → Prop
 | .no=>True
 | .p v=>Xu P (en T) H n F op = some (.p v)
 | .q m v=>(∀ H2,(∀ k,m = some k → Yf H2 k = Yf H k) → Xu P (en T) H2 n F op = some (.q v)) ∧ ∀ k,m = some k → ∃ r,Yf H k = some r
 | .new v x=>Xu P (en T) H n F op = some (.h v (YG H n x) (n + 1))
 | .h v H' n'=>Xu P (en T) H n F op = some (.h v H' n')
def ZQ (P : Program) (op : Op) (f : OpF) : Prop:=∀ F,True → ∀ T H n,Qtb P op F T H n (f F T H n)
noncomputable def anP : Option Value → An:=fun x=>Option.rec .no (fun v=>.p v) x
theorem QjU {P : Program} {op : Op} {F : CallF} {T : Tr Value} {H : Hp} {n : Nat} {x : Option Value} (h : ∀ v,x = some v → Xu P (en T) H n F op = some (.p v)) : Qtb P op F T H n (anP x):=by
 cases x with
 | none=>trivial
 | some v=>exact h v rfl
noncomputable def fbF (P : Program) (op : Op) : OpF:=fun F T H n=>match Xu P (en T) H n F op with
 | some (.p v)=>.p v
 | some (.h v H n)=>.h v H n
 | _=>.no
theorem QnB (P : Program) (op : Op) : ZQ P op (fbF P op):=by
 intro F hF T H n;unfold fbF;split <;> first | assumption | trivial
noncomputable def Qrc (l : List Value) : Nat → Option Value:=List.rec (fun _=>none) (fun a _ ih i=>Nat.rec (some a) (fun j _=>ih j) i) l
theorem QeT : ∀ (l : List Value) (i : Nat),Qrc l i = l[i]?
 | [],i=>by cases i <;> rfl
 | a :: l,0=>rfl
 | a :: l,i + 1=>QeT l i
noncomputable def QiS (l : List Value) : Nat → Option (List Value):=
 List.rec (fun n=>Nat.rec (some []) (fun _ _=>none) n) (fun a _ ih n=>Nat.rec (some []) (fun j _=>Option.rec none (fun m=>some (a :: m)) (ih j)) n) l
theorem Qfx : ∀ (l : List Value) (n : Nat) {c : List Value},QiS l n = some c → n ≤ l.length ∧ c = l.take n
 | [],0,c,h=>by cases h;exact ⟨Nat.le_refl _,rfl⟩
 | [],n + 1,c,h=>by cases h
 | a :: l,0,c,h=>by cases h;exact ⟨Nat.zero_le _,rfl⟩
 | a :: l,n + 1,c,h=>by
  have h' : (Option.rec none (fun m=>some (a :: m)) (QiS l n) : Option (List Value)) = some c:=h;cases hm : QiS l n with
  | none=>rw [hm] at h';cases h'
  | some m=>
   rw [hm] at h';injection h' with h'
   obtain ⟨h1,h2⟩:=Qfx l n hm
   grind
noncomputable def Qrr (l : List Value) : Nat → Nat → Option (List Value):=
 List.rec (fun i n=>Nat.rec (QiS [] n) (fun _ _=>none) i) (fun a t ih i n=>Nat.rec (QiS (a :: t) n) (fun j _=>ih j n) i) l
theorem QeU : ∀ (l : List Value) (i n : Nat) {c : List Value},Qrr l i n = some c → i + n ≤ l.length ∧ c = cut l i n
 | [],0,n,c,h=>by
  obtain ⟨h1,h2⟩:=Qfx [] n h;exact ⟨by omega,h2⟩
 | [],i + 1,n,c,h=>by cases h
 | a :: l,0,n,c,h=>by
  obtain ⟨h1,h2⟩:=Qfx (a :: l) n h;exact ⟨by omega,h2⟩
 | a :: l,i + 1,n,c,h=>by
  obtain ⟨h1,h2⟩:=QeU l i n h
  grind [cut]
noncomputable def Qnv (vs : List Value) : List Value → Option (List Value):=
 List.rec (fun l=>some l) (fun v _ ih l=>List.rec none (fun _ l' _=>Option.rec none (fun m=>some (v :: m)) (ih l')) l) vs
noncomputable def setO (l : List Value) : Nat → List Value → Option (List Value):=
 List.rec (fun i vs=>Nat.rec (Qnv vs []) (fun _ _=>none) i) (fun a t ih i vs=>Nat.rec (Qnv vs (a :: t)) (fun j _=>Option.rec none (fun m=>some (a :: m)) (ih j vs)) i) l
theorem YW (a : Value) : ∀ (vs l : List Value) (i : Nat),Qd (a :: l) (i + 1) vs = a :: Qd l i vs
 | [],l,i=>rfl
 | v :: vs,l,i=>by simp_all [Qd,YW]
theorem Qhh : ∀ (vs l : List Value) {m : List Value},Qnv vs l = some m → vs.length ≤ l.length ∧ m = Qd l 0 vs
 | [],l,m,h=>by cases h;exact ⟨Nat.zero_le _,rfl⟩
 | v :: vs,[],m,h=>by cases h
 | v :: vs,a :: l,m,h=>by
  have h' : (Option.rec none (fun m=>some (v :: m)) (Qnv vs l) : Option (List Value)) = some m:=h;cases hm : Qnv vs l with
  | none=>rw [hm] at h';cases h'
  | some x=>
   rw [hm] at h';injection h' with h'
   obtain ⟨h1,h2⟩:=Qhh vs l hm
   grind [Qd,YW]
theorem Qlk : ∀ (l : List Value) (i : Nat) (vs : List Value) {m : List Value},setO l i vs = some m → i + vs.length ≤ l.length ∧ m = Qd l i vs
 | [],0,vs,m,h=>by
  obtain ⟨h1,h2⟩:=Qhh vs [] h
  grind
 | [],i + 1,vs,m,h=>by cases h
 | a :: l,0,vs,m,h=>by
  obtain ⟨h1,h2⟩:=Qhh vs (a :: l) h
  grind
 | a :: l,i + 1,vs,m,h=>by
  have h' : (Option.rec none (fun m=>some (a :: m)) (setO l i vs) : Option (List Value)) = some m:=h;cases hm : setO l i vs with
  | none=>rw [hm] at h';cases h'
  | some x=>
   rw [hm] at h';injection h' with h'
   obtain ⟨h1,h2⟩:=Qlk l i vs hm
   grind [YW]
def Qev : IntKind → Nat
 | .i8=>128
 | .i16=>32768
 | .i32=>2147483648
 | .i64=>9223372036854775808
 | .u8=>256
 | .u16=>65536
 | .u32=>4294967296
 | .u64=>18446744073709551616
def fw (k : IntKind) (z : Nat) : Int:=bif Nat.blt z (Qev k) then .ofNat z else k.wrap (.ofNat z)
theorem Qe1 {k : IntKind} {z : Nat} (h : z < Qev k) : k.wrap (z : Int) = (z : Int):=by
 cases k <;> simp only [Qev] at h <;> (simp only [IntKind.wrap,IntKind.signed,IntKind.bits];simp;omega)
theorem QgC (k : IntKind) (z : Nat) : fw k z = k.wrap (z : Int):=by
 unfold fw;cases hb : Nat.blt z (Qev k) with
 | true=>exact (Qe1 (by simpa [Nat.blt_eq] using hb)).symm
 | false=>rfl
end Ev
namespace Ev
open Go Go.RowKit
theorem Qf2 {op : BinOp} {k : IntKind} {x y : Nat} (hx : x < Qev k) (hy : y < Qev k) : bits .and k (x : Int) (y : Int) = ((x &&& y : Nat) : Int) ∧ bits .or k (x : Int) (y : Int) = k.wrap ((x ||| y : Nat) : Int):=by
 have hb : Qev k ≤ 2 ^ k.bits:=by cases k <;> simp [Qev,IntKind.bits]
 have ex : (BitVec.ofInt k.bits (x : Int)).toNat = x:=YM _ _ (by omega);have ey : (BitVec.ofInt k.bits (y : Int)).toNat = y:=YM _ _ (by omega);constructor
 ·show k.wrap (((BitVec.ofInt k.bits (x : Int)) &&& (BitVec.ofInt k.bits (y : Int)) : BitVec k.bits).toNat : Int) = _;rw [BitVec.toNat_and,ex,ey];exact Qe1 (Nat.lt_of_le_of_lt Nat.and_le_left hx)
 ·show k.wrap (((BitVec.ofInt k.bits (x : Int)) ||| (BitVec.ofInt k.bits (y : Int)) : BitVec k.bits).toNat : Int) = _
  grind
theorem d_eq (x y : Nat) : decide (Int.ofNat x = Int.ofNat y) = Nat.beq x y:=by
 rw [Bool.eq_iff_iff,decide_eq_true_eq,Nat.beq_eq];constructor
 ·intro h;injection h
 ·intro h;rw [h]
abbrev IF:=IntKind → Nat → Nat → Option Value
noncomputable def Qim : BinOp → Option (Clo IF)
 | .add=>some ⟨fun k x y=>some (.int k (fw k (Nat.add x y)))⟩
 | .sub=>some ⟨fun k x y=>bif Nat.ble y x then some (.int k (fw k (Nat.sub x y))) else some (.int k (k.wrap (Int.subNatNat x y)))⟩
 | .mul=>some ⟨fun k x y=>some (.int k (fw k (Nat.mul x y)))⟩
 | .eql=>some ⟨fun _ x y=>some (.bool (Nat.beq x y))⟩
 | .neq=>some ⟨fun _ x y=>some (.bool (Bool.not (Nat.beq x y)))⟩
 | .lss=>some ⟨fun _ x y=>some (.bool (Nat.blt x y))⟩
 | .leq=>some ⟨fun _ x y=>some (.bool (Nat.ble x y))⟩
 | .gtr=>some ⟨fun _ x y=>some (.bool (Nat.blt y x))⟩
 | .geq=>some ⟨fun _ x y=>some (.bool (Nat.ble y x))⟩
 | .and=>some ⟨fun k x y=>bif Nat.blt x (Qev k) && Nat.blt y (Qev k) then some (.int k (.ofNat (Nat.land x y))) else none⟩
 | .or=>some ⟨fun k x y=>bif Nat.blt x (Qev k) && Nat.blt y (Qev k) then some (.int k (fw k (Nat.lor x y))) else none⟩
 | .quo=>some ⟨fun k x y=>bif Nat.beq y 0 then none else some (.int k (fw k (Nat.div x y)))⟩
 | .rem=>some ⟨fun k x y=>bif Nat.beq y 0 then none else some (.int k (.ofNat (Nat.mod x y)))⟩
 | _=>none
theorem Qnq {op : BinOp} {c : Clo IF} {k : IntKind} {x y : Nat} {v : Value} (P : Program) (t : TypeId) (h : Qim op = some c) (hv : c.run k x y = some v) : Zq P op t (.int k (.ofNat x)) (.int k (.ofNat y)) = some v:=by
 have hk : kEq k k = true:=by cases k <;> rfl
 unfold Qim at h;split at h <;> first | (injection h with h;subst h) | cases h
 ·grind [Zq,Xa,XH,QgC]
 ·cases hb : Nat.ble y x with
  | true=>
   simp only [hb,cond_true] at hv;injection hv with hv;subst hv
   simp only [Zq,Xa,hk,cond_true,XH];rw [QgC];have:=Nat.le_of_ble_eq_true hb
   grind
  | false=>grind [Zq,Xa,XH]
 ·grind [Zq,Xa,XH,QgC]
 ·grind [Zq,Xa,XH,d_eq]
 ·grind [Zq,Xa,XH,d_eq]
 ·injection hv with hv;subst hv
  simp only [Zq,Xa,hk,cond_true,XH];congr 2;rw [Bool.eq_iff_iff];simp [Nat.blt_eq]
 ·injection hv with hv;subst hv
  simp only [Zq,Xa,hk,cond_true,XH];congr 2;rw [Bool.eq_iff_iff];simp [Nat.ble_eq]
 ·injection hv with hv;subst hv
  simp only [Zq,Xa,hk,cond_true,XH];congr 2;rw [Bool.eq_iff_iff];simp [Nat.blt_eq]
 ·injection hv with hv;subst hv
  simp only [Zq,Xa,hk,cond_true,XH];congr 2;rw [Bool.eq_iff_iff];simp [Nat.ble_eq]
 ·obtain ⟨hc,rfl⟩:=Qq hv;simp only [Bool.and_eq_true,Nat.blt_eq] at hc;simp only [Zq,Xa,hk,cond_true,XH];rw [show bits .and k (Int.ofNat x) (Int.ofNat y) = _ from (Qf2 (op:=.and) hc.1 hc.2).1];rfl
 ·obtain ⟨hc,rfl⟩:=Qq hv;simp only [Bool.and_eq_true,Nat.blt_eq] at hc;simp only [Zq,Xa,hk,cond_true,XH];rw [show bits .or k (Int.ofNat x) (Int.ofNat y) = _ from (Qf2 (op:=.or) hc.1 hc.2).2,QgC];rfl
 ·cases hb : Nat.beq y 0 with
  | true=>simp only [hb,cond_true] at hv;cases hv
  | false=>
   simp only [hb,cond_false] at hv;injection hv with hv;subst hv
   have hy : y ≠ 0:=fun e=>by subst e;cases hb
   have h0 : decide ((Int.ofNat y) = 0) = false:=by simpa using hy
   simp only [Zq,Xa,hk,cond_true,XH,h0,Bool.not_false,Bool.and_true];rw [QgC];rfl
 ·cases hb : Nat.beq y 0 with
  | true=>simp only [hb,cond_true] at hv;cases hv
  | false=>
   simp only [hb,cond_false] at hv;injection hv with hv;subst hv
   have hy : y ≠ 0:=fun e=>by subst e;cases hb
   have h0 : decide ((Int.ofNat y) = 0) = false:=by simpa using hy
   simp only [Zq,Xa,hk,cond_true,XH,h0,Bool.not_false,Bool.and_true];rfl
end Ev
namespace Ev
open Go Go.RowKit
noncomputable def XF : Operand → Clo VF
 | .tmp t=>⟨YE (pth t) t⟩
 | .const v=>Bool.rec ⟨fun _=>none⟩ ⟨fun _=>some v⟩ (ZB v)
 | .func f=>⟨fun _=>some (.func (.func f) #[] #[])⟩
 | _=>⟨fun _=>none⟩
theorem QR (x : Operand) (T : Tr Value) : (XF x).run T = opd (en T) x:=by
 cases x with
 | const v=>
  simp only [XF,opd];cases ZB v <;> rfl
 | _=>rfl
noncomputable def QgH : List Operand → Clo (Tr Value → Option (List Value))
 | []=>⟨fun _=>some []⟩
 | x :: l=>⟨fun T=>Option.rec none (fun v=>Option.rec none (fun vs=>some (v :: vs)) ((QgH l).run T)) ((XF x).run T)⟩
theorem Qe3 (T : Tr Value) : ∀ l,(QgH l).run T = QcL (en T) l
 | []=>rfl
 | x :: l=>by
  show (Option.rec none (fun v=>Option.rec none (fun vs=>some (v :: vs)) ((QgH l).run T)) ((XF x).run T) : Option (List Value)) = _;rw [Qe3 T l,QR];simp only [QcL];cases opd (en T) x <;> cases QcL (en T) l <;> rfl
def VOk (P : Program) (op : Op) (f : VF) : Prop:=∀ T v,f T = some v → ∀ F H n,Xu P (en T) H n F op = some (.p v)
noncomputable def ofV (f : VF) : OpF:=fun _ T _ _=>anP (f T)
theorem Qam {P : Program} {op : Op} {f : VF} (h : VOk P op f) : ZQ P op (ofV f):=fun F hF T H n=>QjU fun v hv=>h T v hv F H n
theorem XR {x : Option Value} {v : Value} (h : x = some v) : Qda x = some (.p v):=by rw [h];rfl
noncomputable def Qus (P : Program) (op : BinOp) (t : TypeId) (c : Option (Clo IF)) (a b : Value) : Option Value:=
 Option.rec (Zq P op t a b) (fun c=>match a with
  | .int k (.ofNat x)=>match b with
   | .int k' (.ofNat y)=>bif kEq k k' then (match c.run k x y with
    | some v=>some v
    | none=>Zq P op t a b) else none
   | b=>Zq P op t a b
  | a=>Zq P op t a b) c
theorem Qrv {P : Program} {op : BinOp} {t : TypeId} {a b v : Value} (h : Qus P op t (Qim op) a b = some v) : Zq P op t a b = some v:=by
 unfold Qus at h;cases hc : Qim op with
 | none=>rw [hc] at h;exact h
 | some c=>
  rw [hc] at h;simp only [] at h;split at h
  ·split at h
   ·obtain ⟨hk,h⟩:=Qaf h
    grind [Qbr,Qnq]
   ·exact h
  ·exact h
noncomputable def QoK (P : Program) (op : BinOp) (t : TypeId) (x y : Operand) : Clo VF:=
 ⟨fun T=>Option.rec none (fun a=>Option.rec none (fun b=>Qus P op t (Qim op) a b) ((XF y).run T)) ((XF x).run T)⟩
theorem QhN {P : Program} {op : BinOp} {t t' : TypeId} {x y : Operand} : VOk P (.binOp op t x y t') (QoK P op t x y).run:=by
 intro T v h F H n;unfold QoK at h;simp only [QR] at h;cases hx : opd (en T) x with
 | none=>rw [hx] at h;cases h
 | some a=>
  cases hy : opd (en T) y with
  | none=>rw [hx,hy] at h;cases h
  | some b=>simp_all [Xu,XR,Qrv]
noncomputable def Qow (c a b : Operand) : Clo VF:=⟨fun T=>match (XF c).run T with
 | some (.bool t)=>(match (XF a).run T with
  | some x=>(match (XF b).run T with
   | some y=>some (Bool.rec y x t)
   | none=>none)
  | none=>none)
 | _=>none⟩
theorem QnA {P : Program} {c a b : Operand} : VOk P (.pick c a b) (Qow c a b).run:=by
 intro T v h F H n;unfold Qow at h;simp only [QR] at h;unfold Xu;split at h
 ·rename_i t h1;split at h
  ·rename_i x h2;split at h
   ·rename_i y h3;injection h with h
    subst h;simp only [h1,h2,h3];cases t <;> rfl
   ·cases h
  ·cases h
 ·cases h
noncomputable def QtK (x : Operand) (i : Nat) : Clo VF:=⟨fun T=>match (XF x).run T with
 | some (.tuple ⟨l⟩)=>Qrc l i
 | _=>none⟩
theorem QqP {P : Program} {x : Operand} {i : Nat} : VOk P (.extract x i) (QtK x i).run:=by
 intro T v h F H n;unfold QtK at h
 grind [QR,QeT,Xu,XR]
noncomputable def QkB (P : Program) (st : Nat) (x : Operand) (f : Nat) : Clo VF:=match tfd P st f with
 | some (off,ft)=>match tsz P ft with
  | some (k,true)=>⟨fun T=>match (XF x).run T with
   | some (.agg ⟨l⟩)=>(match Qrr l off k with
    | some c=>some (.agg ⟨c⟩)
    | none=>none)
   | _=>none⟩
  | some (k,false)=>⟨fun T=>match (XF x).run T with
   | some (.agg ⟨l⟩)=>Qrc l off
   | _=>none⟩
  | none=>⟨fun _=>none⟩
 | none=>⟨fun _=>none⟩
theorem QmI {P : Program} {st f : Nat} {x : Operand} : VOk P (.field st x f) (QkB P st x f).run:=by
 intro T v h F H n;unfold QkB at h;unfold Xu;split at h
 ·rename_i off ft h1;split at h
  ·rename_i k h2;simp only [QR] at h;split at h
   ·rename_i l h3;split at h
    ·rename_i c h4;injection h with h
     subst h;obtain ⟨_,rfl⟩:=QeU l off k h4
     grind [XR,Qe5]
    ·cases h
   ·cases h
  ·grind [QR,QeT,XR,Qe5]
  ·cases h
 ·cases h
noncomputable def cFA (P : Program) (st : Nat) (x : Operand) (f : Nat) : Clo VF:=match tfd P st f with
 | some (off,ft)=>match tsz P ft with
  | some (k,_)=>bif Nat.blt 0 k then ⟨fun T=>match (XF x).run T with
   | some (.pointer (some ⟨m,i,none⟩))=>some (.pointer (some ⟨m,Nat.add i off,none⟩))
   | _=>none⟩ else ⟨fun _=>none⟩
  | none=>⟨fun _=>none⟩
 | none=>⟨fun _=>none⟩
theorem QsF {P : Program} {st f : Nat} {x : Operand} : VOk P (.fieldAddr st x f) (cFA P st x f).run:=by
 intro T v h F H n;unfold cFA at h;unfold Xu;split at h
 ·rename_i off ft h1;split at h
  ·rename_i k ag h2;cases hk : Nat.blt 0 k with
   | false=>rw [hk] at h;cases h
   | true=>
    rw [hk] at h
    grind [QR,XR,QaP]
  ·cases h
 ·cases h
noncomputable def cIA (P : Program) (t : Nat) (x y : Operand) : Clo VF:=match tsl P t with
 | some (_,sz,_)=>⟨fun T=>match (XF x).run T with
   | some (.slice (some ⟨m,off,_⟩) l _)=>(match (XF y).run T with
    | some (.int _ (.ofNat j))=>bif Nat.blt j l then some (.pointer (some ⟨m,Nat.add off (Nat.mul j sz),none⟩)) else none
    | _=>none)
   | _=>none⟩
 | none=>match tar P t with
  | some (len,_,sz)=>⟨fun T=>match (XF x).run T with
   | some (.pointer (some ⟨m,off,none⟩))=>(match (XF y).run T with
    | some (.int _ (.ofNat j))=>bif Nat.blt j len then some (.pointer (some ⟨m,Nat.add off (Nat.mul j sz),none⟩)) else none
    | _=>none)
   | _=>none⟩
  | none=>⟨fun _=>none⟩
theorem QsM {P : Program} {t : Nat} {x y : Operand} : VOk P (.indexAddr t x y) (cIA P t x y).run:=by
 intro T v h F H n;unfold cIA at h;unfold Xu;split at h
 ·rename_i e sz by' h1;simp only [QR] at h;split at h
  ·rename_i m off q l c h2;split at h
   ·simp_all [Qq,XR,ZN,vN]
   ·cases h
  ·cases h
 ·split at h
  ·rename_i len e sz h1;simp only [QR] at h;split at h
   ·rename_i m off h2;split at h
    ·simp_all [Qq,XR,ZN,vN]
    ·cases h
   ·cases h
  ·cases h
noncomputable def QsC (l : List UInt8) : Nat → Option Nat:=List.rec (fun _=>none) (fun a _ ih i=>Nat.rec (some a.toNat) (fun j _=>ih j) i) l
theorem QiK : ∀ (l : List UInt8) (i : Nat) {b : Nat},QsC l i = some b → i < l.length ∧ b = (l.getD i 0).toNat
 | [],i,b,h=>by cases i <;> cases h
 | a :: l,0,b,h=>by cases h;exact ⟨Nat.succ_pos _,rfl⟩
 | a :: l,i + 1,b,h=>by
  obtain ⟨h1,h2⟩:=QiK l i h
  grind
noncomputable def Quf (P : Program) (t : Nat) (x y : Operand) : Clo VF:=bif Q9 P t then ⟨fun T=>match (XF x).run T with
   | some (.string ⟨⟨l⟩⟩)=>(match (XF y).run T with
    | some (.int _ (.ofNat j))=>(match QsC l j with
     | some b=>some (.int .u8 (.ofNat b))
     | none=>none)
    | _=>none)
   | _=>none⟩ else ⟨fun T=>QfB P t ((XF x).run T) (vN ((XF y).run T))⟩
theorem Qri {P : Program} {t : Nat} {x y : Operand} : VOk P (.index t x y) (Quf P t x y).run:=by
 intro T v h F H n;unfold Quf at h;unfold Xu;cases ht : Q9 P t with
 | false=>simp_all [QR,XR]
 | true=>
  rw [ht] at h;simp only [cond_true,QR] at h;split at h
  ·rename_i l h1;split at h
   ·rename_i k j h2;split at h
    ·rename_i b h3;injection h with h
     subst h;obtain ⟨h4,rfl⟩:=QiK l j h3;refine XR ?_;simp only [QfB,h1,h2,vN,ht,Bool.true_and];rw [show Nat.blt j l.length = true by simpa [Nat.blt_eq] using h4];rfl
    ·cases h
   ·cases h
  ·cases h
noncomputable def Qua (P : Program) (t : Nat) (x : Operand) : Clo VF:=bif Q9 P t then ⟨fun T=>match (XF x).run T with
   | some (.string ⟨⟨l⟩⟩)=>some (.int .i64 (.ofNat l.length))
   | _=>none⟩ else bif Xc P t then ⟨fun T=>match (XF x).run T with
   | some (.slice _ k _)=>some (.int .i64 (.ofNat k))
   | some (.pointer (some ⟨_,_,some _⟩))=>some (.int .i64 0)
   | _=>none⟩ else ⟨fun _=>none⟩
theorem QrQ {P : Program} {t : Nat} {x : Operand} : VOk P (.call ⟨.builtin .len,#[x],#[t]⟩) (Qua P t x).run:=by
 intro T v h F H n;unfold Qua at h;unfold Xu Qdg;cases ht : Q9 P t with
 | true=>
  rw [ht] at h
  grind [QR]
 | false=>
  rw [ht] at h;simp only [cond_false] at h;cases hs : Xc P t with
  | false=>rw [hs] at h;cases h
  | true=>
   rw [hs] at h
   grind [QR]
end Ev
namespace Ev
open Go Go.RowKit
noncomputable def Qqm (l : List UInt8) : List UInt8 → Bool:=
 List.rec (fun m=>List.rec true (fun _ _ _=>false) m) (fun a _ ih m=>List.rec false (fun b m' _=>Bool.rec false (ih m') (Nat.beq a.toNat b.toNat)) m) l
theorem QeD : ∀ (l m : List UInt8),Qqm l m = decide (l = m)
 | [],[]=>rfl
 | [],b :: m=>rfl
 | a :: l,[]=>rfl
 | a :: l,b :: m=>by
  show (Bool.rec false (Qqm l m) (Nat.beq a.toNat b.toNat) : Bool) = _;rw [QeD l m];cases hb : Nat.beq a.toNat b.toNat with
  | true=>
   have : a = b:=UInt8.toNat_inj.1 (Nat.eq_of_beq_eq_true hb);subst this;simp
  | false=>
   have : a ≠ b:=fun e=>by subst e;rw [Nat.beq_refl] at hb;cases hb
   simp [this]
noncomputable def Qoc (P : Program) (op : BinOp) (t : TypeId) (x y : Operand) : Clo VF:=match op with
 | .eql=>⟨fun T=>match (XF x).run T with
  | some (.string ⟨⟨l⟩⟩)=>(match (XF y).run T with
   | some (.string ⟨⟨m⟩⟩)=>some (.bool (Qqm l m))
   | _=>none)
  | _=>(QoK P .eql t x y).run T⟩
 | .neq=>⟨fun T=>match (XF x).run T with
  | some (.string ⟨⟨l⟩⟩)=>(match (XF y).run T with
   | some (.string ⟨⟨m⟩⟩)=>some (.bool (Bool.not (Qqm l m)))
   | _=>none)
  | _=>(QoK P .neq t x y).run T⟩
 | op=>QoK P op t x y
theorem QoI {P : Program} {op : BinOp} {t t' : TypeId} {x y : Operand} : VOk P (.binOp op t x y t') (Qoc P op t x y).run:=by
 intro T v h F H n;unfold Qoc at h;split at h
 ·simp only [QR] at h;split at h
  ·grind [Xu,XR,Zq,Xa,Qdy,QeD]
  ·exact QhN T v h F H n
 ·simp only [QR] at h;split at h
  ·grind [Xu,XR,Zq,Xa,Qdy,QeD]
  ·exact QhN T v h F H n
 ·exact QhN T v h F H n
noncomputable def Qsr (l : List UInt8) : List Value:=List.rec [] (fun b _ ih=>.int .u8 (.ofNat b.toNat) :: ih) l
theorem QiL : ∀ l : List UInt8,Qsr l = l.map fun b=>.int .u8 (b.toNat : Int)
 | []=>rfl
 | b :: l=>congrArg _ (QiL l)
noncomputable def byS (v : Value) (ih : Option (List UInt8)) : Option (List UInt8):=match v with
 | .int .u8 (.ofNat z)=>(match ih with
  | some r=>some (UInt8.ofNat z :: r)
  | none=>none)
 | _=>none
noncomputable def byO (l : List Value) : Option (List UInt8):=List.rec (some []) (fun v _ ih=>byS v ih) l
theorem QnP : ∀ (l : List Value) {r : List UInt8},byO l = some r → l.all QgY = true ∧ Xd l = true ∧ l.map Qa6 = r
 | [],r,h=>by cases h;exact ⟨rfl,rfl,rfl⟩
 | v :: l,r,h=>by
  have h' : byS v (byO l) = some r:=h;unfold byS at h';split at h'
  ·rename_i z;split at h'
   ·rename_i r' hr;injection h' with h'
    subst h';obtain ⟨h1,h2,h3⟩:=QnP l hr;refine ⟨?_,?_,?_⟩
    ·simpa [QgY] using h1
    ·grind [Xd,ZB]
    ·simp only [List.map_cons,h3];rfl
   ·cases h'
  ·cases h'
noncomputable def Qpj (P : Program) (src dst : TypeId) (x : Operand) : Clo OpF:=match tki P src,tki P dst with
 | some k1,some k2=>⟨fun _ T _ _=>match (XF x).run T with
  | some (.int k0 (.ofNat z))=>bif kEq k0 k1 then .p (.int k2 (fw k2 z)) else .no
  | some v=>anP (Qba P src dst v)
  | none=>.no⟩
 | _,_=>match Q9 P src,P.underlying dst,P.underlying src with
  | true,some (.slice e),_=>bif Qa9 P e && Nat.beq e u8T then ⟨fun _ T H n=>match (XF x).run T with
   | some (.string ⟨⟨l⟩⟩)=>bif Nat.ble l.length maxLen then .new (.slice (some ⟨n,0,none⟩) l.length l.length) (.row ⟨e,1,Qsr l⟩) else .no
   | _=>.no⟩ else ⟨fun _ _ _ _=>.no⟩
  | false,_,some (.slice e)=>bif Q9 P dst && Qa9 P e then ⟨fun _ T H n=>match (XF x).run T with
   | some (.slice (some ⟨p,i,_⟩) k c)=>(match Yq H p with
    | some r=>(match Qrr r.cs i k with
     | some cs=>(match byO cs with
      | some l=>.q (some p) (.string (bs l))
      | none=>.no)
     | none=>.no)
    | none=>.no)
   | some (.slice none k c)=>bif Nat.beq k 0 then .q none (.string (bs [])) else .no
   | some (.pointer (some ⟨_,_,some _⟩))=>.q none (.string (bs []))
   | _=>.no⟩ else (bif Nat.beq src dst then ⟨fbF P (.convert src dst x)⟩ else ⟨fun _ _ _ _=>.no⟩)
  | _,_,_=>⟨fun _ T _ _=>match (XF x).run T with
   | some v=>anP (Qba P src dst v)
   | none=>.no⟩
theorem QfE {P : Program} {src dst : TypeId} {x : Operand} {F : CallF} {T : Tr Value} {H : Hp} {n : Nat} {a v : Value} (h1 : opd (en T) x = some a) (h : Qba P src dst a = some v) : Xu P (en T) H n F (.convert src dst x) = some (.p v):=by
 simp only [Xu,h1,h]
theorem Qn2 {P : Program} {src dst : TypeId} {x : Operand} : ZQ P (.convert src dst x) (Qpj P src dst x).run:=by
 intro F hF T H n;unfold Qpj;split
 ·rename_i k1 k2 h1 h2;simp only [QR];split
  ·rename_i k0 z h3;cases hk : kEq k0 k1 with
   | false=>exact trivial
   | true=>
    refine QfE h3 ?_
    grind [Qba,QgC]
  ·grind [QjU,QfE]
  ·exact trivial
 ·rename_i hno;split
  ·rename_i e hs hd;cases hc : Qa9 P e && Nat.beq e u8T with
   | false=>exact trivial
   | true=>
    simp only [cond_true,QR];split
    ·rename_i l h3;cases hl : Nat.ble l.length maxLen with
     | false=>exact trivial
     | true=>
      simp only [cond_true];show Xu _ _ _ _ _ _ = _;have hns : Q9 P dst = false:=by simp [Q9,hd]
      have hcv : Qba P src dst (.string ⟨⟨l⟩⟩) = none:=by simp [Qba,hns]
      simp only [Bool.and_eq_true] at hc;simp only [Xu,h3,hcv,Qf1,hd,hs,hc.1,hc.2,hl,Bool.and_self,cond_true,QiL];rfl
    ·exact trivial
  ·rename_i e hs hu;cases hc : Q9 P dst && Qa9 P e with
   | false=>
    cases hd : Nat.beq src dst with
    | false=>exact trivial
    | true=>exact QnB P _ F hF T H n
   | true=>
    simp only [Bool.and_eq_true] at hc;simp only [cond_true,QR];split
    ·rename_i p i q k c h3;split
     ·rename_i r hr;split
      ·rename_i cs h4;split
       ·rename_i l h5;obtain ⟨g1,rfl⟩:=QeU _ _ _ h4;obtain ⟨g2,g3,g4⟩:=QnP _ h5;refine ⟨fun H2 h6=>?_,fun k9 h9=>by injection h9 with h9;subst h9;exact ⟨_,QcC hr⟩⟩;have hr2 : Yq H2 p = some r:=by unfold Yq;rw [h6 p rfl,QcC hr]
        have hble : Nat.ble (i + k) r.cs.length = true:=Nat.ble_eq_true_of_le g1
        grind [Xu,Qba,Qf1]
       ·exact trivial
      ·exact trivial
     ·exact trivial
    ·rename_i k c h3;cases hk : Nat.beq k 0 with
     | false=>exact trivial
     | true=>
      refine ⟨fun H2 _=>?_,fun k9 h9=>by cases h9⟩
      grind [Xu,Qba,Qf1]
    ·rename_i p i q h3;refine ⟨fun H2 _=>?_,fun k9 h9=>by cases h9⟩
     grind [Xu,Qba,Qf1]
    ·exact trivial
  ·simp only [QR];split
   ·grind [QjU,QfE]
   ·exact trivial
noncomputable def Qnz (P : Program) (t x : Nat) : Clo OpF:=match tsz P t with
 | some (sz,true)=>⟨fun _ T H _=>match YE (pth x) x T with
  | some (.pointer (some ⟨m,i,none⟩))=>(match Yq H m with
   | some r=>(match Qrr r.cs i sz with
    | some c=>.q (some m) (.agg ⟨c⟩)
    | none=>.no)
   | none=>.no)
  | _=>.no⟩
 | some (sz,false)=>bif Nat.beq sz 1 then ⟨fun _ T H _=>match YE (pth x) x T with
  | some (.pointer (some ⟨m,i,none⟩))=>(match Yq H m with
   | some r=>(match Qrc r.cs i with
    | some c=>.q (some m) c
    | none=>.no)
   | none=>.no)
  | _=>.no⟩ else ⟨fun _ _ _ _=>.no⟩
 | none=>⟨fun _ _ _ _=>.no⟩
theorem Qno {P : Program} {t x : Nat} : ZQ P (.load t (.tmp x)) (Qnz P t x).run:=by
 intro F hF T H n;unfold Qnz;split
 ·rename_i sz h1;simp only [];split
  ·rename_i m i h2;split
   ·rename_i r hr;split
    ·rename_i c h3;obtain ⟨g1,rfl⟩:=QeU _ _ _ h3;refine ⟨fun H2 h6=>?_,fun k9 h9=>by injection h9 with h9;subst h9;exact ⟨_,QcC hr⟩⟩;have hr2 : Yq H2 m = some r:=by unfold Yq;rw [h6 m rfl,QcC hr]
     have hble : Nat.ble (i + sz) r.cs.length = true:=Nat.ble_eq_true_of_le g1
     grind [Xu,Qf0,en]
    ·exact trivial
   ·exact trivial
  ·exact trivial
 ·rename_i sz h1;cases hs : Nat.beq sz 1 with
  | false=>exact trivial
  | true=>
   simp only [cond_true];split
   ·rename_i m i h2;split
    ·rename_i r hr;split
     ·rename_i c h3;rw [QeT] at h3;refine ⟨fun H2 h6=>?_,fun k9 h9=>by injection h9 with h9;subst h9;exact ⟨_,QcC hr⟩⟩
      grind [Yq,QcC,Xu,Qf0,en]
     ·exact trivial
    ·exact trivial
   ·exact trivial
 ·exact trivial
noncomputable def QjJ (P : Program) (t x : Nat) (y : Operand) : Clo OpF:=match tsz P t with
 | some (sz,_)=>⟨fun _ T H n=>match YE (pth x) x T with
  | some (.pointer (some ⟨m,i,none⟩))=>(match (XF y).run T with
   | some v=>(match Yq H m with
    | some ⟨ty,s,cs⟩=>bif Zy v && Nat.beq v.cells.toList.length sz then (match setO cs i v.cells.toList with
     | some c=>.h undef (X5 H m ⟨ty,s,c⟩) n
     | none=>.no) else .no
    | none=>.no)
   | none=>.no)
  | _=>.no⟩
 | none=>⟨fun _ _ _ _=>.no⟩
theorem Qma {P : Program} {t x : Nat} {y : Operand} : ZQ P (.store t (.tmp x) y) (QjJ P t x y).run:=by
 intro F hF T H n;unfold QjJ;split
 ·rename_i sz ag h1;simp only [QR];split
  ·rename_i m i h2;split
   ·rename_i v h3;split
    ·rename_i ty s cs hr;cases hc : Zy v && Nat.beq v.cells.toList.length sz with
     | false=>exact trivial
     | true=>
      simp only [cond_true];split
      ·rename_i c h4;obtain ⟨g1,rfl⟩:=Qlk _ _ _ h4;simp only [Bool.and_eq_true] at hc;have hl:=Nat.eq_of_beq_eq_true hc.2;have hble : Nat.ble (i + sz) cs.length = true:=Nat.ble_eq_true_of_le (by rw [← hl];exact g1);show Xu _ _ _ _ _ _ = _
       grind [Xu,QhC,en]
      ·exact trivial
    ·exact trivial
   ·exact trivial
  ·exact trivial
 ·exact trivial
noncomputable def QjN (P : Program) (t : Nat) : Clo OpF:=match QM P t with
 | some z=>bif Xd z then ⟨fun _ _ _ n=>.new (.pointer (some ⟨n,0,none⟩)) (.row ⟨t,0,z⟩)⟩ else ⟨fun _ _ _ _=>.no⟩
 | none=>⟨fun _ _ _ _=>.no⟩
theorem Qnj {P : Program} {t : Nat} : ZQ P (.alloc t) (QjN P t).run:=by
 intro F hF T H n;unfold QjN;split
 ·rename_i z h1;cases hf : Xd z with
  | false=>exact trivial
  | true=>
   show Xu _ _ _ _ _ _ = _;simp only [Xu,QuA,h1,hf,cond_true];rfl
 ·exact trivial
noncomputable def Quj (t : Nat) (x : Operand) : Clo OpF:=⟨fun _ T _ n=>match (XF x).run T with
 | some v=>bif Zy v then .new (.pointer (some ⟨n,0,none⟩)) (.row ⟨t,0,v.cells.toList⟩) else .no
 | none=>.no⟩
theorem Qrl {P : Program} {t : Nat} {x : Operand} : ZQ P (.box t x) (Quj t x).run:=by
 intro F hF T H n;unfold Quj;simp only [QR];split
 ·rename_i v h1;cases hf : Zy v with
  | false=>exact trivial
  | true=>
   show Xu _ _ _ _ _ _ = _;simp only [Xu,QtT,h1,hf,cond_true];rfl
 ·exact trivial
noncomputable def cBS (P : Program) (t len : Nat) (parts : List (Nat × Operand)) : Clo OpF:=match tsl P t with
 | some (e,sz,_)=>match QM P e with
  | some z=>bif Xd z && (Nat.ble (len * sz) 16777216 && (Nat.blt 0 (len * sz) && Xd (Qpr z (len * sz)))) then ⟨fun _ T _ n=>match Qdq (en T) parts with
   | some vs=>(match Zh (fun i=>some (i * sz,sz)) (Qpr z (len * sz)) vs with
    | some cs=>.new (.slice (some ⟨n,0,none⟩) len len) (.row ⟨e,sz,cs⟩)
    | none=>.no)
   | none=>.no⟩ else ⟨fun _ _ _ _=>.no⟩
  | none=>⟨fun _ _ _ _=>.no⟩
 | none=>⟨fun _ _ _ _=>.no⟩
theorem Qs5 {P : Program} {t len : Nat} {parts : List (Nat × Operand)} (hne : ¬ (len = 0 ∧ parts = [])) : ZQ P (.buildSlice t len ⟨parts⟩) (cBS P t len parts).run:=by
 intro F hF T H n;unfold cBS;split
 ·rename_i e sz by' h1;split
  ·rename_i z h2;cases hc : Xd z && (Nat.ble (len * sz) 16777216 && (Nat.blt 0 (len * sz) && Xd (Qpr z (len * sz)))) with
   | false=>exact trivial
   | true=>
    simp only [cond_true];split
    ·rename_i vs h3;split
     ·rename_i cs h4;show Xu _ _ _ _ _ _ = _
      have hb : Zi P (en T) H n t len parts = some (.h (.slice (some ⟨n,0,none⟩) len len) (YG H n (.row ⟨e,sz,cs⟩)) (n + 1)):=by
       simp only [Zi,h3,h1,h2,h4,hc,cond_true];rfl
      grind [Xu]
     ·exact trivial
    ·exact trivial
  ·exact trivial
 ·exact trivial
noncomputable def Quu (P : Program) (t : Nat) : Clo OpF:=match tsl P t with
 | some (e,sz,_)=>⟨fun _ _ _ n=>.new (.slice (some ⟨n,0,none⟩) 0 0) (.row ⟨e,sz,[]⟩)⟩
 | none=>⟨fun _ _ _ _=>.no⟩
theorem Qrx {P : Program} {t : Nat} : ZQ P (.buildSlice t 0 ⟨[]⟩) (Quu P t).run:=by
 intro F hF T H n;unfold Quu;split
 ·rename_i e sz by' h1;show Xu _ _ _ _ _ _ = _;simp only [Xu,h1];rfl
 ·exact trivial
noncomputable def cMS (P : Program) (t : Nat) (x y : Operand) : Clo OpF:=match tsl P t with
 | some (e,sz,by')=>match QM P e with
  | some z=>⟨fun _ T _ n=>match (XF x).run T with
   | some (.int .i64 (.ofNat k))=>(match (XF y).run T with
    | some (.int .i64 (.ofNat k'))=>bif Nat.ble k k' && (Nat.ble (k' * by') 281474976710656 && (Nat.ble k' 16777216 && Xd (Xw z (k' * sz)))) then .new (.slice (some ⟨n,0,none⟩) k k') (.row ⟨e,sz,Xw z (k' * sz)⟩) else .no
    | _=>.no)
   | _=>.no⟩
  | none=>⟨fun _ _ _ _=>.no⟩
 | none=>⟨fun _ _ _ _=>.no⟩
theorem Qt9 {P : Program} {t : Nat} {x y : Operand} : ZQ P (.makeSlice t x y) (cMS P t x y).run:=by
 intro F hF T H n;unfold cMS;split
 ·rename_i e sz by' h1;split
  ·rename_i z h2;simp only [QR];split
   ·rename_i k h3;split
    ·rename_i k' h4;cases hc : Nat.ble k k' && (Nat.ble (k' * by') 281474976710656 && (Nat.ble k' 16777216 && Xd (Xw z (k' * sz)))) with
     | false=>exact trivial
     | true=>
      show Xu _ _ _ _ _ _ = _;simp only [Xu,Qa0,h3,h4,h1,h2,hc,cond_true];rfl
    ·exact trivial
   ·exact trivial
  ·exact trivial
 ·exact trivial
noncomputable def QlI (F : CallF) (g : FuncId) (vs : List Value) (H : Hp) (n : Nat) : An:=match F.f F.y g vs H n with
 | some (v,H',n')=>.h v H' n'
 | none=>.no
noncomputable def QjQ (P : Program) (g : Nat) (args : List Operand) : Clo OpF:=⟨fun F T H n=>match (QgH args).run T with
 | some vs=>(match F.e g vs with
  | some v=>.q none v
  | none=>bif Xl P g then QlI F g vs H n else .no)
 | none=>.no⟩
theorem Qjw {P : Program} {op : Op} {F : CallF} {T : Tr Value} {H : Hp} {n : Nat} {g : FuncId} {vs : List Value} (h : ∀ v H' n',F.f F.y g vs H n = some (v,H',n') → Xu P (en T) H n F op = some (.h v H' n')) : Qtb P op F T H n (QlI F g vs H n):=by
 unfold QlI;split
 ·rename_i v H' n' hr;exact h _ _ _ hr
 ·exact trivial
theorem Qmh {P : Program} {g : Nat} {args : List Operand} {ts : Array TypeId} : ZQ P (.call ⟨.value (.func g),⟨args⟩,ts⟩) (QjQ P g args).run:=by
 intro F hF T H n;unfold QjQ;simp only [Qe3];split
 ·rename_i vs h1;split
  ·rename_i v h2;exact ⟨fun H2 _=>by simp only [Xu,h1,h2],fun k h9=>by cases h9⟩
  ·rename_i h2;cases hc : Xl P g with
   | false=>exact trivial
   | true=>grind [Qjw,Xu,Qej]
 ·exact trivial
noncomputable def QjL (P : Program) (f : Operand) (args : List Operand) : Clo OpF:=⟨fun F T H n=>match (XF f).run T with
 | some (.func (.func g) ⟨a⟩ ⟨b⟩)=>(match (QgH args).run T with
  | some vs=>bif Xl P g then QlI F g (a ++ vs ++ b) H n else .no
  | none=>.no)
 | some (.func (.yield k) ⟨[]⟩ ⟨[]⟩)=>(match (QgH args).run T with
  | some vs=>(match F.y k vs H n with
   | some (v,H',n')=>.h v H' n'
   | none=>.no)
  | none=>.no)
 | _=>.no⟩
theorem Qm0 {P : Program} {f : Operand} {args : List Operand} {ts : Array TypeId} (hf : ∀ g,f ≠ .func g) : ZQ P (.call ⟨.value f,⟨args⟩,ts⟩) (QjL P f args).run:=by
 intro F hF T H n;unfold QjL;simp only [QR,Qe3];split
 ·rename_i g a b h1;split
  ·rename_i vs h2;cases hc : Xl P g with
   | false=>exact trivial
   | true=>simp_all [Qjw,Qej,opd,en,QcL,Xu]
  ·exact trivial
 ·rename_i k h1;split
  ·rename_i vs h2;split
   ·rename_i v H' n' hr;have hb : Qej P H n F (opd (en T) f) (QcL (en T) args) = some (.h v H' n'):=by grind [Qej]
    show Xu _ _ _ _ _ _ = _
    simp_all [Xu]
   ·exact trivial
  ·exact trivial
 ·exact trivial
noncomputable def QpI (P : Program) (t : Nat) (m x : Operand) : Clo OpF:=⟨fun _ T H _=>match (XF m).run T with
 | some (.map (some r))=>(match Z8 P H t (some (.map (some r))) ((XF x).run T) with
  | some (.q v)=>.q (some r) v
  | _=>.no)
 | _=>.no⟩
theorem Qpx {P : Program} {t : Nat} {m x : Operand} : ZQ P (.lookup t m x false) (QpI P t m x).run:=by
 intro F hF T H n;unfold QpI;simp only [QR];split
 ·rename_i r h1;split
  ·rename_i v h2
   have hm : ∃ ks,Qfj H r = some ks:=by
    unfold Z8 at h2
    grind
   obtain ⟨ks,hks⟩:=hm;refine ⟨fun H2 h6=>?_,fun k h9=>by injection h9 with h9;subst h9;exact ⟨_,Qpv hks⟩⟩;have hr2 : Qfj H2 r = Qfj H r:=by unfold Qfj;rw [h6 r rfl]
   have : Z8 P H2 t (some (.map (some r))) (opd (en T) x) = Z8 P H t (some (.map (some r))) (opd (en T) x):=by
    unfold Z8
    grind
   grind [Xu]
  ·exact trivial
 ·exact trivial
noncomputable def Qsf : Clo OpF:=⟨fun _ _ _ n=>.new (.map (some n)) (.mp [])⟩
theorem Qph {P : Program} {t : Nat} : ZQ P (.makeMap t none) Qsf.run:=by
 intro F hF T H n;show Xu _ _ _ _ _ _ = _;simp only [Xu]
noncomputable def Zu (P : Program) : Op → Clo OpF
 | .move x=>⟨ofV (XF x).run⟩
 | .assign x=>⟨ofV (XF x).run⟩
 | .pick c a b=>⟨ofV (Qow c a b).run⟩
 | .binOp op t x y _=>⟨ofV (Qoc P op t x y).run⟩
 | .convert src dst x=>Qpj P src dst x
 | .extract x i=>⟨ofV (QtK x i).run⟩
 | .field st x f=>⟨ofV (QkB P st x f).run⟩
 | .fieldAddr st x f=>⟨ofV (cFA P st x f).run⟩
 | .index t x y=>⟨ofV (Quf P t x y).run⟩
 | .indexAddr t x y=>⟨ofV (cIA P t x y).run⟩
 | .load t (.tmp x)=>Qnz P t x
 | .store t (.tmp x) y=>QjJ P t x y
 | .alloc t=>QjN P t
 | .box t x=>Quj t x
 | .buildSlice t 0 ⟨[]⟩=>Quu P t
 | .buildSlice t len ⟨parts⟩=>cBS P t len parts
 | .makeSlice t x y=>cMS P t x y
 | .call ⟨.builtin .len,⟨[x]⟩,⟨[t]⟩⟩=>⟨ofV (Qua P t x).run⟩
 | .call ⟨.value (.func g),⟨args⟩,_⟩=>QjQ P g args
 | .call ⟨.value f,⟨args⟩,_⟩=>QjL P f args
 | .makeMap t none=>Qsf
 | .lookup t m x false=>QpI P t m x
 | op=>⟨fbF P op⟩
theorem Qip {P : Program} {x : Operand} : VOk P (.move x) (XF x).run ∧ VOk P (.assign x) (XF x).run:=by
 constructor <;> (intro T v h F H n;rw [QR] at h;simp only [Xu,h];rfl)
theorem QbP (P : Program) (op : Op) : ZQ P op (Zu P op).run:=by
 unfold Zu;split
 ·exact Qam Qip.1
 ·exact Qam Qip.2
 ·exact Qam QnA
 ·exact Qam QoI
 ·exact Qn2
 ·exact Qam QqP
 ·exact Qam QmI
 ·exact Qam QsF
 ·exact Qam Qri
 ·exact Qam QsM
 ·exact Qno
 ·exact Qma
 ·exact Qnj
 ·exact Qrl
 ·exact Qrx
 ·grind [Qs5]
 ·exact Qt9
 ·exact Qam QrQ
 ·exact Qmh
 ·grind [Qm0]
 ·exact Qph
 ·exact Qpx
 ·exact QnB P _
end Ev
namespace Ev
open Go Go.RowKit
inductive Rs where
 | bad
 | nm (T : Tr Value) (H : Hp) (n : Nat)
 | ex (i : Nat) (T : Tr Value) (H : Hp) (n : Nat)
 | rt (T : Tr Value) (H : Hp) (n : Nat)
abbrev SF:=CallF → Tr Value → Hp → Nat → Rs
abbrev CS:=Clo SF
noncomputable def noC : CS:=⟨fun _ _ _ _=>.bad⟩
noncomputable def cOn (P : Program) (nt : Nat) (o : Oper) (rest : CS) : CS:=match o.dst with
 | some d=>bif Nat.blt d nt then ⟨fun F T H n=>match (Zu P o.op).run F T H n with
  | .no=>.bad
  | .p v=>rest.run F (Yh (pth d) d v T) H n
  | .q _ v=>rest.run F (Yh (pth d) d v T) H n
  | .new v x=>rest.run F (Yh (pth d) d v T) (YG H n x) (Nat.succ n)
  | .h v H' n'=>rest.run F (Yh (pth d) d v T) H' n'⟩ else noC
 | none=>⟨fun F T H n=>match (Zu P o.op).run F T H n with
  | .no=>.bad
  | .p v=>rest.run F T H n
  | .q _ v=>rest.run F T H n
  | .new v x=>rest.run F T (YG H n x) (Nat.succ n)
  | .h v H' n'=>rest.run F T H' n'⟩
noncomputable def Qq0 (nt : Nat) (dst : Option Nat) (rest : CS) : CS:=match dst with
 | some d=>bif Nat.blt d nt then ⟨fun F T H n=>rest.run F (Yh (pth d) d undef T) H n⟩ else noC
 | none=>rest
noncomputable def Qa3 (P : Program) (nt : Nat) (all : Array Oper) : List Oper → CS
 | []=>⟨fun _ T H n=>.nm T H n⟩
 | o :: l=>match o.guard with
  | none=>cOn P nt o (Qa3 P nt all l)
  | some (j,want)=>match (all[j]?).bind (·.dst) with
   | some dj=>⟨fun F T H n=>match YE (pth dj) dj T with
    | some (.bool b)=>Bool.rec ((Qq0 nt o.dst (Qa3 P nt all l)).run F T H n) ((cOn P nt o (Qa3 P nt all l)).run F T H n) (b == want)
    | some (.tuple ⟨[]⟩)=>(match o.dst with
     | some _=>(Qq0 nt o.dst (Qa3 P nt all l)).run F T H n
     | none=>.bad)
    | _=>.bad⟩
   | none=>noC
structure St where
 T : Tr Value
 H : Hp
 n : Nat
structure StOk (r0 : Rho) (w0 : World) (ρ : Rho) (st : St) (L' : Qb) (As : List HA) : Prop where
 le : r0.le ρ
 sr : SR ρ (en st.T) L'
 hp : HM ρ st.H As
 fr : QO ρ st.n
theorem Qn0 {T : Tr Value} {d : Nat} {v : Value} : ∀ t x,en (Yh (pth d) d v T) t = some x → (t = d ∧ x = v) ∨ (t ≠ d ∧ en T t = some x):=by grind [en,Zd,YV]
theorem SR.set {ρ : Rho} {T : Tr Value} {L' : Qb} {d : Nat} {v u : Value} (e : SR ρ (en T) L') (hu : den ρ v = some u) : SR ρ (en (Yh (pth d) d v T)) ((d,u) :: L'):=e.put hu Qn0
def Qg4 (r0 : Rho) (w0 : World) (ρ : Rho) (st : St) (K : Qb → (World → Prop) → Prop) : Prop:=
 ∀ ρ' L2 As2,ρ.le ρ' → StOk r0 w0 ρ' st L2 As2 → K L2 (HS w0 [] As2)
theorem Qg4.mono {r0 : Rho} {w0 : World} {ρ ρ' : Rho} {st : St} {K : Qb → (World → Prop) → Prop} (h : ρ.le ρ') (ht : Qg4 r0 w0 ρ st K) : Qg4 r0 w0 ρ' st K:=fun ρ2 L2 As2 h2 hs=>ht ρ2 L2 As2 (Rho.le_trans h h2) hs
def QX (r0 : Rho) (w0 : World) (ρ : Rho) (X : Ctx) (k : List KI) : Rs → Prop
 | .bad=>False
 | .nm T H n=>Qg4 r0 w0 ρ ⟨T,H,n⟩ (S X k)
 | .ex i T H n=>Qg4 r0 w0 ρ ⟨T,H,n⟩ (SE X (.exit i) k)
 | .rt T H n=>Qg4 r0 w0 ρ ⟨T,H,n⟩ (SE X .ret k)
theorem QX.mono {r0 : Rho} {w0 : World} {ρ ρ' : Rho} {X : Ctx} {k : List KI} (h : ρ.le ρ') : ∀ {r : Rs},QX r0 w0 ρ X k r → QX r0 w0 ρ' X k r
 | .bad,ht=>ht.elim
 | .nm _ _ _,ht=>Qg4.mono h ht
 | .ex _ _ _ _,ht=>Qg4.mono h ht
 | .rt _ _ _,ht=>Qg4.mono h ht
theorem CallOk.fok {P : Program} {r0 : Rho} {F : CallF} (h : CallOk P r0 F) : True:=trivial
section
variable {P : Program} {r0 : Rho} {w0 : World} {F : CallF} {X : Ctx} {k : List KI} {all : Array Oper}
def Qtn (w0 : World) (ρ : Rho) (H : Hp) (n : Nat) : Ans → Value → (World → Prop) → Prop
 | .p v=>Out w0 ρ v H n
 | .q v=>Out w0 ρ v H n
 | .h v H n=>Out w0 ρ v H n
theorem Qvv {o : Oper} {L' : Qb} {ρ : Rho} {st : St} {As : List HA} {a : Ans} (h : ZX P o L' w0 ρ st.H st.n As a) (hp : HM ρ st.H As) (hf : QO ρ st.n) : OpT P o L' (HS w0 [] As) (Qtn w0 ρ st.H st.n a):=by
 cases a with
 | p v=>obtain ⟨u,h1,h2⟩:=h;exact OpT.of_p h1 h2 hp hf
 | q v=>obtain ⟨u,h1,h2⟩:=h;exact OpT.of_q h1 h2 hp hf
 | h v H n=>exact h
theorem QnV (hF : CallOk P r0 F) (hP : X.P = P) {dst : Option Nat} {op : Op} {ty : TypeId} {pos : String} {aft : Array Edge} {gd : Option (Nat × Bool)} {rest : CS} {l : List Oper} {T : Tr Value} {H : Hp} {n : Nat} {ρ : Rho} {L' : Qb} {As : List HA}
  (ih : ∀ T H n ρ L' As,QX r0 w0 ρ X k (rest.run F T H n) → StOk r0 w0 ρ ⟨T,H,n⟩ L' As → O X all l k L' (HS w0 [] As)) (ht : QX r0 w0 ρ X k ((cOn P X.n ⟨dst,op,ty,pos,aft,gd⟩ rest).run F T H n)) (hs : StOk r0 w0 ρ ⟨T,H,n⟩ L' As) :
  O X all (⟨dst,op,ty,pos,aft,none⟩ :: l) k L' (HS w0 [] As):=by
 have key : ∀ a v (H' : Hp) (n' : Nat),Xu P (en T) H n F op = some a → Qtn w0 ρ H n a = Out w0 ρ v H' n' → (match dst with
   | some d=>Nat.blt d X.n = true ∧ QX r0 w0 ρ X k (rest.run F (Yh (pth d) d v T) H' n')
   | none=>QX r0 w0 ρ X k (rest.run F T H' n')) → O X all (⟨dst,op,ty,pos,aft,none⟩ :: l) k L' (HS w0 [] As):=by
  intro a v H' n' h1 h2 h3;have ha:=Z3 (w0:=w0) (L':=L') (o:=⟨dst,op,ty,pos,aft,none⟩) hF hs.le rfl hs.sr hs.hp hs.fr h1;have hT : OpT P _ L' _ (Qtn w0 ρ H n a):=Qvv (st:=⟨T,H,n⟩) ha hs.hp hs.fr;rw [h2] at hT;obtain ⟨G,V,Fg,C',hH,hK⟩:=hT;cases dst with
  | some d=>
   obtain ⟨hd,h3⟩:=h3;refine o_h (by rw [hP];exact hH) hd fun g hg=>?_;obtain ⟨ρ',As',g1,g2,g3,g4,g5⟩:=hK g hg;exact Ye g5 (ih _ _ _ ρ' _ As' (h3.mono g1) ⟨Rho.le_trans hs.le g1,(hs.sr.mono g1).set g3,g4,g2⟩)
  | none=>
   refine QmN (by rw [hP];exact hH) fun g hg=>?_;obtain ⟨ρ',As',g1,g2,g3,g4,g5⟩:=hK g hg;exact Ye g5 (ih _ _ _ ρ' _ As' (h3.mono g1) ⟨Rho.le_trans hs.le g1,hs.sr.mono g1,g4,g2⟩)
 have hc:=QbP P op F hF.fok T H n;cases dst with
 | some d=>
  simp only [cOn] at ht;cases hb : Nat.blt d X.n with
  | false=>rw [hb] at ht;exact ht.elim
  | true=>
   rw [hb] at ht;simp only [cond_true] at ht;cases hr : (Zu P op).run F T H n with
   | no=>rw [hr] at ht;exact ht.elim
   | p v=>rw [hr] at hc ht;exact key _ v H n hc rfl ⟨hb,ht⟩
   | q m v=>rw [hr] at hc ht;exact key _ v H n (hc.1 H fun _ _=>rfl) rfl ⟨hb,ht⟩
   | new v x=>rw [hr] at hc ht;exact key _ v (YG H n x) (n + 1) hc rfl ⟨hb,ht⟩
   | h v H' n'=>rw [hr] at hc ht;exact key _ v H' n' hc rfl ⟨hb,ht⟩
 | none=>
  simp only [cOn] at ht;cases hr : (Zu P op).run F T H n with
  | no=>rw [hr] at ht;exact ht.elim
  | p v=>rw [hr] at hc ht;exact key _ v H n hc rfl ht
  | q m v=>rw [hr] at hc ht;exact key _ v H n (hc.1 H fun _ _=>rfl) rfl ht
  | new v x=>rw [hr] at hc ht;exact key _ v (YG H n x) (n + 1) hc rfl ht
  | h v H' n'=>rw [hr] at hc ht;exact key _ v H' n' hc rfl ht
theorem QbT {ρ : Rho} : den ρ undef = some undef:=rfl
theorem Qe0 (hF : CallOk P r0 F) (hP : X.P = P) : ∀ (l : List Oper) (T : Tr Value) (H : Hp) (n : Nat) (ρ : Rho) (L' : Qb) (As : List HA),QX r0 w0 ρ X k ((Qa3 P X.n all l).run F T H n) → StOk r0 w0 ρ ⟨T,H,n⟩ L' As → O X all l k L' (HS w0 [] As)
 | [],T,H,n,ρ,L',As,ht,hs=>Qlg (ht ρ L' As ρ.le_refl hs)
 | ⟨dst,op,ty,pos,aft,guard⟩ :: l,T,H,n,ρ,L',As,ht,hs=>by
  have ih:=Qe0 hF hP l;cases guard with
  | none=>exact QnV hF hP ih ht hs
  | some jw=>
   obtain ⟨j,want⟩:=jw;simp only [Qa3] at ht;split at ht
   ·rename_i dj hj;simp only [] at ht;split at ht
    ·rename_i b hb;obtain ⟨u,e1,e2⟩:=hs.sr.get (show en T dj = _ from hb);injection e2 with e2
     subst e2;cases hw : b == want with
     | true=>
      rw [hw] at ht
      grind [o_on,QnV]
     | false=>
      rw [hw] at ht;have hw' : b = !want:=by cases b <;> cases want <;> simp_all
      simp only [Qq0] at ht;split at ht
      ·rename_i d;cases hd : Nat.blt d X.n with
       | false=>rw [hd] at ht;exact ht.elim
       | true=>
        rw [hd] at ht;exact Qp6 dj b hj e1 hw' hd (ih _ _ _ ρ _ As ht ⟨hs.le,hs.sr.set QbT,hs.hp,hs.fr⟩)
      grind [QjS]
    ·rename_i hb;obtain ⟨u,e1,e2⟩:=hs.sr.get (show en T dj = _ from hb);injection e2 with e2
     subst e2;split at ht
     ·rename_i d;simp only [Qq0] at ht;cases hd : Nat.blt d X.n with
      | false=>rw [hd] at ht;exact ht.elim
      | true=>
       rw [hd] at ht;exact Qql dj hj e1 hd (ih _ _ _ ρ _ As ht ⟨hs.le,hs.sr.set QbT,hs.hp,hs.fr⟩)
     ·exact ht.elim
    ·exact ht.elim
   ·exact ht.elim
end
end Ev
namespace Ev
open Go Go.RowKit
noncomputable def Qln (b : SF) (m : Nat) : SF:=Nat.rec (fun _ _ _ _=>.bad) (fun _ ih F T H n=>match b F T H n with
 | .nm T H n=>ih F T H n
 | r=>r) m
noncomputable def XX (P : Program) (nt m : Nat) (Dr : Nat → Array Oper → CS) : Code → CS
 | .skip=>⟨fun _ T H n=>.nm T H n⟩
 | .label _=>⟨fun _ T H n=>.nm T H n⟩
 | .region _ ⟨ops⟩ false=>Qa3 P nt ⟨ops⟩ ops
 | .region _ ⟨ops⟩ true=>Dr nt ⟨ops⟩
 | .seq a b=>⟨fun F T H n=>match (XX P nt m Dr a).run F T H n with
  | .nm T H n=>(XX P nt m Dr b).run F T H n
  | r=>r⟩
 | .cond x a b=>⟨fun F T H n=>match (XF x).run T with
  | some (.bool t)=>Bool.rec ((XX P nt m Dr b).run F T H n) ((XX P nt m Dr a).run F T H n) t
  | _=>.bad⟩
 | .block id b=>⟨fun F T H n=>match (XX P nt m Dr b).run F T H n with
  | .ex i T H n=>bif Nat.beq i id then .nm T H n else .ex i T H n
  | r=>r⟩
 | .loop b=>⟨Qln (XX P nt m Dr b).run m⟩
 | .exit i=>⟨fun _ T H n=>.ex i T H n⟩
 | .ret=>⟨fun _ T H n=>.rt T H n⟩
 | _=>noC
def Qkd (P : Program) (Dr : Nat → Array Oper → CS) : Prop:=∀ (l : List Oper) (id : Nat) (r0 : Rho) (w0 : World) (X : Ctx) (k : List KI) (F : CallF) (T : Tr Value) (H : Hp) (n : Nat) (ρ : Rho) (L' : Qb) (As : List HA),X.P = P → CallOk P r0 F → QX r0 w0 ρ X k ((Dr X.n ⟨l⟩).run F T H n) → StOk r0 w0 ρ ⟨T,H,n⟩ L' As → S X (.c (.region id ⟨l⟩ true) :: k) L' (HS w0 [] As)
section
variable {P : Program} {r0 : Rho} {w0 : World} {X : Ctx} {m : Nat} {Dr : Nat → Array Oper → CS}
theorem QaG {x : KI} {k : List KI} {L : Qb} {C : World → Prop} (h : SE X .ret k L C) : SE X .ret (x :: k) L C:=by
 rcases x with c | id | J
 ·exact fun a w ha hw=>h a w ha hw
 ·exact fun a w ha hw=>h a w ha hw
 ·exact fun a w ha hw=>h a w ha hw
def reS (L : Qb) : Qb → Qb
 | []=>[]
 | (t,_) :: h=>match Qb.get L t with
  | some v=>(t,v) :: reS L h
  | none=>reS L h
theorem QgX (L : Qb) : ∀ h,Qbh L (reS L h)
 | []=>trivial
 | (t,x) :: h=>by
  simp only [reS];split
  ·rename_i v hv;exact ⟨hv,QgX L h⟩
  ·exact QgX L h
theorem QlR {L : Qb} {t : Nat} {v : Value} (hv : Qb.get L t = some v) : ∀ h x,Qb.get h t = some x → Qb.get (reS L h) t = some v
 | [],x,hx=>by cases hx
 | (k,y) :: h,x,hx=>by
  simp only [Qb.get] at hx;simp only [reS];cases hb : Nat.beq k t with
  | true=>simp_all [Qb.get]
  | false=>
   rw [hb] at hx;have ih:=QlR hv h x hx
   grind [Qb.get]
theorem SR.clean {ρ : Rho} {L : Env} {L' : Qb} (h : SR ρ L L') : SR ρ L (reS L' L') ∧ Qbh L' (reS L' L'):=
 ⟨fun t v hv=>by
  obtain ⟨u,h1,h2⟩:=h t v hv;exact ⟨u,QlR h1 _ _ h1,h2⟩,QgX _ _⟩
theorem QX.seq {c : Code} {k : List KI} {ρ : Rho} (b : CS) {F : CallF} (ih : ∀ T H n ρ L' As,QX r0 w0 ρ X k (b.run F T H n) → StOk r0 w0 ρ ⟨T,H,n⟩ L' As → S X (.c c :: k) L' (HS w0 [] As)) : ∀ {r : Rs},QX r0 w0 ρ X k (match r with
  | .nm T H n=>b.run F T H n
  | r=>r) → QX r0 w0 ρ X (.c c :: k) r
 | .bad,h=>h.elim
 | .nm T H n,h=>fun ρ2 L2 As2 hle hs2=>ih _ _ _ _ _ _ (QX.mono hle h) hs2
 | .ex i T H n,h=>fun ρ2 L2 As2 hle hs2=>QdH (h ρ2 L2 As2 hle hs2)
 | .rt T H n,h=>fun ρ2 L2 As2 hle hs2=>QaG (h ρ2 L2 As2 hle hs2)
theorem QX.blk {id : Nat} {k : List KI} {ρ : Rho} : ∀ {r : Rs},QX r0 w0 ρ X k (match r with
  | .ex i T H n=>bif Nat.beq i id then .nm T H n else .ex i T H n
  | r=>r) → QX r0 w0 ρ X (.blk id :: k) r
 | .bad,h=>h.elim
 | .nm T H n,h=>fun ρ2 L2 As2 hle hs2=>Qss (h ρ2 L2 As2 hle hs2)
 | .ex i T H n,h=>fun ρ2 L2 As2 hle hs2=>by
  simp only [] at h;cases hb : Nat.beq i id with
  | true=>
   rw [hb] at h;have hi:=Nat.eq_of_beq_eq_true hb;subst hi;exact QcP (h ρ2 L2 As2 hle hs2)
  | false=>
   rw [hb] at h;exact Qdj hb (h ρ2 L2 As2 hle hs2)
 | .rt T H n,h=>fun ρ2 L2 As2 hle hs2=>QaG (h ρ2 L2 As2 hle hs2)
theorem Qom {c : Code} {b : SF} {F : CallF} {k : List KI} (ih : ∀ (k : List KI) T H n ρ L' As,QX r0 w0 ρ X k (b F T H n) → StOk r0 w0 ρ ⟨T,H,n⟩ L' As → S X (.c c :: k) L' (HS w0 [] As)) {m : Nat} {T : Tr Value} {H : Hp} {n : Nat} {ρ : Rho} {L' : Qb} {As : List HA}
  (ht : QX r0 w0 ρ X k (Qln b m F T H n)) (hs : StOk r0 w0 ρ ⟨T,H,n⟩ L' As) : S X (.c (.loop c) :: k) L' (HS w0 [] As):=by
 let α:={ x : Nat × St × Rho × Qb × List HA // QX r0 w0 x.2.2.1 X k (Qln b x.1 F x.2.1.T x.2.1.H x.2.1.n) ∧ StOk r0 w0 x.2.2.1 x.2.1 x.2.2.2.1 x.2.2.2.2 }
 obtain ⟨f1,f2⟩:=hs.sr.clean;refine Qn5 (α:=α) (fun x=>x.1.2.2.2.1) (fun x=>HS w0 [] x.1.2.2.2.2) (fun x=>x.1.1) ⟨(m,⟨T,H,n⟩,ρ,_,As),ht,⟨hs.le,f1,hs.hp,hs.fr⟩⟩ f2 (fun _ h=>h) ?_;rintro ⟨⟨m1,⟨T1,H1,n1⟩,ρ1,L1,As1⟩,h1,h2⟩;cases m1 with
 | zero=>exact h1.elim
 | succ m1=>
  refine ih _ T1 H1 n1 ρ1 L1 As1 ?_ h2
  have h3 : QX r0 w0 ρ1 X k (match b F T1 H1 n1 with
   | .nm T H n=>Qln b m1 F T H n
   | r=>r):=h1
  cases hr : b F T1 H1 n1 with
  | bad=>rw [hr] at h3;exact h3.elim
  | nm T2 H2 n2=>
   rw [hr] at h3;intro ρ2 L2 As2 hle hs2;obtain ⟨g1,g2⟩:=hs2.sr.clean;exact Qui (⟨(m1,⟨T2,H2,n2⟩,ρ2,_,As2),QX.mono hle h3,⟨hs2.le,g1,hs2.hp,hs2.fr⟩⟩ : α) (Nat.lt_succ_self m1) g2 (fun _ h=>h)
  | ex i T2 H2 n2=>
   rw [hr] at h3;exact fun ρ2 L2 As2 hle hs2=>Qdb (h3 ρ2 L2 As2 hle hs2)
  | rt T2 H2 n2=>
   rw [hr] at h3;exact fun ρ2 L2 As2 hle hs2=>QaG (h3 ρ2 L2 As2 hle hs2)
theorem Q5 {F : CallF} (hF : CallOk P r0 F) (hD : Qkd P Dr) (hP : X.P = P) : ∀ (c : Code) (k : List KI) (T : Tr Value) (H : Hp) (n : Nat) (ρ : Rho) (L' : Qb) (As : List HA),QX r0 w0 ρ X k ((XX P X.n m Dr c).run F T H n) → StOk r0 w0 ρ ⟨T,H,n⟩ L' As → S X (.c c :: k) L' (HS w0 [] As)
 | .skip,k,T,H,n,ρ,L',As,ht,hs=>Qo0 (ht ρ L' As ρ.le_refl hs)
 | .label _,k,T,H,n,ρ,L',As,ht,hs=>QrN (ht ρ L' As ρ.le_refl hs)
 | .region _ ⟨ops⟩ false,k,T,H,n,ρ,L',As,ht,hs=>Qjo (Qe0 hF hP ops T H n ρ L' As ht hs)
 | .region id ⟨ops⟩ true,k,T,H,n,ρ,L',As,ht,hs=>hD ops id r0 w0 X k F T H n ρ L' As hP hF ht hs
 | .seq a b,k,T,H,n,ρ,L',As,ht,hs=>Qk5 (Q5 hF hD hP a _ T H n ρ L' As (QX.seq (XX P X.n m Dr b) (Q5 hF hD hP b k) ht) hs)
 | .cond x a b,k,T,H,n,ρ,L',As,ht,hs=>by
  simp only [XX,QR] at ht;split at ht
  ·rename_i t hx;have hx':=Qh hs.sr hx rfl;cases t with
   | true=>exact QfL hx' (fun _=>Q5 hF hD hP a k T H n ρ L' As ht hs) (fun h=>by cases h)
   | false=>exact QfL hx' (fun h=>by cases h) (fun _=>Q5 hF hD hP b k T H n ρ L' As ht hs)
  ·exact ht.elim
 | .block id b,k,T,H,n,ρ,L',As,ht,hs=>Qhp (Q5 hF hD hP b _ T H n ρ L' As (QX.blk ht) hs)
 | .loop b,k,T,H,n,ρ,L',As,ht,hs=>Qom (fun k=>Q5 hF hD hP b k) ht hs
 | .exit i,k,T,H,n,ρ,L',As,ht,hs=>Qoq (ht ρ L' As ρ.le_refl hs)
 | .ret,k,T,H,n,ρ,L',As,ht,hs=>Qsp (ht ρ L' As ρ.le_refl hs)
 | .rangeFunc _ _ _ _,_,_,_,_,_,_,_,ht,_=>ht.elim
 | .scope _,_,_,_,_,_,_,_,ht,_=>ht.elim
 | .goto _,_,_,_,_,_,_,_,ht,_=>ht.elim
 | .refuse _,_,_,_,_,_,_,_,ht,_=>ht.elim
end
def Rho.wx (ρ : Rho) (e : List HA) : Rho:=⟨ρ.f,e⟩
theorem SR.wx {ρ : Rho} {L : Env} {L' : Qb} (h : SR ρ L L') (e : List HA) : SR (ρ.wx e) L L':=h
noncomputable def noY : Qnn:=fun _ _ _ _=>none
theorem QcK {P : Program} {r0 : Rho} : YOk P r0 noY:=fun _ _ _ _ _ _ _ h=>by cases h
noncomputable def Qlm (nt : Nat) : List Nat → List Value → Tr Value → Option (Tr Value)
 | [],[],T=>some T
 | p :: ps,v :: vs,T=>bif Nat.blt p nt then Qlm nt ps vs (Yh (pth p) p v T) else none
 | _,_,_=>none
noncomputable def QjH (ca cb : SF) (nt : Nat) (ps : List Nat) (F : CallF) (T0 : Tr Value) (nm : Nat) : Qnn:=fun k vs H n=>bif Nat.beq k nm then (match Qlm nt ps vs T0 with
 | some T1=>(match ca ⟨F.f,F.e,noY⟩ T1 H n with
  | .nm T2 H2 n2=>(match cb ⟨F.f,F.e,noY⟩ T2 H2 n2 with
   | .nm _ H3 n3=>some (.bool true,H3,n3)
   | _=>none)
  | _=>none)
 | none=>none) else none
noncomputable def QfD (P : Program) (g : Operand) (ca cb : SF) (nt : Nat) (ps : List Nat) : CS:=⟨fun F T H n=>match (XF g).run T with
 | some (.func (.func gf) ⟨[]⟩ ⟨lb⟩)=>bif Xl P gf then (match F.f (QjH ca cb nt ps F T n) gf (.func (.yield n) #[] #[] :: lb) H (Nat.succ n) with
  | some (_,H',n')=>.nm T H' n'
  | none=>.bad) else .bad
 | _=>.bad⟩
def Qg9 : Code → Bool
 | .rangeFunc _ _ _ _=>true
 | .seq a b=>Qg9 a || Qg9 b
 | .cond _ a b=>Qg9 a || Qg9 b
 | .block _ b=>Qg9 b
 | _=>false
noncomputable def ZZ (P : Program) (nt m : Nat) (Dr : Nat → Array Oper → CS) : Code → CS
 | .seq a b=>Bool.rec (Bool.rec (XX P nt m Dr (.seq a b)) ⟨fun F T H n=>match (XX P nt m Dr a).run F T H n with
   | .nm T H n=>(ZZ P nt m Dr b).run F T H n
   | r=>r⟩ (Qg9 b)) ⟨fun F T H n=>match (ZZ P nt m Dr a).run F T H n with
   | .nm T H n=>(XX P nt m Dr b).run ⟨F.f,F.e,noY⟩ T H n
   | r=>r⟩ (Qg9 a)
 | .cond x a b=>⟨fun F T H n=>match (XF x).run T with
  | some (.bool t)=>Bool.rec ((ZZ P nt m Dr b).run F T H n) ((ZZ P nt m Dr a).run F T H n) t
  | _=>.bad⟩
 | .block id b=>⟨fun F T H n=>match (ZZ P nt m Dr b).run F T H n with
  | .ex i T H n=>bif Nat.beq i id then .nm T H n else .ex i T H n
  | r=>r⟩
 | .rangeFunc g ⟨ps⟩ assign body=>QfD P g (XX P nt m Dr assign).run (XX P nt m Dr body).run nt ps
 | c=>XX P nt m Dr c
theorem Qla {ρ : Rho} {n : Nat} : ∀ {ps : List Nat} {vs us : List Value} {T T1 : Tr Value} {L : Qb} {t : Array Value},Qlm n ps vs T = some T1 → Qu (den ρ) vs = some us → SR ρ (en T) L → FR n [] L { tmps:=t,defers:=[] } →
  ∃ L1,SR ρ (en T1) L1 ∧ FR n [] L1 { tmps:=(ps.zip us).foldl (fun t (p,v)=>t.setIfInBounds p v) t,defers:=[] } ∧ us.length = ps.length
 | [],[],us,T,T1,L,t,h,hm,hs,hf=>by
  injection h with h
  cases hm;subst h;exact ⟨L,hs,hf,rfl⟩
 | p :: ps,v :: vs,us,T,T1,L,t,h,hm,hs,hf=>by
  simp only [Qlm] at h;obtain ⟨hb,h⟩:=Qaf h;simp only [Qu] at hm;split at hm
  ·rename_i u us' h1 h2;injection hm with hm
   subst hm;have hf1:=hf.put p u hb;obtain ⟨L1,g1,g2,g3⟩:=Qla (t:=t.setIfInBounds p u) h h2 (hs.set h1) ⟨rfl,hf1.size,hf1.slot⟩;exact ⟨L1,g1,g2,by simp [g3]⟩
  ·cases hm
 | [],_ :: _,_,_,_,_,_,h,_,_,_=>by cases h
 | _ :: _,[],_,_,_,_,_,h,_,_,_=>by cases h
theorem Qos {α : Type} {P : Program} {fn : Func} {n l D : Nat} {fid : FuncId} {tmps : Array Value} {ps : Array Tmp} {assign body : Code} {args : Array Value} {L0 : Qb} {LJ : α → Qb} {AJ : α → List HA} {w0 W : World} {As : List HA} {Rr : Ending → World → Prop}
  (hC : HS w0 [] (.obj l (.loop (rdy fid tmps ps assign body D)) :: As) W) (hps : args.size = ps.size) (hf : FR n [] L0 { tmps:=(ps.zip args).foldl (fun t (p,v)=>t.setIfInBounds p v) tmps,defers:=[] })
  (h1 : S { P:=P,fn:=fn,n:=n,R:=fun _ _=>False,rd:=some l } [.c assign,.join (At n [] LJ (fun x=>HS w0 [] (.obj l (.loop (rdy fid tmps ps assign body D)) :: AJ x)))] L0 (HS w0 [] (.obj l (.loop (rdy fid tmps ps assign body D)) :: As)))
  (h2 : ∀ x,S { P:=P,fn:=fn,n:=n,R:=Rr,rd:=some l } [.c body] (LJ x) (HS w0 [] (.obj l (.loop { rdy fid tmps ps assign body D with state:=.busy }) :: AJ x))) : Qhb P l args W Rr:=by
 refine ⟨fid,_,assign,body,run_yield (hC.obj_get .here) hps,roundIn_of_wpIn trivial ?_⟩;refine wpIn_mono (h1 _ W hf hC) fun e a w he=>?_;cases e with
 | normal=>
  obtain ⟨x,hfr,hc⟩:=he;exact ⟨_,run_beginRound (hc.obj_get .here) rfl,h2 x _ _ hfr (hc.putObj .here _)⟩
 | ret=>obtain ⟨v,w',_,hx⟩:=he;exact hx
 | exit id=>obtain ⟨v,w',_,hx⟩:=he;exact hx
 | goto t=>obtain ⟨v,w',_,hx⟩:=he;exact hx
 | panic ch=>exact he
 | outgrown=>exact he
section
variable {P : Program} {r0 : Rho} {w0 : World} {X : Ctx} {m : Nat} {Dr : Nat → Array Oper → CS}
theorem HM.split {ρ : Rho} {H : Hp} {As : List HA} (h : HM ρ H As) : ∃ Bs,As = Bs ++ ρ.ex ∧ ∀ e,HM (ρ.wx e) H (Bs ++ e):=by
 obtain ⟨G,Bs,h1,h2,h3⟩:=h;exact ⟨Bs,h3,fun e=>⟨G,Bs,h1,h2,rfl⟩⟩
theorem QmZ {fn : Func} {nt l D : Nat} {fid : FuncId} {tmps : Array Value} {ps : List Nat} {assign body : Code} {T0 : Tr Value} {nm d : Nat} {r1 : Rho} {rest : List HA} {L : Qb} {F : CallF} (hF : ∀ r,CallOk P r ⟨F.f,F.e,noY⟩) (hD : Qkd P Dr)
  (hn : r1 nm = some (l,d)) (hex : r1.ex = .obj l (.loop (rdy fid tmps ⟨ps⟩ assign body D)) :: rest) (hf : FR nt [] L { tmps:=tmps,defers:=[] }) (hs : SR r1 (en T0) L) : YOk P r1 (QjH (XX P nt m Dr assign).run (XX P nt m Dr body).run nt ps F T0 nm):=by
 intro k vs H n v H' n' h w0 ρ us As hle hus hH hfr;unfold QjH at h;have hk : Nat.beq k nm = true:=by grind
 rw [hk] at h;simp only [cond_true] at h;have hk:=Nat.eq_of_beq_eq_true hk;subst hk;refine ⟨(l,d),hle.1 _ _ hn,?_⟩;split at h
 ·rename_i T1 hb;split at h
  ·rename_i T2 H2 n2 ha;split at h
   ·rename_i T3 H3 n3 hc;injection h with h
    injection h with e1 e2
    injection e2 with e2 e3
    subst e1 e2 e3;obtain ⟨L1,g1,g2,g3⟩:=Qla hb hus (hs.mono hle) hf;intro w hw;have hρe : ρ.ex = .obj l (.loop (rdy fid tmps ⟨ps⟩ assign body D)) :: rest:=by rw [hle.2,hex]
    obtain ⟨Bs,hAs,hBs⟩:=hH.split
    let α:={ x : Rho × List HA × Qb × List HA // ρ.le x.1 ∧ StOk x.1 w0 x.1 ⟨T2,H2,n2⟩ x.2.2.1 x.2.1 ∧ x.2.1 = x.2.2.2 ++ x.1.ex }
    refine Qos (fn:=fn) (n:=nt) (α:=α) (L0:=L1) (As:=Bs ++ rest) (LJ:=fun x=>x.1.2.2.1) (AJ:=fun x=>x.1.2.2.2 ++ rest) (hw.perm (by rw [hAs,hρe];exact List.perm_middle)) (by simp [g3]) (by simpa using g2) ?_ ?_
    ·have hA:=Q5 (r0:=ρ) (w0:=w0) (X:={ P:=P,fn:=fn,n:=nt,R:=fun _ _=>False,rd:=some l }) (m:=m) (hF ρ) hD rfl assign [.join (At nt [] (fun x : α=>x.1.2.2.1) (fun x=>HS w0 [] (.obj l (.loop (rdy fid tmps ⟨ps⟩ assign body D)) :: (x.1.2.2.2 ++ rest))))] T1 H n ρ L1 As (by
      rw [ha];intro ρ2 L2 As2 hle2 hs2;obtain ⟨Bs2,k1,k2⟩:=hs2.hp.split;intro a9 w9 ha9 hw9
      have hpm : As2.Perm (.obj l (.loop (rdy fid tmps ⟨ps⟩ assign body D)) :: (Bs2 ++ rest)):=by
       rw [k1,hle2.2,hρe];exact List.perm_middle
      exact ⟨(⟨(ρ2,As2,L2,Bs2),hle2,⟨ρ2.le_refl,hs2.sr,hs2.hp,hs2.fr⟩,k1⟩ : α),ha9,hw9.perm hpm⟩) ⟨ρ.le_refl,g1,hH,hfr⟩
     intro a9 w9 ha9 hw9;exact hA a9 w9 ha9 (hw9.perm (by rw [hAs,hρe];exact List.perm_middle.symm))
    ·rintro ⟨⟨ρ2,As2,L2,Bs2⟩,q1,q2,q3⟩;simp only [] at q1 q2 q3;have hρ2 : ρ2.ex = .obj l (.loop (rdy fid tmps ⟨ps⟩ assign body D)) :: rest:=by rw [q1.2,hρe]
     obtain ⟨Bs2',k1,k2⟩:=q2.hp.split;have hbb : Bs2' = Bs2:=List.append_cancel_right (k1.symm.trans q3);subst hbb
     have hB:=Q5 (r0:=ρ2.wx (.obj l (.loop { rdy fid tmps ⟨ps⟩ assign body D with state:=.busy }) :: rest)) (w0:=w0) (X:={ P:=P,fn:=fn,n:=nt,R:=Ql1 w0 ρ (.bool true) H3 n3,rd:=some l }) (m:=m) (hF _) hD rfl body [] T2 H2 n2 (ρ2.wx (.obj l (.loop { rdy fid tmps ⟨ps⟩ assign body D with state:=.busy }) :: rest)) L2 (Bs2' ++ (.obj l (.loop { rdy fid tmps ⟨ps⟩ assign body D with state:=.busy }) :: rest)) (by
      rw [hc];intro ρ3 L3 As3 hle3 hs3;obtain ⟨Bs3,j1,j2⟩:=hs3.hp.split;have hρ3 : ρ3.ex = .obj l (.loop { rdy fid tmps ⟨ps⟩ assign body D with state:=.busy }) :: rest:=hle3.2;refine QoP (As':=Bs3 ++ rest) rfl (by rw [j1,hρ3];exact List.perm_middle) fun w9 hw9=>?_;refine ⟨ρ3.wx (.obj l (.loop (rdy fid tmps ⟨ps⟩ assign body D)) :: rest),Bs3 ++ (.obj l (.loop (rdy fid tmps ⟨ps⟩ assign body D)) :: rest),.bool true,⟨fun n9 x9 h9=>hle3.1 _ _ (q1.1 _ _ h9),by rw [hρe];rfl⟩,hs3.fr,rfl,j2 _,rfl,hw9.perm List.perm_middle.symm⟩) ⟨Rho.le_refl _,q2.sr,k2 _,q2.fr⟩
     intro a9 w9 ha9 hw9;exact hB a9 w9 ha9 (hw9.perm List.perm_middle.symm)
   ·cases h
  ·cases h
 ·cases h
def RB (w0 : World) (ρ : Rho) (X : Ctx) (k : List KI) (r : Rs) : Prop:=∀ (D : Nat) (ρ1 : Rho),(∀ n x,ρ n = some x → ρ1 n = some x) → ρ1.ex = .obj D (.deferred (some [])) :: ρ.ex → QX ρ1 w0 ρ1 { X with df:=[D] } k r
theorem RB.mono {ρ ρ' : Rho} {k : List KI} {r : Rs} (h : RB w0 ρ X k r) (hle : ρ.le ρ') : RB w0 ρ' X k r:=fun D ρ1 h1 h2=>h D ρ1 (fun n x hx=>h1 n x (hle.1 n x hx)) (by rw [h2,hle.2])
theorem Qmm {F : CallF} (hF : CallOk P r0 F) (hD : Qkd P Dr) (hP : X.P = P) (hrd : X.rd = none) (hdf : X.df = []) {g : Operand} {ps : List Nat} {assign body : Code} {k : List KI} {T : Tr Value} {H : Hp} {n : Nat} {ρ : Rho} {L' : Qb} {As : List HA}
  (hB : RB w0 ρ X k ((QfD P g (XX P X.n m Dr assign).run (XX P X.n m Dr body).run X.n ps).run F T H n)) (hB0 : (QfD P g (XX P X.n m Dr assign).run (XX P X.n m Dr body).run X.n ps).run F T H n ≠ .bad) (hs : StOk r0 w0 ρ ⟨T,H,n⟩ L' As) : S X (.c (.rangeFunc g ⟨ps⟩ assign body) :: k) L' (HS w0 [] As):=by
 subst hP;have hF0 : ∀ r,CallOk X.P r ⟨F.f,F.e,noY⟩:=fun r=>⟨hF.f,hF.e,QcK⟩;unfold QfD at hB hB0;simp only [QR] at hB hB0;split at hB0
 ·rename_i gf lb hx;rw [hx] at hB;simp only [] at hB;cases hfn : Xl X.P gf with
  | false=>rw [hfn] at hB0;exact absurd rfl hB0
  | true=>
   rw [hfn] at hB hB0;simp only [cond_true] at hB hB0;split at hB0
   ·rename_i v H' n' hr;rw [hr] at hB;simp only [] at hB;obtain ⟨u,e1,e2⟩:=YT hs.sr hx;simp only [den,Xr,QP,Qcl] at e2;split at e2
    ·rename_i f' a' lb' g1 g2 g3;injection g1 with g1
     injection e2 with e2
     subst g1 e2;injection g2 with g2
     subst g2;obtain ⟨Bs0,hAs,hBs0⟩:=hs.hp.split;have hAs : As = Bs0 ++ ρ.ex:=hAs
     let G:={ x : (Nat → Option (Nat × Nat)) × List HA // (∀ n y,ρ n = some y → x.1 n = some y) ∧ (∀ k,n' ≤ k → x.1 k = none) ∧ ∃ Bs,x.2 = Bs ++ ρ.ex ∧ ∀ e,HM ⟨x.1,e⟩ H' (Bs ++ e) }
     refine QrA (gf:=gf) (lb:=lb'.toArray) (G:=G) (Bs:=fun x=>x.1.2) hrd hdf e1 hfn ?_ ?_
     ·intro fid D l a w1 ob hob hfr hw1;subst hob
      let r1 : Rho:=⟨(ext ρ n (l,0)).f,.obj l (.loop (rdy fid a.tmps ⟨ps⟩ assign body D)) :: .obj D (.deferred (some [])) :: ρ.ex⟩
      have hle1 : ∀ n y,ρ n = some y → r1 n = some y:=(Qfv hs.fr (l,0)).1;have hr1n : r1 n = some (l,0):=QaO ρ n (l,0);have hmono : ∀ {x y : Value},XJ ρ x = some y → den r1 x = some y:=fun {x y} hx=>Qfu (ρ:=ρ.wx r1.ex) (ρ':=r1) ⟨hle1,rfl⟩ x y (Qcq (QaS (QnI hx)));have hY:=QmZ (P:=X.P) (fn:=X.fn) (nt:=X.n) (m:=m) (Dr:=Dr) (l:=l) (D:=D) (fid:=fid) (tmps:=a.tmps) (ps:=ps) (assign:=assign) (body:=body) (T0:=T) (nm:=n) (d:=0) (r1:=r1) (L:=L') hF0 hD hr1n rfl ⟨rfl,hfr.size,hfr.slot⟩ (SR.mono (ρ:=ρ.wx r1.ex) ⟨hle1,rfl⟩ hs.sr);have hM1 : HM r1 H (Bs0 ++ r1.ex):=HM.mono (ρ:=ρ.wx r1.ex) ⟨hle1,rfl⟩ (hBs0 r1.ex)
      have hcall:=hF.f r1 _ hY gf _ H _ v H' n' hr w0 r1 (.func (.yield l) #[] #[] :: lb') (Bs0 ++ r1.ex) r1.le_refl (by
       simp only [Qu,den,Xr,QP,Qcl,hr1n];have:=Xh (fun x y hx=>hmono hx) g3;rw [this]) hM1 (Qav hs.fr (l,0)) w1 (hw1.perm (by
       rw [hAs];show (_ :: _ :: (Bs0 ++ ρ.ex)).Perm (Bs0 ++ (_ :: _ :: ρ.ex));exact (List.perm_middle.trans (List.perm_middle.cons _)).symm))
      have hargs : (.func (.yield l) #[] #[] :: lb').toArray = #[Value.func (.yield l) #[] #[]] ++ lb'.toArray:=by simp
      rw [hargs] at hcall;refine Calls.mono hcall fun e w2 ⟨ρ',As',u',h1,h2,h3,h4,h5,h6⟩=>⟨⟨u',h5⟩,?_⟩;obtain ⟨Bs',j1,j2⟩:=h4.split
      have hpm : As'.Perm (.obj l (.loop (rdy fid a.tmps ⟨ps⟩ assign body D)) :: .obj D (.deferred (some [])) :: (Bs' ++ ρ.ex)):=by
       rw [j1,h1.2];exact List.perm_middle.trans (List.perm_middle.cons _)
      exact ⟨⟨(ρ'.f,Bs' ++ ρ.ex),fun n9 y9 h9=>h1.1 _ _ (hle1 _ _ h9),h2,Bs',rfl,fun e=>j2 e⟩,h6.perm hpm⟩
     ·rintro D ⟨⟨f9,As9⟩,q1,q2,Bs9,q3,q4⟩;simp only [] at q1 q2 q3 q4;have:=hB D ⟨f9,.obj D (.deferred (some [])) :: ρ.ex⟩ q1 rfl ⟨f9,.obj D (.deferred (some [])) :: ρ.ex⟩ L' (Bs9 ++ (.obj D (.deferred (some [])) :: ρ.ex)) (Rho.le_refl _) ⟨Rho.le_refl _,SR.mono (ρ:=ρ.wx (.obj D (.deferred (some [])) :: ρ.ex)) (ρ':=⟨f9,.obj D (.deferred (some [])) :: ρ.ex⟩) ⟨q1,rfl⟩ hs.sr,q4 _,q2⟩;intro a9 w9 ha9 hw9;refine this a9 w9 ha9 (hw9.perm ?_);show (_ :: As9).Perm _;rw [q3];exact List.perm_middle.symm
    ·cases e2
   grind
 grind
theorem Qax {F : CallF} (hF : CallOk P r0 F) (hD : Qkd P Dr) (hP : X.P = P) (hrd : X.rd = none) (hdf : X.df = []) : ∀ (c : Code) (k : List KI) (T : Tr Value) (H : Hp) (n : Nat) (ρ : Rho) (L' : Qb) (As : List HA),QX r0 w0 ρ X k ((ZZ P X.n m Dr c).run F T H n) → RB w0 ρ X k ((ZZ P X.n m Dr c).run F T H n) → StOk r0 w0 ρ ⟨T,H,n⟩ L' As → S X (.c c :: k) L' (HS w0 [] As)
 | .seq a b,k,T,H,n,ρ,L',As,hA,hB,hs=>by
  have hF0 : ∀ r,CallOk P r ⟨F.f,F.e,noY⟩:=fun r=>⟨hF.f,hF.e,QcK⟩;cases ha : Qg9 a with
  | true=>
   simp only [ZZ,ha] at hA hB;refine Qk5 (Qax hF hD hP hrd hdf a (.c b :: k) T H n ρ L' As ?_ ?_ hs)
   ·exact QX.seq (F:=F) ⟨fun F T H n=>(XX P X.n m Dr b).run ⟨F.f,F.e,noY⟩ T H n⟩ (fun T H n ρ L' As h1 h2=>Q5 (m:=m) (hF0 r0) hD hP b k T H n ρ L' As h1 h2) hA
   ·intro D ρ1 h1 h2;exact QX.seq (F:=F) (X:={ X with df:=[D] }) ⟨fun F T H n=>(XX P X.n m Dr b).run ⟨F.f,F.e,noY⟩ T H n⟩ (fun T H n ρ L' As h1 h2=>Q5 (m:=m) (X:={ X with df:=[D] }) (hF0 ρ1) hD hP b k T H n ρ L' As h1 h2) (hB D ρ1 h1 h2)
  | false=>
   cases hb : Qg9 b with
   | false=>
    simp only [ZZ,ha,hb] at hA
    grind [Q5]
   | true=>
    simp only [ZZ,ha,hb] at hA hB;refine Qk5 (Q5 (m:=m) hF hD hP a (.c b :: k) T H n ρ L' As ?_ hs);cases hr : (XX P X.n m Dr a).run F T H n with
    | bad=>rw [hr] at hA;exact hA.elim
    | nm T2 H2 n2=>
     rw [hr] at hA hB;exact fun ρ2 L2 As2 hle hs2=>Qax hF hD hP hrd hdf b k T2 H2 n2 ρ2 L2 As2 (QX.mono hle hA) (RB.mono hB hle) hs2
    | ex i T2 H2 n2=>
     rw [hr] at hA;exact fun ρ2 L2 As2 hle hs2=>QdH (hA ρ2 L2 As2 hle hs2)
    | rt T2 H2 n2=>
     rw [hr] at hA;exact fun ρ2 L2 As2 hle hs2=>QaG (hA ρ2 L2 As2 hle hs2)
 | .cond x a b,k,T,H,n,ρ,L',As,hA,hB,hs=>by
  simp only [ZZ,QR] at hA hB;split at hA
  ·rename_i t hx;rw [hx] at hB;have hx':=Qh hs.sr hx rfl;cases t with
   | true=>exact QfL hx' (fun _=>Qax hF hD hP hrd hdf a k T H n ρ L' As hA hB hs) (fun h=>by cases h)
   | false=>exact QfL hx' (fun h=>by cases h) (fun _=>Qax hF hD hP hrd hdf b k T H n ρ L' As hA hB hs)
  ·exact hA.elim
 | .block id b,k,T,H,n,ρ,L',As,hA,hB,hs=>Qhp (Qax hF hD hP hrd hdf b _ T H n ρ L' As (QX.blk hA) (fun D ρ1 h1 h2=>QX.blk (hB D ρ1 h1 h2)) hs)
 | .rangeFunc g ⟨ps⟩ assign body,k,T,H,n,ρ,L',As,hA,hB,hs=>Qmm hF hD hP hrd hdf hB (fun e=>by
   have hA' : QX r0 w0 ρ X k ((QfD P g (XX P X.n m Dr assign).run (XX P X.n m Dr body).run X.n ps).run F T H n):=hA;rw [e] at hA';exact hA'.elim) hs
 | .skip,k,T,H,n,ρ,L',As,hA,hB,hs=>Q5 hF hD hP _ k T H n ρ L' As hA hs
 | .label _,k,T,H,n,ρ,L',As,hA,hB,hs=>Q5 hF hD hP _ k T H n ρ L' As hA hs
 | .region _ _ _,k,T,H,n,ρ,L',As,hA,hB,hs=>Q5 hF hD hP _ k T H n ρ L' As hA hs
 | .loop _,k,T,H,n,ρ,L',As,hA,hB,hs=>Q5 hF hD hP _ k T H n ρ L' As hA hs
 | .exit _,k,T,H,n,ρ,L',As,hA,hB,hs=>Q5 hF hD hP _ k T H n ρ L' As hA hs
 | .ret,k,T,H,n,ρ,L',As,hA,hB,hs=>Q5 hF hD hP _ k T H n ρ L' As hA hs
 | .scope _,k,T,H,n,ρ,L',As,hA,hB,hs=>Q5 hF hD hP _ k T H n ρ L' As hA hs
 | .goto _,k,T,H,n,ρ,L',As,hA,hB,hs=>Q5 hF hD hP _ k T H n ρ L' As hA hs
 | .refuse _,k,T,H,n,ρ,L',As,hA,hB,hs=>Q5 hF hD hP _ k T H n ρ L' As hA hs
end
noncomputable def Qmv (P : Program) : List ResultVar → Clo (Tr Value → Hp → Option (List Value))
 | []=>⟨fun _ _=>some []⟩
 | .tmp t :: rs=>⟨fun T H=>match YE (pth t) t T with
  | some v=>(match (Qmv P rs).run T H with
   | some vs=>bif Zy v then some (v :: vs) else none
   | none=>none)
  | none=>none⟩
 | .cell at' t :: rs=>⟨fun T H=>match Qf0 P (en T) H t at' with
  | some v=>(match (Qmv P rs).run T H with
   | some vs=>some (v :: vs)
   | none=>none)
  | none=>none⟩
section
variable {P : Program} {ρ : Rho} {L' : Qb} {T : Tr Value} {H : Hp} {As : List HA}
theorem QmK {v u : Value} (h : Zy v = true) (e : den ρ v = some u) : Xr ρ v = some u:=by
 cases v <;> first | exact e | (simp [Zy] at h)
theorem Qg6 (hs : SR ρ (en T) L') (hH : HM ρ H As) : ∀ {rs : List ResultVar} {vs : List Value},(Qmv P rs).run T H = some vs → ∃ us,RV P L' As rs us ∧ Qu (Xr ρ) vs = some us
 | [],vs,h=>by cases h;exact ⟨[],RV.nil,rfl⟩
 | .tmp t :: rs,vs,h=>by
  simp only [Qmv] at h;split at h
  ·rename_i v h1;split at h
   ·rename_i vs' h2;obtain ⟨hc,rfl⟩:=Qq h;obtain ⟨u,e1,e2⟩:=hs.get (show en T t = _ from h1);obtain ⟨us,e3,e4⟩:=Qg6 hs hH h2
    grind [RV.tmp,Qu,QmK]
   ·cases h
  ·cases h
 | .cell at' t :: rs,vs,h=>by
  simp only [Qmv] at h;split at h
  ·rename_i v h1;split at h
   ·rename_i vs' h2;injection h with h
    subst h;obtain ⟨us,e3,e4⟩:=Qg6 hs hH h2;unfold Qf0 at h1;split at h1
    ·rename_i m i hx;split at h1
     ·rename_i r sz ag hg hz;obtain ⟨b,d,cu,Rs,g1,g2,g3,g4,_,_⟩:=X3 hH hg;obtain ⟨p,e1,e2⟩:=hs.get hx;simp only [den,Xr,QP,XJ,g1,Option.some.injEq] at e2;subst e2;cases ag with
      | true=>
       simp only [if_true] at h1;obtain ⟨hb,rfl⟩:=Qq h1;exact ⟨_,RV.cell e1 hz g4 (by rw [Q6 g2];exact hb) e3,by simp only [Qu,Xr,List.toList_toArray,cut,XG sz (Yt i g2),e4]⟩
      | false=>
       have h1' : (bif Nat.beq sz 1 then r.cs[i]? else none) = some v:=by simpa using h1
       obtain ⟨hb,h1'⟩:=Qaf h1';have hk:=Nat.eq_of_beq_eq_true hb;subst hk;obtain ⟨u,f1,f2⟩:=QaC g2 h1'
       grind [RV.cell1,Qu,QaS]
     ·cases h1
    ·cases h1
   ·cases h
  ·cases h
theorem Qqd : ∀ {vs us : List Value},Qu (Xr ρ) vs = some us → den ρ (Xj vs) = some (Xj us)
 | [],us,h=>by cases h;rfl
 | [v],us,h=>by
  simp only [Qu] at h;split at h
  ·rename_i b m h1 h2;injection h2 with h2
   injection h with h
   subst h h2;exact Qcq h1
  ·cases h
 | v :: v' :: vs,us,h=>by
  have hl:=Q6 h;obtain ⟨u,u',us',rfl⟩ : ∃ u u' us',us = u :: u' :: us':=by rcases us with _ | ⟨u,_ | ⟨u',us'⟩⟩ <;> grind
  show den ρ (.tuple (v :: v' :: vs).toArray) = some (.tuple (u :: u' :: us').toArray)
  grind [den]
end
noncomputable def Qo8 (i : Nat) (vs : List Value) : Tr Value:=List.rec (fun _=>.lf) (fun v _ ih i=>Yh (pth i) i v (ih (Nat.succ i))) vs i
theorem QoS {ρ : Rho} : ∀ {vs us : List Value} (i : Nat),Qu (den ρ) vs = some us → SR ρ (en (Qo8 i vs)) (QdA i us)
 | [],us,i,h=>fun t v hv=>by
  have h' : YE (pth t) t (.lf : Tr Value) = some v:=hv;rw [YQ] at h';cases h'
 | v :: vs,us,i,h=>by
  simp only [Qu] at h;split at h
  ·rename_i u m h1 h2;injection h with h
   subst h;exact (QoS (i + 1) h2).set h1
  ·cases h
theorem QrO {X : Ctx} {L : Qb} {w0 : World} {As : List HA} {rs : List ResultVar} {vs : List Value} (hr : X.fn.results = rs.toArray) (hv : RV X.P L As rs vs) (h : ∀ w,HS w0 [] As w → X.R (.returned (Xj vs)) w) (hrd : X.rd = none) (hdf : X.df = []) : SE X .ret [] L (HS w0 [] As):=by
 intro a w ha hw;refine Qig hrd (ha.none hdf) (v:=Xj vs) ?_ (h w hw);have hm:=hv.run ha hw;rw [Qcz hr,Array.mapM_eq_mapM_toList];simp only [Sem.run_bind,Sem.run_map,hm,Result.andThen_ok,Sem.run_pure]
 match vs with
 | []=>rfl
 | [v]=>rfl
 | u :: v :: vs=>simp [Xj]
theorem QqY {X : Ctx} {L : Qb} {w0 : World} {M : List Nat} {As As' : List HA} {D : Nat} {rs : List ResultVar} {vs : List Value} (hr : X.fn.results = rs.toArray) (hp : QD As (.obj D (.deferred (some []))) As') (hv : RV X.P L As' rs vs) (h : ∀ w,HS w0 M As' w → X.R (.returned (Xj vs)) w) (hrd : X.rd = none) (hdf : X.df = [D]) : SE X .ret [] L (HS w0 M As):=by
 intro a w ha hw;show (match X.rd with | none=>bodyPostM X.F 0 X.P X.fn X.R .ret a w | some l=>roundPost X.P l X.R .ret a w);rw [hrd];show LeavesInM X.F 0 X.P X.fn a.tmps X.R a.defers .returning w;rw [ha.defers,hdf];have h1:=(hw.putObj hp (.deferred none)).tail;refine ⟨by simp,.inl ⟨D,_,rfl,run_takeDeferred (hw.obj_get hp),Xj vs,?_,h _ h1⟩⟩;have hm:=hv.run ha h1;rw [Qcz hr,Array.mapM_eq_mapM_toList];simp only [Sem.run_bind,Sem.run_map,hm,Result.andThen_ok,Sem.run_pure]
 match vs with
 | []=>rfl
 | [v]=>rfl
 | u :: v :: vs=>simp [Xj]
noncomputable def QhS (P : Program) (m : Nat) (Dr : Nat → Array Oper → CS) (g : FuncId) : Clo (CallF → List Value → Hp → Nat → Option (Value × Hp × Nat)):=match P.funcs[g]? with
 | some fn=>match fn.body with
  | some b=>⟨fun F vs H n=>bif Nat.ble vs.length fn.ntmps then (match (ZZ P fn.ntmps m Dr b).run F (Qo8 0 vs) H n with
   | .rt T H n=>(match (Qmv P fn.results.toList).run T H with
    | some rs=>some (Xj rs,H,n)
    | none=>none)
   | .nm T H n=>(match fn.results.toList with
    | []=>some (.tuple #[],H,n)
    | _=>none)
   | _=>none) else none⟩
  | none=>⟨fun _ _ _ _=>none⟩
 | none=>⟨fun _ _ _ _=>none⟩
theorem QmP {P : Program} {r0 : Rho} {m : Nat} {Dr : Nat → Array Oper → CS} {F : CallF} (hF : CallOk P r0 F) (hD : Qkd P Dr) : QiU P r0 (fun g=>(QhS P m Dr g).run F):=by
 intro f vs H n v H' n' h w0 ρ us As hle0 hus hH hf w hw;simp only [QhS] at h;split at h
 ·rename_i fn h1;split at h
  ·rename_i b h2;obtain ⟨hc,h⟩:=Qaf h;have hle : Nat.ble us.length fn.ntmps = true:=by rw [Q6 hus];exact hc
   refine enter (args:=us) (C:=HS w0 [] As) h1 rfl h2 hle hw ?_;refine Qax (m:=m) hF hD rfl rfl rfl b [] (Qo8 0 vs) H n ρ _ As ?_ ?_ ⟨hle0,QoS 0 hus,hH,hf⟩
   ·show QX r0 w0 ρ _ [] ((ZZ P fn.ntmps m Dr b).run F (Qo8 0 vs) H n);split at h
    ·rename_i T2 H2 n2 hr;rw [hr];intro ρ2 L2 As2 hle2 hs2;split at h
     ·rename_i rs hrs;injection h with h
      injection h with e1 e2
      injection e2 with e2 e3
      subst e1 e2 e3;obtain ⟨us2,g1,g2⟩:=Qg6 hs2.sr hs2.hp hrs;exact QrO (rs:=fn.results.toList) (by simp) g1 (fun w' hw'=>⟨ρ2,As2,Xj us2,hle2,hs2.fr,Qqd g2,hs2.hp,rfl,hw'⟩) rfl rfl
     ·cases h
    ·rename_i T2 H2 n2 hr;rw [hr];intro ρ2 L2 As2 hle2 hs2;split at h
     ·rename_i hres;injection h with h
      injection h with e1 e2
      injection e2 with e2 e3
      subst e1 e2 e3;have hres' : fn.results = #[]:=by rw [← Array.toArray_toList (xs:=fn.results),hres]
      exact Qfw hres' (fun w' hw'=>⟨ρ2,As2,.tuple #[],hle2,hs2.fr,rfl,hs2.hp,rfl,hw'⟩) rfl rfl
     ·cases h
    ·cases h
   ·intro D ρ1 h1' h2';show QX ρ1 w0 ρ1 _ [] ((ZZ P fn.ntmps m Dr b).run F (Qo8 0 vs) H n);split at h
    ·rename_i T2 H2 n2 hr;rw [hr];intro ρ2 L2 As2 hle2 hs2;split at h
     ·rename_i rs hrs;injection h with h
      injection h with e1 e2
      injection e2 with e2 e3
      subst e1 e2 e3;obtain ⟨Bs,k1,k2⟩:=hs2.hp.split;have hex : ρ2.ex = .obj D (.deferred (some [])) :: ρ.ex:=hle2.2.trans h2';have hpm : As2.Perm (.obj D (.deferred (some [])) :: (Bs ++ ρ.ex)):=by simp_all
      have hsr : SR (ρ2.wx ρ.ex) (en T2) L2:=hs2.sr;obtain ⟨us2,g1,g2⟩:=Qg6 hsr (k2 ρ.ex) hrs;exact QqY (rs:=fn.results.toList) (by simp) hpm g1 (fun w' hw'=>⟨ρ2.wx ρ.ex,Bs ++ ρ.ex,Xj us2,⟨fun n x hx=>hle2.1 n x (h1' n x hx),rfl⟩,hs2.fr,Qqd g2,k2 _,rfl,hw'⟩) rfl rfl
     ·cases h
    ·rename_i T2 H2 n2 hr;rw [hr];intro ρ2 L2 As2 hle2 hs2;split at h
     ·rename_i hres;injection h with h
      injection h with e1 e2
      injection e2 with e2 e3
      subst e1 e2 e3;obtain ⟨Bs,k1,k2⟩:=hs2.hp.split;have hex : ρ2.ex = .obj D (.deferred (some [])) :: ρ.ex:=hle2.2.trans h2';have hpm : As2.Perm (.obj D (.deferred (some [])) :: (Bs ++ ρ.ex)):=by simp_all
      have hres' : fn.results = #[]:=by rw [← Array.toArray_toList (xs:=fn.results),hres]
      exact QtA (As':=Bs ++ ρ.ex) (D:=D) hres' hpm (fun w' hw'=>⟨ρ2.wx ρ.ex,Bs ++ ρ.ex,.tuple #[],⟨fun n x hx=>hle2.1 n x (h1' n x hx),rfl⟩,hs2.fr,rfl,k2 _,rfl,hw'⟩) rfl rfl
     ·cases h
    ·cases h
  ·cases h
 ·cases h
noncomputable def bare (v : Value) : Bool:=(den ⟨fun _=>none,[]⟩ v).isSome
noncomputable def Qlv (F : Qis) (g : FuncId) (vs : List Value) : Option Value:=match F g vs .lf 0 with
 | some r=>bif Xd vs && bare r.1 then some r.1 else none
 | none=>none
theorem Qp8 {P : Program} {F : Qis} (hF : QiU P ⟨fun _=>none,[]⟩ F) : Qi9 P fun g vs=>bif Xl P g then Qlv F g vs else none:=by
 intro f vs v h w0 ρ us As hvs o L' args ts ho hev;obtain ⟨hfn,h⟩:=Qaf h;unfold Qlv at h;split at h
 ·rename_i r hr;obtain ⟨hc,rfl⟩:=Qq h;obtain ⟨v,H',n'⟩:=r;simp only [Bool.and_eq_true] at hc
  have hus : us = vs:=by
   have h2:=Xh (fun a b e=>Qcq (QaS e)) (XQ (ρ:=ρ) hc.1)
   grind
  subst hus;obtain ⟨u,hu⟩:=Option.isSome_iff_exists.1 hc.2
  have hmono : ∀ {ρ' : Rho} {x y : Value},den ⟨fun _=>none,[]⟩ x = some y → den ρ' x = some y:=fun {ρ'} {x} {y} e=>by
   have:=Qfu (ρ:=⟨fun _=>none,ρ'.ex⟩) (ρ':=ρ') ⟨fun n x h=>(by cases h),rfl⟩ x y e;exact this
  refine ⟨u,hmono hu,?_⟩;intro a w hρ hw
  have hcall:=hF f us .lf 0 v H' n' hr w ⟨fun _=>none,[]⟩ us [] (Rho.le_refl _) (Xh (fun a b e=>Qcq (QaS e)) (XQ hc.1)) ⟨[],[],(fun m r hm=>by
   have h' : YE (pth m) m (.lf : Hp) = some r:=hm;rw [YQ] at h';cases h'),rfl,rfl⟩ (fun _ _=>rfl) w (HS.refl w [])
  rw [Qap ho hρ (show ev L' (.func f) = some (.func (.func f) #[] #[]) from rfl) hfn hev];simp only [Array.empty_append,Array.append_empty];refine Calls.mono hcall fun e w' ⟨ρ',As',u',h1,h2,h3,h4,h5,h6⟩=>?_;rw [hmono hu] at h3;injection h3 with h3
  subst h3;exact ⟨_,h5,rfl,h6.nil.below⟩
 ·cases h
structure KnOk (P : Program) (K : CallF) : Prop where
 f : ∀ r1 Y,QiU P r1 (K.f Y)
 e : Qi9 P K.e
noncomputable def evF (P : Program) (K : CallF) (Z : FuncId → Bool) (m : Nat) (Dr : Nat → Array Oper → CS) (f : Nat) : CallF:=
 Nat.rec ⟨fun _ _ _ _ _=>none,K.e,noY⟩ (fun _ ih=>⟨fun Y g vs H n=>match K.f Y g vs H n with
  | some r=>some r
  | none=>(QhS P m Dr g).run ⟨ih.f,ih.e,Y⟩ vs H n,fun g vs=>match K.e g vs with
  | some v=>some v
  | none=>Bool.rec none (bif Xl P g then Qlv (ih.f noY) g vs else none) (Z g),noY⟩) f
theorem Qqr {P : Program} {K : CallF} {Z : FuncId → Bool} {m : Nat} {Dr : Nat → Array Oper → CS} (hK : KnOk P K) (hD : Qkd P Dr) : ∀ f r0,CallOk P r0 (evF P K Z m Dr f)
 | 0,r0=>⟨(fun _ _ _ _ _ _ _ _ _ _ h=>by cases h),hK.e,QcK⟩
 | f + 1,r0=>by
  have ih:=Qqr (Z:=Z) (m:=m) hK hD f;refine ⟨?_,?_,QcK⟩
  ·intro r1 Y hY g vs H n v H' n' h
   have h' : (match K.f Y g vs H n with
    | some r=>some r
    | none=>(QhS P m Dr g).run ⟨(evF P K Z m Dr f).f,(evF P K Z m Dr f).e,Y⟩ vs H n) = some (v,H',n'):=h
   split at h'
   ·rename_i r hr;injection h' with h'
    subst h';exact hK.f r1 Y g vs H n v H' n' hr
   ·exact QmP (r0:=r1) (⟨(ih r1).f,(ih r1).e,hY⟩ : CallOk P r1 ⟨(evF P K Z m Dr f).f,(evF P K Z m Dr f).e,Y⟩) hD g vs H n v H' n' h'
  ·intro g vs v h
   have h' : (match K.e g vs with
    | some v=>some v
    | none=>Bool.rec none (bif Xl P g then Qlv ((evF P K Z m Dr f).f noY) g vs else none) (Z g)) = some v:=h
   split at h'
   ·rename_i v' hr;injection h' with h'
    subst h';exact hK.e g vs v' hr
   ·cases hz : Z g with
    | false=>rw [hz] at h';cases h'
    | true=>
     rw [hz] at h';exact Qp8 ((ih ⟨fun _=>none,[]⟩).f _ _ QcK) g vs v h'
end Ev
namespace Ev
open Go Go.RowKit
structure Stp where
 i : Nat
 okP : Bool
 okQ : Bool
 okH : Bool
 turn : Option (List Nat)
def onF (F : List Nat) (i : Nat) : Bool:=F.all fun f=>!Nat.beq f i
def Qjn (n : Nat) : List (List Nat):=[] :: (List.range n).map fun j=>[j]
def Qvt (ops : Array Oper) : List (List Nat) → List Nat → Array Bool → List Nat → List Stp
 | _,_,_,[]=>[]
 | Fs,F,listed,i :: r=>
  ⟨i,QG ops listed i && onF F i,QG ops listed i && (XK ops F i (Qjn ops.size) && Zs F listed),Region.ready .any ops listed == [i],(if F.contains i then some (Fs.headD []) else none)⟩ ::
   Qvt ops (if F.contains i then Fs.tail else Fs) (if F.contains i then Fs.headD [] else F) (listed.setIfInBounds i true) r
def QtI (ops : Array Oper) : Array Bool → List Nat → Bool
 | listed,[]=>Region.ready .any ops listed == []
 | listed,i :: r=>QtI ops (listed.setIfInBounds i true) r
noncomputable def QqG : Option Addr → Option Addr → Bool
 | none,none=>true
 | some ⟨a,b,none⟩,some ⟨c,d,none⟩=>Nat.beq a c && Nat.beq b d
 | some ⟨a,b,some e⟩,some ⟨c,d,some f⟩=>Nat.beq a c && (Nat.beq b d && Nat.beq e f)
 | _,_=>false
theorem Qlp {a b : Option Addr} (h : QqG a b = true) : a = b:=by
 unfold QqG at h;split at h <;> simp_all
noncomputable def eqA : Value → Value → Bool
 | .int k (.ofNat a),.int k' (.ofNat b)=>kEq k k' && Nat.beq a b
 | .bool a,.bool b=>a == b
 | .string ⟨⟨a⟩⟩,.string ⟨⟨b⟩⟩=>Qqm a b
 | .pointer a,.pointer b=>QqG a b
 | .slice a l c,.slice b l' c'=>QqG a b && (Nat.beq l l' && Nat.beq c c')
 | .map (some a),.map (some b)=>Nat.beq a b
 | .map none,.map none=>true
 | .nilFunc,.nilFunc=>true
 | _,_=>false
theorem QjP {a b : Value} (h : eqA a b = true) : a = b:=by
 unfold eqA at h;split at h
 ·simp only [Bool.and_eq_true] at h;rw [Qbr h.1,Nat.eq_of_beq_eq_true h.2]
 ·grind
 ·grind [QeD]
 ·rw [Qlp h]
 ·simp only [Bool.and_eq_true] at h;rw [Qlp h.1,Nat.eq_of_beq_eq_true h.2.1,Nat.eq_of_beq_eq_true h.2.2]
 ·simp_all
 ·rfl
 ·rfl
 ·cases h
def eqL (f : Value → Value → Bool) : List Value → List Value → Bool
 | [],[]=>true
 | a :: l,b :: m=>f a b && eqL f l m
 | _,_=>false
theorem Qhe {f : Value → Value → Bool} (hf : ∀ a b,f a b = true → a = b) : ∀ {l m : List Value},eqL f l m = true → l = m
 | [],[],_=>rfl
 | a :: l,b :: m,h=>by
  simp only [eqL,Bool.and_eq_true] at h;rw [hf a b h.1,Qhe hf h.2]
 | [],_ :: _,h=>by cases h
 | _ :: _,[],h=>by cases h
noncomputable def eqF : Value → Value → Bool
 | .func (.func f) ⟨a⟩ ⟨b⟩,.func (.func g) ⟨c⟩ ⟨d⟩=>Nat.beq f g && (eqL eqA a c && eqL eqA b d)
 | a,b=>eqA a b
theorem QtM {a b : Value} (h : eqF a b = true) : a = b:=by
 unfold eqF at h;split at h
 ·simp only [Bool.and_eq_true] at h;rw [Nat.eq_of_beq_eq_true h.1,Qhe (fun _ _=>QjP) h.2.1,Qhe (fun _ _=>QjP) h.2.2]
 ·exact QjP h
noncomputable def Qts (x y : HB) : Bool:=Nat.beq x.ty y.ty && (Nat.beq x.sz y.sz && eqL eqF x.cs y.cs)
theorem QqH {x y : HB} (h : Qts x y = true) : x = y:=by
 simp only [Qts,Bool.and_eq_true] at h;obtain ⟨a,b,c⟩:=x;obtain ⟨d,e,f⟩:=y;simp only at h;rw [Nat.eq_of_beq_eq_true h.1,Nat.eq_of_beq_eq_true h.2.1,Qhe (fun _ _=>QtM) h.2.2]
def Qr1 : List Int → List Int → Bool
 | [],[]=>true
 | a :: l,b :: m=>decide (a = b) && Qr1 l m
 | _,_=>false
theorem Ql9 : ∀ {l m : List Int},Qr1 l m = true → l = m
 | [],[],_=>rfl
 | a :: l,b :: m,h=>by
  simp only [Qr1,Bool.and_eq_true,decide_eq_true_eq] at h;rw [h.1,Ql9 h.2]
 | [],_ :: _,h=>by cases h
 | _ :: _,[],h=>by cases h
noncomputable def Qqe : HX → HX → Bool
 | .row x,.row y=>Qts x y
 | .mp x,.mp y=>Qr1 x y
 | _,_=>false
theorem QqT {x y : HX} (h : Qqe x y = true) : x = y:=by
 unfold Qqe at h
 grind [QqH,Ql9]
noncomputable def QiN (H H' : Hp) (R : List Nat) : Bool:=List.rec true (fun m _ ih=>match Yf H m with
 | some r=>(match Yf H' m with
  | some r'=>Bool.rec false ih (Qqe r r')
  | none=>false)
 | none=>false) R
theorem QcT {H H' : Hp} : ∀ {R : List Nat},QiN H H' R = true → ∀ m ∈ R,Yf H' m = Yf H m
 | [],_,m,hm=>by cases hm
 | a :: R,h,m,hm=>by
  have h' : (match Yf H a with
   | some r=>(match Yf H' a with
    | some r'=>Bool.rec false (QiN H H' R) (Qqe r r')
    | none=>false)
   | none=>false) = true:=h
  split at h'
  ·rename_i r h1;split at h'
   ·rename_i r' h2;cases he : Qqe r r' with
    | false=>rw [he] at h';cases h'
    | true=>
     rw [he] at h';rcases List.mem_cons.1 hm with rfl | hm
     ·rw [h1,h2,QqT he]
     ·exact QcT h' m hm
   ·cases h'
  ·cases h'
abbrev DF:=CallF → Tr Value → Hp → Nat → List Nat → Rs
abbrev DS:=Clo DF
noncomputable def noD : DS:=⟨fun _ _ _ _ _=>.bad⟩
noncomputable def memN (m : Nat) (R : List Nat) : Bool:=List.rec false (fun a _ ih=>Bool.rec ih true (Nat.beq a m)) R
noncomputable def Qm5 (m : Option Nat) (R : List Nat) : List Nat:=Option.rec R (fun k=>Bool.rec (k :: R) R (memN k R)) m
noncomputable def yes (b : Bool) (r : Rs) : Rs:=Bool.rec .bad r b
noncomputable def isNilN (R : List Nat) : Bool:=List.rec true (fun _ _ _=>false) R
noncomputable def dOn (P : Program) (nt : Nat) (s : Stp) (o : Oper) (rest : DS) : DS:=match o.dst with
 | some d=>bif Nat.blt d nt then ⟨fun F T H n R=>match (Zu P o.op).run F T H n with
  | .no=>.bad
  | .p v=>yes s.okP (rest.run F (Yh (pth d) d v T) H n R)
  | .q m v=>(match s.okH,s.turn with
   | true,none=>rest.run F (Yh (pth d) d v T) H n R
   | _,_=>yes s.okQ (rest.run F (Yh (pth d) d v T) H n (Qm5 m R)))
  | .new v x=>yes s.okH (match s.turn with
   | some _=>rest.run F (Yh (pth d) d v T) (YG H n x) (Nat.succ n) []
   | none=>rest.run F (Yh (pth d) d v T) (YG H n x) (Nat.succ n) R)
  | .h v H' n'=>yes s.okH (match s.turn with
   | some _=>rest.run F (Yh (pth d) d v T) H' n' []
   | none=>yes (QiN H H' R) (rest.run F (Yh (pth d) d v T) H' n' R))⟩ else noD
 | none=>bif o.guard.isNone then ⟨fun F T H n R=>match (Zu P o.op).run F T H n with
  | .new v x=>yes s.okH (match s.turn with
   | some _=>rest.run F T (YG H n x) (Nat.succ n) []
   | none=>rest.run F T (YG H n x) (Nat.succ n) R)
  | .h v H' n'=>yes s.okH (match s.turn with
   | some _=>rest.run F T H' n' []
   | none=>yes (QiN H H' R) (rest.run F T H' n' R))
  | _=>.bad⟩ else noD
noncomputable def Qr4 (nt : Nat) (s : Stp) (dst : Option Nat) (rest : DS) : DS:=match dst with
 | some d=>bif Nat.blt d nt then (match s.okP with
  | true=>⟨fun F T H n R=>rest.run F (Yh (pth d) d undef T) H n R⟩
  | false=>match s.okH,s.turn with
   | true,some _=>⟨fun F T H n R=>rest.run F (Yh (pth d) d undef T) H n []⟩
   | _,_=>noD) else noD
 | none=>noD
def XN (H : Hp) : List Nat → List (Nat × HX) → Prop
 | [],[]=>True
 | m :: R,(k,r) :: B=>k = m ∧ Yf H m = some r ∧ m ∉ R ∧ XN H R B
 | _,_=>False
theorem XN.stay {H H' : Hp} : ∀ {R : List Nat} {B : List (Nat × HX)},XN H R B → (∀ m ∈ R,Yf H' m = Yf H m) → XN H' R B
 | [],[],_,_=>trivial
 | m :: R,(k,r) :: B,h,hs=>⟨h.1,by rw [hs m (List.mem_cons_self ..)];exact h.2.1,h.2.2.1,XN.stay h.2.2.2 fun p hp=>hs p (List.mem_cons_of_mem _ hp)⟩
 | [],_ :: _,h,_=>h.elim
 | _ :: _,[],h,_=>h.elim
theorem XN.has {H : Hp} : ∀ {R : List Nat} {B : List (Nat × HX)},XN H R B → ∀ m ∈ R,∃ r,Yf H m = some r
 | m :: R,(k,r) :: B,h,p,hp=>by
  rcases List.mem_cons.1 hp with rfl | hp
  ·exact ⟨r,h.2.1⟩
  ·exact h.2.2.2.has p hp
 | [],_,_,p,hp=>by cases hp
 | _ :: _,[],h,_,_=>h.elim
theorem Qgy {ρ : Rho} : ∀ {R : List Nat} {B : List (Nat × HX)} {H : Hp} {G : List (Nat × HX)} {As : List HA},(∀ m r,Yf H m = some r → Qb6 G m = some r) → Qu (ha ρ) G = some As → XN H R B → ∃ Bs Rs,Qu (ha ρ) B = some Bs ∧ As.Perm (Bs ++ Rs)
 | [],[],H,G,As,_,_,_=>⟨[],As,rfl,.refl _⟩
 | m :: R,(k,r) :: B,H,G,As,hG,hA,h=>by
  obtain ⟨rfl,h1,h2,h3⟩:=h;obtain ⟨A,Rs,g1,g4,_,As3,g6,g7,g8⟩:=Qg2 hA (hG _ _ h1)
  obtain ⟨Bs,Rs2,h4,h5⟩:=Qgy (H:=Qhv H k) (R:=R) (B:=B) (G:=Qg1 G k) (fun p r' hp=>by
   obtain ⟨e1,e2⟩:=QiE hp;rw [g8 p e1]
   exact hG _ _ e2) g6 (h3.stay fun p hp=>by
    have hne : p ≠ k:=fun e=>by subst e;exact h2 hp
    exact QbB hne)
  exact ⟨A :: Bs,Rs2,by simp only [Qu,g1,h4],g4.perm.trans ((g7.trans h5).cons _)⟩
 | [],_ :: _,_,_,_,_,_,h=>h.elim
 | _ :: _,[],_,_,_,_,_,h=>h.elim
theorem QjD {ρ : Rho} {R : List Nat} {B : List (Nat × HX)} {H : Hp} {As : List HA} (hH : HM ρ H As) (hB : XN H R B) : ∃ Bs Rs,Qu (ha ρ) B = some Bs ∧ As.Perm (Bs ++ ρ.ex ++ Rs):=by
 obtain ⟨G,Bs0,h1,h2,rfl⟩:=hH;obtain ⟨Bs,Rs,h3,h4⟩:=Qgy h1 h2 hB;refine ⟨Bs,Rs,h3,(h4.append_right _).trans ?_⟩;simp [List.append_assoc,List.perm_append_comm.append_left]
noncomputable def QdK : List (Nat × HX) → Hp
 | []=>.lf
 | (m,r) :: B=>YG (QdK B) m r
theorem Qf7 : ∀ {B : List (Nat × HX)} {m : Nat} {r : HX},Yf (QdK B) m = some r → Qb6 B m = some r
 | [],m,r,h=>by
  have h' : YE (pth m) m (.lf : Hp) = some r:=h;rw [YQ] at h';cases h'
 | (k,x) :: B,m,r,h=>by
  simp only [Qb6];rcases QfT h with ⟨rfl,rfl⟩ | ⟨h1,h2⟩
  ·simp [Nat.beq_refl]
  ·have hq : Nat.beq k m = false:=by cases hz : Nat.beq k m <;> simp_all
   rw [hq];exact Qf7 h2
theorem Qmc {ρ : Rho} {B : List (Nat × HX)} {Bs : List HA} (h : Qu (ha ρ) B = some Bs) : HM ρ (QdK B) (Bs ++ ρ.ex):=⟨B,Bs,fun _ _=>Qf7,h,rfl⟩
theorem Qgz {H : Hp} : ∀ {R : List Nat} {B : List (Nat × HX)},XN H R B → ∀ m ∈ R,Yf (QdK B) m = Yf H m
 | m :: R,(k,r) :: B,h,p,hp=>by
  obtain ⟨rfl,h1,h2,h3⟩:=h;show Yf (YG (QdK B) k r) p = Yf H p
  by_cases hpk : p = k
  ·subst hpk;rw [h1];exact Zd _ _ _ _
  ·rcases List.mem_cons.1 hp with e | hp
   ·grind
   ·rw [Qeg hpk];exact Qgz h3 p hp
 | [],_,_,p,hp=>by cases hp
 | _ :: _,[],h,_,_=>h.elim
section
variable {X : Ctx} {ops : Array Oper} {k : List KI} {L : Qb} {C B B' : World → Prop} {F F' : List Nat} {fuel : Nat} {listed : Array Bool} {P : Program} {w0 : World} {CF : CallF}
theorem QqJ (hB : ∀ w,B' w → B w) (h : D X ops F B' fuel listed k L C) : D X ops F B fuel listed k L C:=fun hcl a ha=>QhO hB (h hcl a ha)
theorem QlQ (hf : ∃ f ∈ F,listed.getD f false = true) (h : D X ops F' B' fuel listed k L C) : D X ops F B fuel listed k L C:=fun hcl a ha=>Qhj hf (h hcl a ha)
theorem Qul {As : List HA} {B : World → Prop} {d i ty j : Nat} {op : Op} {pos : String} {aft : Array Edge} {want : Bool} {u : Value} (dj : Nat) (hi : ops[i]? = some ⟨some d,op,ty,pos,aft,some (j,want)⟩) (hj : (ops[j]?).bind (·.dst) = some dj) (hb : Qb.get L dj = some u) (hw : u = .bool (!want) ∨ u = undef) (hr : (Region.ready .any ops listed == [i]) = true) (hB : ∀ w,HS w0 [] As w → B w) (hd : Nat.blt d X.n = true)
  (next : D X ops F B fuel (listed.setIfInBounds i true) k ((d,undef) :: L) (HS w0 [] As)) : D X ops F B (fuel + 1) listed k L (HS w0 [] As):=by
 intro hcl a ha;have hr' : Region.ready .any ops listed = [i]:=by simpa using hr
 refine QeF hr' (fun _=>⟨hB,HS.stab _ _ _⟩) ?_
 have hy : yielded ops a.tmps j = (match u with | .bool b=>some b | _=>none):=by
  rcases hw with rfl | rfl <;> simp [yielded,hj,ha.slot _ _ hb,undef]
 unfold Yr;simp only [hi];rw [if_neg (by rcases hw with rfl | rfl <;> simp [Region.wanted,hy,undef])];exact next (hcl.set (by rw [hr'];exact List.mem_singleton.2 rfl)) _ (ha.put d _ hd)
end
section
variable {P : Program} {r0 : Rho} {w0 : World} {CF : CallF} {X : Ctx} {k : List KI} {ops : Array Oper}
abbrev Got (ρ : Rho) (v : Value) (H' : Hp) (n' : Nat) : Type:={ x : Rho × List HA × Value // ρ.le x.1 ∧ QO x.1 n' ∧ den x.1 v = some x.2.2 ∧ HM x.1 H' x.2.1 }
theorem OpT.got {o : Oper} {L' : Qb} {C : World → Prop} {ρ : Rho} {v : Value} {H' : Hp} {n' : Nat} (h : OpT P o L' C (Out w0 ρ v H' n')) : OpH P o L' C (G:=Got ρ v H' n') (fun x=>x.1.2.2) (fun _=>True) (fun x=>HS w0 [] x.1.2.1):=by
 obtain ⟨G,V,Fg,C',h1,h2⟩:=h;intro ag w hag hw;refine (h1 ag w hag hw).mono fun u w' ⟨g,e1,e2,e3⟩=>?_;obtain ⟨ρ',As',g1,g2,g3,g4,g5⟩:=h2 g e2;exact ⟨⟨(ρ',As',V g),g1,g2,g3,g4⟩,e1,trivial,g5 _ e3⟩
theorem QbN {ρ ρ' : Rho} {H : Hp} {R : List Nat} {B : List (Nat × HX)} {As Bs : List HA} (hle : ρ.le ρ') (hH : HM ρ' H As) (hR : Qu (ha ρ) B = some Bs) (hB : XN H R B) : ∀ w,HS w0 [] As w → HS w0 [] (Bs ++ ρ.ex) w:=by
 obtain ⟨Bs',Rs,h1,h2⟩:=QjD hH hB;have h3:=Xh (fun _ _=>Qc6 hle _ _) hR;rw [h1] at h3;injection h3 with h3
 subst h3;rw [← hle.2];exact fun w hw=>(hw.perm h2).sub (List.sublist_append_left ..)
theorem Qgm {listed : Array Bool} {i : Nat} (h : (Region.ready .any ops listed == [i]) = true) : (listed.setIfInBounds i true).getD i false = true:=by
 have h1 : i ∈ Region.ready .any ops listed:=by grind
 have h2:=(mem_ready.1 h1).1;have h3 : i < listed.size:=by grind
 simp_all
theorem QlZ {F : List Nat} {i : Nat} (h : onF F i = true) : F.contains i = false:=by
 cases hc : F.contains i with
 | false=>rfl
 | true=>
  have h1:=List.all_eq_true.1 h i (by simpa using hc)
  simp_all
theorem QmR {ops : Array Oper} {F : List Nat} {i : Nat} {ps : List (List Nat)} (h : XK ops F i ps = true) : F.contains i = false:=by grind [Qai]
theorem Qbq {m : Nat} : ∀ {R : List Nat},memN m R = true ↔ m ∈ R
 | []=>⟨(fun h=>by cases h),(fun h=>by cases h)⟩
 | a :: R=>by
  have hu : memN m (a :: R) = (Bool.rec (memN m R) true (Nat.beq a m) : Bool):=rfl;rw [hu];cases hb : Nat.beq a m with
  | true=>exact ⟨(fun _=>by rw [Nat.eq_of_beq_eq_true hb];exact List.mem_cons_self ..),fun _=>rfl⟩
  | false=>
   have hne : m ≠ a:=fun e=>by subst e;rw [Nat.beq_refl] at hb;cases hb
   simp_all [Qbq]
theorem QaL {b : Bool} {r : Rs} {ρ : Rho} {X : Ctx} {k : List KI} (h : QX r0 w0 ρ X k (yes b r)) : b = true ∧ QX r0 w0 ρ X k r:=by
 cases b with
 | true=>exact ⟨rfl,h⟩
 | false=>exact h.elim
theorem Qo1 {H : Hp} {R : List Nat} {B : List (Nat × HX)} (hB : XN H R B) (m : Option Nat) (hm : ∀ k,m = some k → ∃ r,Yf H k = some r) : ∃ B2,XN H (Qm5 m R) B2 ∧ (∀ k,m = some k → k ∈ Qm5 m R) ∧ (B2 = B ∨ ∃ p,B2 = p :: B):=by
 cases m with
 | none=>exact ⟨B,hB,(fun k h=>by cases h),.inl rfl⟩
 | some m=>
  obtain ⟨r,hr⟩:=hm m rfl;have hu : Qm5 (some m) R = (Bool.rec (m :: R) R (memN m R) : List Nat):=rfl;cases hb : memN m R with
  | true=>
   rw [hb] at hu
   grind [Qm5,Qbq]
  | false=>
   rw [hb] at hu;have hu : Qm5 (some m) R = m :: R:=hu;rw [hu];exact ⟨(m,r) :: B,⟨rfl,hr,(fun h=>by rw [Qbq.2 h] at hb;cases hb),hB⟩,(fun k h=>by injection h with h;subst h;exact List.mem_cons_self ..),.inr ⟨_,rfl⟩⟩
theorem Qq2 {ρ : Rho} {B B2 : List (Nat × HX)} {Bs Bs2 : List HA} (hR : Qu (ha ρ) B = some Bs) (h : Qu (ha ρ) B2 = some Bs2) (hc : B2 = B ∨ ∃ p,B2 = p :: B) : ∀ w,HS w0 [] (Bs2 ++ ρ.ex) w → HS w0 [] (Bs ++ ρ.ex) w:=by
 rcases hc with rfl | ⟨p,rfl⟩
 ·grind
 ·simp only [Qu,hR] at h;split at h
  ·rename_i b m h1 h2;injection h2 with h2
   injection h with h
   subst h h2;exact fun w hw=>hw.tail
  ·cases h
theorem Qaq {ρ : Rho} {H : Hp} {n : Nat} {As : List HA} {R : List Nat} {B : List (Nat × HX)} {x : HX} (hH : HM ρ H As) (hf : QO ρ n) (hB : XN H R B) : XN (YG H n x) R B:=by
 refine hB.stay fun m hm=>Qeg fun e=>?_;subst e;obtain ⟨r,hr⟩:=hB.has m hm;obtain ⟨A,Rs,g1,_⟩:=Qt3 hH hr;obtain ⟨x,hx⟩:=QnH g1;rw [hf m (Nat.le_refl _)] at hx;cases hx
def Qgq (P : Program) (r0 : Rho) (w0 : World) (CF : CallF) (X : Ctx) (k : List KI) (ops : Array Oper) (rest : DS) (F : List Nat) (fuel : Nat) (listed : Array Bool) : Prop:=
 ∀ (T : Tr Value) (H : Hp) (n : Nat) (R : List Nat) (B : List (Nat × HX)) (ρ : Rho) (L' : Qb) (As Bs : List HA),QX r0 w0 ρ X k (rest.run CF T H n R) → StOk r0 w0 ρ ⟨T,H,n⟩ L' As → Qu (ha ρ) B = some Bs → XN H R B → D X ops F (HS w0 [] (Bs ++ ρ.ex)) fuel listed k L' (HS w0 [] As)
theorem Qqb (hF : CallOk P r0 CF) (hP : X.P = P) {i : Nat} {dst : Option Nat} {op : Op} {ty : TypeId} {pos : String} {aft : Array Edge} {guard : Option (Nat × Bool)} {rest : DS} {Fs : List (List Nat)} {F : List Nat} {listed : Array Bool} {fuel : Nat} {s : Stp}
  (hsP : s.okP = true → (QG ops listed i && onF F i) = true) (hsQ : s.okQ = true → (QG ops listed i && (XK ops F i (Qjn ops.size) && Zs F listed)) = true) (hsH : s.okH = true → (Region.ready .any ops listed == [i]) = true) (hsT : s.turn.isSome = F.contains i)
  (ih : Qgq P r0 w0 CF X k ops rest (if F.contains i then Fs.headD [] else F) fuel (listed.setIfInBounds i true))
  (ho : ops[i]? = some ⟨dst,op,ty,pos,aft,guard⟩) {T : Tr Value} {H : Hp} {n : Nat} {R : List Nat} {B : List (Nat × HX)} {ρ : Rho} {L' : Qb} {As Bs : List HA}
  (ht : QX r0 w0 ρ X k ((dOn P X.n s ⟨dst,op,ty,pos,aft,guard⟩ rest).run CF T H n R)) (hs : StOk r0 w0 ρ ⟨T,H,n⟩ L' As) (hR : Qu (ha ρ) B = some Bs) (hB : XN H R B)
  (hon : guard = none ∨ ∃ j want dj b,guard = some (j,want) ∧ (ops[j]?).bind (·.dst) = some dj ∧ Qb.get L' dj = some (.bool b) ∧ b = want) : D X ops F (HS w0 [] (Bs ++ ρ.ex)) (fuel + 1) listed k L' (HS w0 [] As):=by
 have hc:=QbP P op CF hF.fok T H n
 -- behind a maker
 have mk : ∀ (v : Value) (H' : Hp) (n' : Nat),Xu P (en T) H n CF op = some (.h v H' n') → s.okH = true → (guard.isNone || dst.isSome) = true →
   ((F.contains i = true ∧ ∀ T2,(∀ d,dst = some d → Nat.blt d X.n = true ∧ T2 = Yh (pth d) d v T) → (dst = none → T2 = T) → QX r0 w0 ρ X k (rest.run CF T2 H' n' [])) ∨ (F.contains i = false ∧ XN H' R B ∧ ∀ T2,(∀ d,dst = some d → Nat.blt d X.n = true ∧ T2 = Yh (pth d) d v T) → (dst = none → T2 = T) → QX r0 w0 ρ X k (rest.run CF T2 H' n' R))) →
   (∀ d,dst = some d → Nat.blt d X.n = true) → D X ops F (HS w0 [] (Bs ++ ρ.ex)) (fuel + 1) listed k L' (HS w0 [] As):=by
  intro v H' n' h1 h2 hgd hcase hdn;replace h2:=hsH h2;have ha:=Z3 (w0:=w0) (L':=L') (o:=⟨dst,op,ty,pos,aft,none⟩) hF hs.le rfl hs.sr hs.hp hs.fr h1;have hH:=OpT.got ha;rw [← hP] at hH;have hbase:=QbN (w0:=w0) ρ.le_refl hs.hp hR hB
  have next : ∀ (T2 : Tr Value) (x : Got ρ v H' n') (L3 : Qb),SR x.1.1 (en T2) L3 → (∀ d,dst = some d → Nat.blt d X.n = true ∧ T2 = Yh (pth d) d v T) → (dst = none → T2 = T) → D X ops F (HS w0 [] (Bs ++ ρ.ex)) fuel (listed.setIfInBounds i true) k L3 (HS w0 [] x.1.2.1):=by
   intro T2 x L3 hsr e1 e2;obtain ⟨⟨ρ',As',u⟩,g1,g2,g3,g4⟩:=x;rcases hcase with ⟨hfi,h⟩ | ⟨hfi,hst,h⟩
   ·simp only [hfi,if_true] at ih;refine QlQ (B':=HS w0 [] ([] ++ ρ'.ex)) (F':=Fs.headD []) ⟨i,by simpa using hfi,Qgm h2⟩ ?_;exact ih T2 H' n' [] [] ρ' L3 As' [] ((h T2 e1 e2).mono g1) ⟨Rho.le_trans hs.le g1,hsr,g4,g2⟩ rfl trivial
   ·simp only [hfi,Bool.false_eq_true,if_false] at ih;rw [← g1.2];exact ih T2 H' n' R B ρ' L3 As' Bs ((h T2 e1 e2).mono g1) ⟨Rho.le_trans hs.le g1,hsr,g4,g2⟩ (Xh (fun _ _=>Qc6 g1 _ _) hR) hst
  cases dst with
  | some d=>
   have hlt:=hdn d rfl;have hn:=fun (x : Got ρ v H' n') (_ : True)=>next (Yh (pth d) d v T) x ((d,x.1.2.2) :: L') ((hs.sr.mono x.2.1).set x.2.2.2.1) (fun d' e=>by injection e with e;subst e;exact ⟨hlt,rfl⟩) (fun e=>by cases e)
   rcases hon with hn' | ⟨j,want,dj,b,hn',hj,hb,hw⟩
   ·subst hn';exact d_h i ho hH h2 hbase hlt hn
   ·subst hn';exact Qsn i dj ho hj hb hw hH h2 hbase hlt hn
  | none=>
   have hn:=fun (x : Got ρ v H' n') (_ : True)=>next T x L' (hs.sr.mono x.2.1) (fun d' e=>by cases e) (fun _=>rfl)
   cases guard with
   | none=>exact Qqz i ho hH h2 hbase hn
   | some jw=>cases hgd
 have turnT : ∀ y,s.turn = some y → F.contains i = true:=fun y hy=>by
  cases hfi : F.contains i with
  | true=>rfl
  | false=>rw [hy,hfi] at hsT;cases hsT
 have turnF : s.turn = none → F.contains i = false:=fun hy=>by
  cases hfi : F.contains i with
  | false=>rfl
  | true=>rw [hy,hfi] at hsT;cases hsT
 cases dst with
 | some d=>
  simp only [dOn] at ht;cases hb : Nat.blt d X.n with
  | false=>rw [hb] at ht;exact ht.elim
  | true=>
   rw [hb] at ht;simp only [cond_true] at ht;cases hr : (Zu P op).run CF T H n with
   | no=>rw [hr] at ht;exact ht.elim
   | p v=>
    rw [hr] at hc ht;obtain ⟨hok,ht⟩:=QaL ht;replace hok:=hsP hok;rw [Bool.and_eq_true] at hok;obtain ⟨u,e1,e2⟩:=Z3 (w0:=w0) (L':=L') (o:=⟨some d,op,ty,pos,aft,none⟩) hF hs.le rfl hs.sr hs.hp hs.fr hc;rw [← hP] at e1;have hfi:=QlZ hok.2;simp only [hfi,Bool.false_eq_true,if_false] at ih;have next : D X ops F (HS w0 [] (Bs ++ ρ.ex)) fuel (listed.setIfInBounds i true) k ((d,u) :: L') (HS w0 [] As):=ih _ H n R B ρ _ As Bs ht ⟨hs.le,hs.sr.set e2,hs.hp,hs.fr⟩ hR hB
    rcases hon with hn | ⟨j,want,dj,b,hn,hj,hb',hw⟩
    ·subst hn;exact d_p i ho e1 hok.1 hok.2 hb next
    ·subst hn;exact QlH i dj ho hj hb' hw e1 hok.1 hok.2 hb next
   | q m v=>
    rw [hr] at hc ht;simp only [] at ht;split at ht
    ·-- the only one that may come up
     rename_i hokH hturn;have hok:=hsH hokH;have hfi:=turnF hturn;simp only [hfi,Bool.false_eq_true,if_false] at ih;obtain ⟨u,e1,e2⟩:=Z3 (w0:=w0) (L':=L') (o:=⟨some d,op,ty,pos,aft,none⟩) hF hs.le rfl hs.sr hs.hp hs.fr (hc.1 H fun _ _=>rfl);rw [← hP] at e1;have next : D X ops F (HS w0 [] (Bs ++ ρ.ex)) fuel (listed.setIfInBounds i true) k ((d,u) :: L') (HS w0 [] As):=ih _ H n R B ρ _ As Bs ht ⟨hs.le,hs.sr.set e2,hs.hp,hs.fr⟩ hR hB
     have hbase:=QbN (w0:=w0) ρ.le_refl hs.hp hR hB;rcases hon with hn | ⟨j,want,dj,b,hn,hj,hb',hw⟩
     ·subst hn;exact d_h i ho (e1.h (HS.stab _ _ _)) hok hbase hb fun _ _=>next
     ·subst hn;exact Qsn i dj ho hj hb' hw (e1.h (HS.stab _ _ _)) hok hbase hb fun _ _=>next
    obtain ⟨hok,ht⟩:=QaL ht;replace hok:=hsQ hok;simp only [Bool.and_eq_true] at hok;obtain ⟨B2,b1,b2,b3⟩:=Qo1 hB m hc.2;obtain ⟨Bs2,Rs,g1,g2⟩:=QjD hs.hp b1;have hev:=hc.1 (QdK B2) fun k hk=>Qgz b1 k (b2 k hk);obtain ⟨u,e1,e2⟩:=Z3 (w0:=w0) (L':=L') (o:=⟨some d,op,ty,pos,aft,none⟩) hF hs.le rfl hs.sr (Qmc g1) hs.fr hev;rw [← hP] at e1;have hfi:=QmR hok.2.1;simp only [hfi,Bool.false_eq_true,if_false] at ih;have next : D X ops F (HS w0 [] (Bs2 ++ ρ.ex)) fuel (listed.setIfInBounds i true) k ((d,u) :: L') (HS w0 [] As):=ih _ H n _ B2 ρ _ As Bs2 ht ⟨hs.le,hs.sr.set e2,hs.hp,hs.fr⟩ g1 b1
    refine QqJ (Qq2 hR g1 b3) ?_;rcases hon with hn | ⟨j,want,dj,b,hn,hj,hb',hw⟩
    ·subst hn;exact d_q i _ ho e1 hok.1 hok.2.1 hok.2.2 hb next
    ·subst hn;exact Qsm i dj _ ho hj hb' hw e1 hok.1 hok.2.1 hok.2.2 hb next
   | new v x=>
    rw [hr] at hc ht;obtain ⟨hok,ht⟩:=QaL ht;refine mk v (YG H n x) (n + 1) hc hok (by simp) ?_ (fun d' e=>by injection e with e;subst e;exact hb);split at ht
    ·rename_i y hy;exact .inl ⟨turnT y hy,fun T2 e1 _=>by rw [(e1 d rfl).2];exact ht⟩
    ·rename_i hy;exact .inr ⟨turnF hy,Qaq hs.hp hs.fr hB,fun T2 e1 _=>by rw [(e1 d rfl).2];exact ht⟩
   | h v H' n'=>
    rw [hr] at hc ht;obtain ⟨hok,ht⟩:=QaL ht;refine mk v H' n' hc hok (by simp) ?_ (fun d' e=>by injection e with e;subst e;exact hb);split at ht
    ·rename_i y hy;exact .inl ⟨turnT y hy,fun T2 e1 _=>by rw [(e1 d rfl).2];exact ht⟩
    ·rename_i hy;obtain ⟨hk,ht⟩:=QaL ht;exact .inr ⟨turnF hy,hB.stay (QcT hk),fun T2 e1 _=>by rw [(e1 d rfl).2];exact ht⟩
 | none=>
  simp only [dOn] at ht;cases hg : guard.isNone with
  | false=>rw [hg] at ht;exact ht.elim
  | true=>
   rw [hg] at ht;simp only [cond_true] at ht;cases hr : (Zu P op).run CF T H n with
   | no=>rw [hr] at ht;exact ht.elim
   | p v=>rw [hr] at ht;exact ht.elim
   | q m v=>rw [hr] at ht;exact ht.elim
   | new v x=>
    rw [hr] at hc ht;obtain ⟨hok,ht⟩:=QaL ht;refine mk v (YG H n x) (n + 1) hc hok (by simp [hg]) ?_ (fun d' e=>by cases e);split at ht
    ·rename_i y hy;exact .inl ⟨turnT y hy,fun T2 _ e2=>by rw [e2 rfl];exact ht⟩
    ·rename_i hy;exact .inr ⟨turnF hy,Qaq hs.hp hs.fr hB,fun T2 _ e2=>by rw [e2 rfl];exact ht⟩
   | h v H' n'=>
    rw [hr] at hc ht;obtain ⟨hok,ht⟩:=QaL ht;refine mk v H' n' hc hok (by simp [hg]) ?_ (fun d' e=>by cases e);split at ht
    ·rename_i y hy;exact .inl ⟨turnT y hy,fun T2 _ e2=>by rw [e2 rfl];exact ht⟩
    ·rename_i hy;obtain ⟨hk,ht⟩:=QaL ht;exact .inr ⟨turnF hy,hB.stay (QcT hk),fun T2 _ e2=>by rw [e2 rfl];exact ht⟩
end
end Ev
namespace Ev
open Go Go.RowKit
noncomputable def has (M i : Nat) : Bool:=Bool.not (Nat.beq (Nat.land M (Nat.pow 2 i)) 0)
theorem Qae (M i : Nat) : has M i = M.testBit i:=by
 unfold has;cases h : M.testBit i with
 | true=>
  cases hb : Nat.beq (Nat.land M (Nat.pow 2 i)) 0 with
  | false=>rfl
  | true=>
   have h0 : M &&& 2 ^ i = 0:=Nat.eq_of_beq_eq_true hb;have:=congrArg (fun x=>x.testBit i) h0
   grind
 | false=>
  have h0 : M &&& 2 ^ i = 0:=by
   apply Nat.eq_of_testBit_eq
   grind
  simp_all
noncomputable def Y5 (a M : Nat) : Bool:=Nat.beq (Nat.land a M) a
theorem Qf4 {a M : Nat} (h : Y5 a M = true) {j : Nat} (hj : a.testBit j = true) : M.testBit j = true:=by
 have h0 : a &&& M = a:=Nat.eq_of_beq_eq_true h
 grind
theorem QjG {a M : Nat} (h : Y5 a M = false) : ∃ j,a.testBit j = true ∧ M.testBit j = false:=by
 refine Classical.byContradiction fun hn=>?_
 have h0 : a &&& M = a:=by
  apply Nat.eq_of_testBit_eq
  grind
 simp_all [Y5]
noncomputable def XW (M i : Nat) : Nat:=Nat.lor M (Nat.pow 2 i)
theorem Zg (M i j : Nat) : (XW M i).testBit j = (M.testBit j || decide (i = j)):=by
 show (M ||| 2 ^ i).testBit j = _
 grind
noncomputable def QgF (l : List Edge) : Nat:=List.rec 0 (fun e _ ih=>Bool.rec ih (XW ih e.on) (Region.binds .any e)) l
theorem Qgu (y : Nat) : ∀ l : List Edge,(QgF l).testBit y = l.any fun e=>Region.binds .any e && Nat.beq e.on y
 | []=>by show (0 : Nat).testBit y = _;simp
 | e :: l=>by
  have hu : QgF (e :: l) = (Bool.rec (QgF l) (XW (QgF l) e.on) (Region.binds .any e) : Nat):=rfl;rw [hu,List.any_cons,← Qgu y l];cases Region.binds .any e with
  | false=>rfl
  | true=>
   show (XW (QgF l) e.on).testBit y = _;rw [Zg];have : decide (e.on = y) = Nat.beq e.on y:=by rw [Bool.eq_iff_iff,decide_eq_true_eq,Nat.beq_eq]
   grind
def Zz : Operand → List Nat → List Nat
 | .tmp t,l=>t :: l
 | _,l=>l
def Qek : List Operand → List Nat
 | []=>[]
 | x :: l=>Zz x (Qek l)
def Qh4 : List (Nat × Operand) → List Nat
 | []=>[]
 | (_,x) :: l=>Zz x (Qh4 l)
def Qil : Option Operand → List Nat → List Nat
 | some x,l=>Zz x l
 | none,l=>l
def opT : Op → Option (List Nat)
 | .alloc _ | .makeMap _ none=>some []
 | .move x | .assign x | .box _ x | .load _ x | .nilCheck x | .unOp _ _ x | .convert _ _ x | .fieldAddr _ x _ | .field _ x _ | .extract x _=>some (Zz x [])
 | .pick c a b=>some (Zz c (Zz a (Zz b [])))
 | .build _ ⟨ps⟩ | .buildSlice _ _ ⟨ps⟩=>some (Qh4 ps)
 | .store _ a v | .binOp _ _ a v _ | .makeSlice _ a v | .indexAddr _ a v | .index _ a v | .lookup _ a v _=>some (Zz a (Zz v []))
 | .mapUpdate _ a b c=>some (Zz a (Zz b (Zz c [])))
 | .makeFunc _ ⟨f⟩ ⟨c⟩=>some (Qek f ++ Qek c)
 | .slice _ x l h m=>some (Zz x (Qil l (Qil h (Qil m []))))
 | .call ⟨.value f,⟨args⟩,_⟩=>some (Zz f (Qek args))
 | .call ⟨.builtin _,⟨args⟩,_⟩=>some (Qek args)
 | _=>none
theorem QbL {x : Operand} {l : List Nat} {t : Nat} : t ∈ Zz x l ↔ x = .tmp t ∨ t ∈ l:=by
 cases x <;> simp [Zz,eq_comm]
theorem QgL {t : Nat} : ∀ {l : List Operand},t ∈ Qek l ↔ Operand.tmp t ∈ l
 | []=>by simp [Qek]
 | x :: l=>by simp only [Qek,QbL,QgL,List.mem_cons];simp [eq_comm]
theorem QgQ {t : Nat} : ∀ {l : List (Nat × Operand)},t ∈ Qh4 l ↔ Operand.tmp t ∈ l.map (·.2)
 | []=>by simp [Qh4]
 | (i,x) :: l=>by simp only [Qh4,QbL,QgQ,List.map_cons,List.mem_cons];simp [eq_comm]
theorem Qmw {t : Nat} {o : Option Operand} {l : List Nat} : t ∈ Qil o l ↔ o = some (.tmp t) ∨ t ∈ l:=by
 cases o <;> simp [Qil,QbL]
theorem Qqx {op : Op} {l : List Nat} (h : opT op = some l) {t : Nat} (ht : Operand.tmp t ∈ op.operands) : t ∈ l:=by
  unfold opT at h
  split at h <;> first
    | (cases h;done)
    | (injection h with h;subst h
       simp only [Op.operands,Call.operands,Array.mem_append,List.mem_toArray,Option.mem_toArray,List.mem_map,QbL,QgL,QgQ,Qmw,List.mem_append,List.mem_cons,List.mem_nil_iff,or_false,Option.mem_def,List.mem_singleton,List.not_mem_nil,false_or] at ht ⊢
       all_goals (first | exact ht | grind))
def gdT (ops : List Oper) : Option (Nat × Bool) → List Nat
 | none=>[]
 | some (g,_)=>match ops[g]? with
  | some o=>(match o.dst with
   | some d=>[d]
   | none=>[])
  | none=>[]
structure Inf where
 em : Nat
 dst : Option Nat
 lk : List Nat
noncomputable def Zm (ops : List Oper) (o : Oper) : Option Inf:=match opT o.op,o.after with
 | some l,⟨es⟩=>some ⟨QgF es,o.dst,gdT ops o.guard ++ l⟩
 | none,_=>none
theorem QaI {ops : List Oper} {o : Oper} {f : Inf} (h : Zm ops o = some f) (y : Nat) : f.em.testBit y = o.after.any fun e=>Region.binds .any e && Nat.beq e.on y:=by
 unfold Zm at h;split at h
 ·rename_i l es h1 h2
  grind [Qgu]
 ·cases h
theorem Qeh {ops : List Oper} {o : Oper} {f : Inf} (h : Zm ops o = some f) {t : Nat} (ht : t ∈ o.looksAt ⟨ops⟩) : t ∈ f.lk:=by
 unfold Zm at h;split at h
 ·rename_i l es h1 h2;injection h with h
  subst h;simp only [List.mem_append];unfold Oper.looksAt at ht
  grind [Qqx,gdT]
 ·cases h
theorem QgN {ops : List Oper} {o : Oper} {f : Inf} (h : Zm ops o = some f) : f.dst = o.dst:=by grind [Zm]
theorem Qmd {ops : List Oper} {o : Oper} {f : Inf} (h : Zm ops o = some f) (cs : Array SelectCase) (b : Bool) : o.op ≠ .select cs b:=by
 intro e;unfold Zm at h;rw [e] at h;cases h
noncomputable def eqON (a : Nat) (b : Option Nat) : Bool:=Option.rec false (fun b=>Nat.beq a b) b
noncomputable def apF (x y : Inf) : Bool:=Bool.rec false (match y.dst with
  | some e=>Bool.not (memN e x.lk)
  | none=>true) (match x.dst with
 | some d=>Bool.rec (Bool.not (eqON d y.dst)) false (memN d y.lk)
 | none=>true)
theorem QsV {ops : List Oper} {x y : Oper} {fx fy : Inf} (hx : Zm ops x = some fx) (hy : Zm ops y = some fy) (h : apF fx fy = true) : x.apart ⟨ops⟩ y = true:=by
 unfold apF at h;rw [QgN hx,QgN hy] at h;unfold Oper.apart
 have ny : ∀ d,memN d fy.lk = false → d ∉ y.looksAt ⟨ops⟩:=fun d hd hc=>by
  have:=Qbq.2 (Qeh hy hc);rw [hd] at this;cases this
 have nx : ∀ d,memN d fx.lk = false → d ∉ x.looksAt ⟨ops⟩:=fun d hd hc=>by
  have:=Qbq.2 (Qeh hx hc);rw [hd] at this;cases this
 have h2 : ∀ e,y.dst = some e → memN e fx.lk = false:=by
  intro e he;rw [he] at h;cases hm : memN e fx.lk with
  | false=>rfl
  | true=>
   simp only [hm,Bool.not_true] at h;have hz : ∀ b : Bool,(Bool.rec false false b : Bool) = true → False:=fun b hb=>by cases b <;> cases hb
   grind
 have h1 : ∀ d,x.dst = some d → memN d fy.lk = false ∧ y.dst ≠ some d:=by
  intro d hd;rw [hd] at h;simp only [] at h;cases hm : memN d fy.lk with
  | true=>rw [hm] at h;cases h
  | false=>
   rw [hm] at h;refine ⟨rfl,fun e=>?_⟩
   simp_all [eqON]
 grind
noncomputable def Qew (i : Nat) (f : Inf) (l : List (Nat × Inf)) : Nat:=List.rec 0 (fun p _ ih=>Bool.rec (Bool.rec (Bool.rec (XW ih p.1) ih (apF f p.2)) ih (has p.2.em i)) ih (Nat.beq p.1 i)) l
theorem Qh1 {i : Nat} {f : Inf} : ∀ {l : List (Nat × Inf)} {p : Nat × Inf},p ∈ l → p.1 ≠ i → p.2.em.testBit i = false → apF f p.2 = false → (Qew i f l).testBit p.1 = true
 | q :: l,p,hp,h1,h2,h3=>by
  have hu : Qew i f (q :: l) = (Bool.rec (Bool.rec (Bool.rec (XW (Qew i f l) q.1) (Qew i f l) (apF f q.2)) (Qew i f l) (has q.2.em i)) (Qew i f l) (Nat.beq q.1 i) : Nat):=rfl;rw [hu];rcases List.mem_cons.1 hp with rfl | hp
  ·have hb : Nat.beq p.1 i = false:=by cases hb : Nat.beq p.1 i <;> simp_all
   simp_all [Qae,XW,Zg]
  ·have ih:=Qh1 (f:=f) hp h1 h2 h3;cases Nat.beq q.1 i with
   | true=>exact ih
   | false=>
    cases has q.2.em i with
    | true=>exact ih
    | false=>cases apF f q.2 <;> grind [apF,XW,Zg]
 | [],p,hp,_,_,_=>by cases hp
noncomputable def QcO (ops : List Oper) : Nat → List Oper → Option (List (Nat × Inf))
 | _,[]=>some []
 | i,o :: l=>match Zm ops o,QcO ops (i + 1) l with
  | some f,some fs=>some ((i,f) :: fs)
  | _,_=>none
theorem QbD {ops : List Oper} : ∀ {l : List Oper} {k : Nat} {fs : List (Nat × Inf)},QcO ops k l = some fs → ∀ j o,l[j]? = some o → ∃ f,Zm ops o = some f ∧ (k + j,f) ∈ fs
 | [],k,fs,h,j,o,hj=>by simp at hj
 | o' :: l,k,fs,h,j,o,hj=>by
  simp only [QcO] at h;split at h
  ·rename_i f fs' h1 h2;injection h with h
   subst h;cases j with
   | zero=>grind
   | succ j=>
    obtain ⟨f',h3,h4⟩:=QbD h2 j o (by simpa using hj)
    grind
  ·cases h
theorem Qhd {ops : List Oper} : ∀ {l : List Oper} {k : Nat} {fs : List (Nat × Inf)},QcO ops k l = some fs → ∀ p ∈ fs,∃ j o,p.1 = k + j ∧ l[j]? = some o ∧ Zm ops o = some p.2
 | [],k,fs,h,p,hp=>by cases h;cases hp
 | o' :: l,k,fs,h,p,hp=>by
  simp only [QcO] at h;split at h
  ·rename_i f fs' h1 h2;injection h with h
   subst h;rcases List.mem_cons.1 hp with rfl | hp
   ·grind
   ·obtain ⟨j,o,e1,e2,e3⟩:=Qhd h2 p hp;exact ⟨j + 1,o,by omega,by simpa using e2,e3⟩
  ·cases h
def Lm (n : Nat) (listed : Array Bool) (M : Nat) : Prop:=listed.size = n ∧ (∀ j,j < n → listed.getD j false = M.testBit j) ∧ ∀ j,M.testBit j = true → j < n
theorem Lm.get {n : Nat} {listed : Array Bool} {M j : Nat} (h : Lm n listed M) (hj : j < n) (b : Bool) : listed.getD j b = M.testBit j:=by
 rw [← h.2.1 j hj];have hl : j < listed.size:=by rw [h.1];exact hj
 grind
theorem Lm.set {n : Nat} {listed : Array Bool} {M i : Nat} (h : Lm n listed M) (hi : i < n) : Lm n (listed.setIfInBounds i true) (XW M i):=by
 refine ⟨by simp [h.1],fun j hj=>?_,fun j hj=>by
  rw [Zg] at hj
  by_cases e : i = j
  ·omega
  ·exact h.2.2 j (by simpa [e] using hj)⟩
 have hl : i < listed.size:=by rw [h.1];exact hi
 have hl' : j < listed.size:=by rw [h.1];exact hj
 rw [Zg]
 by_cases e : i = j
 ·simp_all
 ·have:=h.2.1 j hj
  simp_all
theorem Lm.start (n : Nat) : Lm n (Array.replicate n false) 0:=⟨by simp,(fun j hj=>by simp [Array.getD_eq_getD_getElem?,hj]),fun j hj=>by simp at hj⟩
section
variable {ops : List Oper} {fs : List (Nat × Inf)}
structure Row where
 i : Nat
 em : Nat
 need : Nat
noncomputable def Qy (fs : List (Nat × Inf)) : List (Nat × Inf) → List Row:=List.rec [] fun p _ ih=>⟨p.1,p.2.em,Nat.lor p.2.em (Qew p.1 p.2 fs)⟩ :: ih
theorem Qfs : ∀ {l : List (Nat × Inf)} {r : Row},r ∈ Qy fs l → ∃ p ∈ l,r = ⟨p.1,p.2.em,Nat.lor p.2.em (Qew p.1 p.2 fs)⟩
 | p :: l,r,h=>by
  have hu : Qy fs (p :: l) = ⟨p.1,p.2.em,Nat.lor p.2.em (Qew p.1 p.2 fs)⟩ :: Qy fs l:=rfl;rw [hu] at h;rcases List.mem_cons.1 h with rfl | h
  ·grind
  ·obtain ⟨q,h1,h2⟩:=Qfs h
   grind
 | [],r,h=>by cases h
theorem QcF : ∀ {l : List (Nat × Inf)} {p : Nat × Inf},p ∈ l → (⟨p.1,p.2.em,Nat.lor p.2.em (Qew p.1 p.2 fs)⟩ : Row) ∈ Qy fs l
 | q :: l,p,h=>by
  have hu : Qy fs (q :: l) = ⟨q.1,q.2.em,Nat.lor q.2.em (Qew q.1 q.2 fs)⟩ :: Qy fs l:=rfl;rw [hu];rcases List.mem_cons.1 h with rfl | h
  ·grind
  ·exact List.mem_cons_of_mem _ (QcF h)
 | [],p,h=>by cases h
theorem Qbv (hf : QcO ops 0 ops = some fs) {r : Row} (h : r ∈ Qy fs fs) : ∃ o f,ops[r.i]? = some o ∧ Zm ops o = some f ∧ r.em = f.em ∧ (r.i,f) ∈ fs ∧ r.need = Nat.lor f.em (Qew r.i f fs):=by grind [Qfs,Qhd]
theorem Qdr {listed : Array Bool} {M i : Nat} {o : Oper} {f : Inf} (hl : Lm ops.length listed M) (ho : ops[i]? = some o) (hf : Zm ops o = some f) (hM : M.testBit i = false) (hs : Y5 f.em M = true) : i ∈ Region.ready .any ⟨ops⟩ listed:=by
 have hi : i < ops.length:=by grind
 refine mem_ready.2 ⟨by rw [hl.get hi];exact hM,o,by simpa using ho,fun e he hb=>?_⟩
 have h1 : f.em.testBit e.on = true:=by
  rw [QaI hf];refine Array.any_eq_true'.2 ⟨e,he,?_⟩
  simp_all
 have h2:=Qf4 hs h1;rw [hl.get (hl.2.2 _ h2)];exact h2
theorem Lm.not {n : Nat} {listed : Array Bool} {M j : Nat} (h : Lm n listed M) (hj : M.testBit j = false) : listed.getD j false = false:=by
 by_cases hlt : j < n
 ·rw [h.get hlt];exact hj
 ·have : listed.size ≤ j:=by rw [h.1];omega
  grind
theorem Qfz {listed : Array Bool} {M i : Nat} {o : Oper} {f : Inf} (hl : Lm ops.length listed M) (ho : ops[i]? = some o) (hf : Zm ops o = some f) (hs : Y5 f.em M = false) : i ∉ Region.ready .any ⟨ops⟩ listed:=by
 intro hr;obtain ⟨_,o',ho',hall⟩:=mem_ready.1 hr;have : o' = o:=by grind
 subst this;obtain ⟨y,h1,h2⟩:=QjG hs;rw [QaI hf] at h1;obtain ⟨e,he,hb⟩:=Array.any_eq_true'.1 h1;simp only [Bool.and_eq_true] at hb;have hon:=Nat.eq_of_beq_eq_true hb.2;subst hon;have h3:=hall e he hb.1;rw [hl.not h2] at h3;cases h3
noncomputable def Qp2 (g : Row → Bool) (l : List Row) : Bool:=List.rec true (fun r _ ih=>Bool.rec false ih (g r)) l
theorem QeV {g : Row → Bool} : ∀ {l : List Row},Qp2 g l = true → ∀ r ∈ l,g r = true
 | r :: l,h,r',hr=>by
  have hu : Qp2 g (r :: l) = (Bool.rec false (Qp2 g l) (g r) : Bool):=rfl;rw [hu] at h;cases hg : g r with
  | false=>rw [hg] at h;cases h
  | true=>
   rw [hg] at h;rcases List.mem_cons.1 hr with rfl | hr
   ·exact hg
   ·exact QeV h r' hr
 | [],_,_,hr=>by cases hr
noncomputable def Qje (M i : Nat) (rows : List Row) : Bool:=Qp2 (fun r=>Bool.rec (Bool.rec (Bool.not (Y5 r.em M)) true (has M r.i)) true (Nat.beq r.i i)) rows
theorem Qmx : ∀ {l : List Nat} {i : Nat},l.Nodup → i ∈ l → (∀ j ∈ l,j = i) → l = [i]
 | [],i,_,h,_=>by cases h
 | [a],i,_,h,_=>by rw [List.mem_singleton.1 h]
 | a :: b :: l,i,hn,_,hall=>by simp_all
theorem Qcx (hf : QcO ops 0 ops = some fs) {listed : Array Bool} {M : Nat} {r : Row} (hl : Lm ops.length listed M) (hr : r ∈ Qy fs fs) (hM : has M r.i = false) (hs : Y5 r.em M = true) (ho : Qje M r.i (Qy fs fs) = true) : (Region.ready .any ⟨ops⟩ listed == [r.i]) = true:=by
 obtain ⟨o,f,e1,e2,e3,e4,e5⟩:=Qbv hf hr;rw [Qae] at hM;rw [e3] at hs;have hin:=Qdr hl e1 e2 hM hs
 have : Region.ready .any ⟨ops⟩ listed = [r.i]:=by
  refine Qmx (List.Pairwise.filter _ List.nodup_range) hin fun j hj=>?_;obtain ⟨h1,oj,h2,h3⟩:=mem_ready.1 hj;have h2' : ops[j]? = some oj:=by simpa using h2
  obtain ⟨fj,g1,g2⟩:=QbD hf j oj h2';rw [Nat.zero_add] at g2;have g3:=QeV ho _ (QcF (fs:=fs) g2);simp only [] at g3;cases hb : Nat.beq j r.i with
  | true=>exact Nat.eq_of_beq_eq_true hb
  | false=>
   rw [hb] at g3;have hjl : j < ops.length:=by grind
   rw [hl.get hjl] at h1;rw [Qae,h1] at g3
   grind [Y5,Qfz]
 grind
theorem Quc (hf : QcO ops 0 ops = some fs) : Region.noSelect ⟨ops⟩ = true:=by
 unfold Region.noSelect;simp only [List.all_toArray,List.all_eq_true];intro o ho;obtain ⟨j,hj⟩:=List.getElem?_of_mem ho
 grind [QbD,Qmd]
theorem Qe2 (hf : QcO ops 0 ops = some fs) {listed : Array Bool} {M : Nat} {r : Row} (hl : Lm ops.length listed M) (hr : r ∈ Qy fs fs) (hM : has M r.i = false) (hs : Y5 r.need M = true) : QG ⟨ops⟩ listed r.i = true:=by
 obtain ⟨o,f,e1,e2,e3,e4,e5⟩:=Qbv hf hr;rw [Qae] at hM
 have hem : Y5 f.em M = true:=by
  cases h : Y5 f.em M with
  | true=>rfl
  | false=>
   obtain ⟨y,h1,h2⟩:=QjG h;have h3 : r.need.testBit y = true:=by simp_all
   grind [Qf4]
 have hin:=Qdr hl e1 e2 hM hem;unfold QG;rw [Quc hf,Bool.and_true,Bool.and_eq_true];refine ⟨by simpa using hin,List.all_eq_true.2 fun j hj=>?_⟩;have hjl : j < ops.length:=by simpa using hj
 have h2' : ops[j]? = some ops[j]:=List.getElem?_eq_getElem hjl;obtain ⟨fj,g1,g2⟩:=QbD hf j _ h2';rw [Nat.zero_add] at g2;have hoj : (⟨ops⟩ : Array Oper)[j]? = some ops[j]:=by simpa using h2'
 have hoi : (⟨ops⟩ : Array Oper)[r.i]? = some o:=by simpa using e1
 rw [hoj,hoi];simp only [Bool.or_eq_true];cases hb : Nat.beq j r.i with
 | true=>exact .inl (.inl (.inl rfl))
 | false=>
  cases hm : M.testBit j with
  | true=>exact .inl (.inl (.inr (by rw [hl.get hjl];exact hm)))
  | false=>
   cases he : fj.em.testBit r.i with
   | true=>exact .inl (.inr (by rw [← QaI g1];exact he))
   | false=>
    refine .inr (QsV e2 g1 ?_);cases hap : apF f fj with
    | true=>rfl
    | false=>
     have hne : j ≠ r.i:=fun e=>by subst e;rw [Nat.beq_refl] at hb;cases hb
     have hbit:=Qh1 (i:=r.i) (f:=f) g2 hne he hap;have h3 : r.need.testBit j = true:=by simp_all
     grind [Qf4]
noncomputable def Qex (fs : List (Nat × Inf)) (fm : Nat) : Nat:=List.rec fm (fun p _ ih=>Bool.rec ih (Nat.lor ih p.2.em) (has fm p.1)) fs
theorem QfQ {fm i : Nat} : ∀ {l : List (Nat × Inf)},(Qex l fm).testBit i = true → fm.testBit i = true ∨ ∃ p ∈ l,fm.testBit p.1 = true ∧ p.2.em.testBit i = true
 | [],h=>.inl h
 | p :: l,h=>by
  have hu : Qex (p :: l) fm = (Bool.rec (Qex l fm) (Nat.lor (Qex l fm) p.2.em) (has fm p.1) : Nat):=rfl;rw [hu,Qae] at h;cases hb : fm.testBit p.1 with
  | false=>
   rw [hb] at h;rcases QfQ h with h | ⟨q,h1,h2⟩ <;> grind
  | true=>
   rw [hb] at h;have h' : ((Qex l fm) ||| p.2.em).testBit i = true:=h;rw [Nat.testBit_or,Bool.or_eq_true] at h';rcases h' with h | h
   ·rcases QfQ h with h | ⟨q,h1,h2⟩ <;> grind
   grind
theorem Qlf {x y : Nat} {o : Oper} {f : Inf} (ho : ops[x]? = some o) (hf : Zm ops o = some f) (h : f.em.testBit y = true) : Qks ⟨ops⟩ x y = true:=by grind [Qks,QaI]
theorem Qor (hf : QcO ops 0 ops = some fs) {r : Row} (hr : r ∈ Qy fs fs) {i : Nat} (hne : r.i ≠ i) (h : has (Qex fs r.em) i = true) : XK ⟨ops⟩ [r.i] i (Qjn (⟨ops⟩ : Array Oper).size) = true:=by
 obtain ⟨o,f,e1,e2,e3,e4,e5⟩:=Qbv hf hr;rw [Qae] at h;have hb : Nat.beq r.i i = false:=by cases hb : Nat.beq r.i i <;> simp_all
 have hps : ∃ p ∈ Qjn (⟨ops⟩ : Array Oper).size,Qcd ⟨ops⟩ r.i p i = true:=by
  rcases QfQ h with h | ⟨p,h1,h2,h3⟩
  ·exact ⟨[],List.mem_cons_self ..,Qlf e1 e2 (by rw [← e3];exact h)⟩
  ·obtain ⟨j,oj,g1,g2,g3⟩:=Qhd hf p h1;have hj : p.1 = j:=by omega
   have hjl : j < ops.length:=by grind
   refine ⟨[j],List.mem_cons_of_mem _ (List.mem_map.2 ⟨j,by simpa using hjl,rfl⟩),?_⟩
   grind [Qcd,Qlf]
 grind [XK]
noncomputable def Qcf (i : Nat) (l : List Row) : Option Row:=List.rec none (fun r _ ih=>Bool.rec ih (some r) (Nat.beq r.i i)) l
theorem ZI {i : Nat} : ∀ {l : List Row} {r : Row},Qcf i l = some r → r ∈ l ∧ r.i = i
 | [],r,h=>by cases h
 | q :: l,r,h=>by
  have hu : Qcf i (q :: l) = (Bool.rec (Qcf i l) (some q) (Nat.beq q.i i) : Option Row):=rfl;rw [hu] at h;cases hb : Nat.beq q.i i with
  | true=>simp_all
  | false=>
   rw [hb] at h;obtain ⟨h1,h2⟩:=ZI h
   grind
structure Fin1 where
 i : Nat
 tm : Nat
def Qdi : Option Fin1 → List Nat
 | none=>[]
 | some f=>[f.i]
def QgB (fs : List (Nat × Inf)) (f : Fin1) : Prop:=∃ r ∈ Qy fs fs,r.i = f.i ∧ f.tm = Qex fs r.em
noncomputable def isF (F : Option Fin1) (i : Nat) : Bool:=Option.rec false (fun f=>Nat.beq f.i i) F
noncomputable def Qdu (rows : List Row) (F : Option Fin1) (M i : Nat) : Stp:=match Qcf i rows with
 | some r=>⟨i,Bool.rec (Bool.rec false (Bool.not (isF F i)) (Y5 r.need M)) false (has M i),
   Bool.rec (Bool.rec false (match F with
    | none=>true
    | some f=>Bool.rec (Bool.rec false (Bool.not (has M f.i)) (has f.tm i)) false (Nat.beq f.i i)) (Y5 r.need M)) false (has M i),
   Bool.rec (Bool.rec false (Qje M i rows) (Y5 r.em M)) false (has M i),Bool.rec none (some []) (isF F i)⟩
 | none=>⟨i,false,false,false,Bool.rec none (some []) (isF F i)⟩
theorem b3 {a b c : Bool} (h : (Bool.rec (Bool.rec false c b) false a : Bool) = true) : a = false ∧ b = true ∧ c = true:=by
 cases a <;> cases b <;> cases c <;> first | exact ⟨rfl,rfl,rfl⟩ | cases h
theorem Qc9 (F : Option Fin1) (i : Nat) : (Qdi F).contains i = isF F i:=by
 cases F with
 | none=>rfl
 | some f=>
  show List.contains [f.i] i = Nat.beq f.i i;cases hb : Nat.beq f.i i with
  | true=>simp_all
  | false=>
   have : ¬ (i = f.i):=fun e=>by subst e;rw [Nat.beq_refl] at hb;cases hb
   simp [this]
theorem Qok {F : Option Fin1} {i : Nat} (h : isF F i = false) : onF (Qdi F) i = true:=by
 cases F with
 | none=>rfl
 | some f=>
  have hb : Nat.beq f.i i = false:=h;simp [onF,Qdi,hb]
theorem Qof (hf : QcO ops 0 ops = some fs) {listed : Array Bool} {M i : Nat} {F : Option Fin1} (hl : Lm ops.length listed M) (hF : ∀ f,F = some f → QgB fs f) :
  ((Qdu (Qy fs fs) F M i).okP = true → (QG ⟨ops⟩ listed i && onF (Qdi F) i) = true) ∧
  ((Qdu (Qy fs fs) F M i).okQ = true → (QG ⟨ops⟩ listed i && (XK ⟨ops⟩ (Qdi F) i (Qjn (⟨ops⟩ : Array Oper).size) && Zs (Qdi F) listed)) = true) ∧
  ((Qdu (Qy fs fs) F M i).okH = true → (Region.ready .any ⟨ops⟩ listed == [i]) = true) ∧
  (Qdu (Qy fs fs) F M i).i = i:=by
 unfold Qdu;split
 ·rename_i r hr;obtain ⟨h1,rfl⟩:=ZI hr;refine ⟨fun h=>?_,fun h=>?_,fun h=>?_,rfl⟩
  ·obtain ⟨g1,g2,g3⟩:=b3 h;rw [Qe2 hf hl h1 g1 g2,Bool.true_and];exact Qok (by simpa using g3)
  ·obtain ⟨g1,g2,g3⟩:=b3 h;rw [Qe2 hf hl h1 g1 g2,Bool.true_and];cases F with
   | none=>rfl
   | some f=>
    obtain ⟨g4,g5,g6⟩:=b3 g3;obtain ⟨r',k1,k2,k3⟩:=hF f rfl;have hne : r'.i ≠ r.i:=fun e=>by rw [k2] at e;rw [e,Nat.beq_refl] at g4;cases g4
    have hw:=Qor hf k1 hne (by rw [← k3];exact g5);rw [k2] at hw;show (XK ⟨ops⟩ [f.i] r.i _ && Zs [f.i] listed) = true;rw [hw,Bool.true_and];simp only [Zs,List.all_cons,List.all_nil,Bool.and_true];rw [hl.not (by have:=g6;rw [Qae] at this;simpa using this)];rfl
  ·obtain ⟨g1,g2,g3⟩:=b3 h;exact Qcx hf hl h1 g1 g2 g3
 ·exact ⟨(fun h=>by cases h),(fun h=>by cases h),(fun h=>by cases h),rfl⟩
theorem Qkg {rows : List Row} {F : Option Fin1} {M i : Nat} : (Qdu rows F M i).turn = Bool.rec none (some []) (isF F i):=by
 unfold Qdu;split <;> rfl
theorem QqA {listed : Array Bool} (hl : Lm ops.length listed (2 ^ ops.length - 1)) : QtI ⟨ops⟩ listed [] = true:=by
 have : Region.ready .any ⟨ops⟩ listed = []:=by
  refine List.eq_nil_iff_forall_not_mem.2 fun j hj=>?_;obtain ⟨h1,o,h2,_⟩:=mem_ready.1 hj;have h2' : ops[j]? = some o:=by simpa using h2
  have hjl : j < ops.length:=by grind
  rw [hl.get hjl,Nat.testBit_two_pow_sub_one] at h1;simp [hjl] at h1
 grind [QtI]
end
end Ev
namespace Ev
open Go Go.RowKit
noncomputable def QtU (P : Program) : Op → Option (Clo (Nat → Value × HX))
 | .makeMap _ none=>some ⟨fun n=>(.map (some n),.mp [])⟩
 | .alloc t=>match QM P t with
  | some z=>bif Xd z then some ⟨fun n=>(.pointer (some ⟨n,0,none⟩),.row ⟨t,0,z⟩)⟩ else none
  | none=>none
 | _=>none
def Qu2 (P : Program) (o : Oper) (L' : Qb) (w0 : World) (As : List HA) (c : Nat → Value × HX) : Prop:=
 ∃ (G : Type) (V : G → Value) (Fg : G → Prop) (A : G → HA),OpH P o L' (HS w0 [] As) V Fg (fun g=>HS w0 [] (A g :: As)) ∧ ∀ g,Fg g → ∃ x : Nat × Nat,∀ (ρ : Rho) (n : Nat),den (ext ρ n x) (c n).1 = some (V g) ∧ ha (ext ρ n x) (n,(c n).2) = some (A g)
theorem QlD {P : Program} {o : Oper} {op : Op} {c : Clo (Nat → Value × HX)} (ho : o.op = op) (h : QtU P op = some c) (L' : Qb) (w0 : World) (As : List HA) : Qu2 P o L' w0 As c.run:=by
 unfold QtU at h;split at h
 ·injection h with h
  subst h;refine ⟨_,_,_,_,QgS ho Qjg,fun b _=>⟨(b,0),fun ρ n=>⟨?_,?_⟩⟩⟩
  ·simp only [den,Xr,QP,XJ,QaO]
  ·simp only [ha,QaO]
 ·rename_i t;split at h
  ·rename_i z hz;obtain ⟨hf,rfl⟩:=Qq h;refine ⟨_,_,_,_,QbX ho hz,fun b _=>⟨(b,0),fun ρ n=>⟨QhR,?_⟩⟩⟩;have:=QkZ (x:=⟨t,0,z⟩) (us:=z) (d:=0) (QaO ρ n (b,0)) (XQ hf) (.inl rfl)
   simpa using this
  ·cases h
 ·cases h
noncomputable def cPs (P : Program) (nt dj : Nat) (ops : Array Oper) : List Nat → Clo (CallF → Tr Value → Hp → Nat → Option (Tr Value))
 | []=>⟨fun _ T _ _=>some T⟩
 | q :: l=>match ops[q]? with
  | some ⟨some d,op,_,_,_,none⟩=>bif Nat.blt d nt && Bool.not (Nat.beq d dj) then ⟨fun F T H n=>match (Zu P op).run F T H n with
   | .p v=>(cPs P nt dj ops l).run F (Yh (pth d) d v T) H n
   | _=>none⟩ else ⟨fun _ _ _ _=>none⟩
  | _=>⟨fun _ _ _ _=>none⟩
noncomputable def QuM (P : Program) (nt : Nat) (ops : Array Oper) (ps : List Nat) (ok : Bool) (oi oj : Oper) (rest : DS) : DS:=match oi.dst,oj.dst,QtU P oj.op,oi.guard,oj.guard with
 | some di,some dj,some c,none,none=>bif ok && (Nat.blt di nt && (Nat.blt dj nt && Bool.not (Nat.beq di dj))) then ⟨fun F T H n R=>match (Zu P oi.op).run ⟨F.f,F.e,noY⟩ (Qds (pth dj) T) H n with
  | .new v x=>(match (cPs P nt dj ops ps).run ⟨F.f,F.e,noY⟩ (Yh (pth di) di v (Qds (pth dj) T)) (YG H n x) (Nat.succ n) with
   | some T2=>rest.run F (Yh (pth dj) dj (c.run (Nat.succ n)).1 T2) (YG (YG H n x) (Nat.succ n) (c.run (Nat.succ n)).2) (Nat.succ (Nat.succ n)) R
   | none=>.bad)
  | .h v H' n'=>(match (cPs P nt dj ops ps).run ⟨F.f,F.e,noY⟩ (Yh (pth di) di v (Qds (pth dj) T)) H' n' with
   | some T2=>yes (QiN H H' R) (rest.run F (Yh (pth dj) dj (c.run n').1 T2) (YG H' n' (c.run n').2) (Nat.succ n') R)
   | none=>.bad)
  | _=>.bad⟩ else noD
 | _,_,_,_,_=>noD
theorem Qnt {T : Tr Value} {d t : Nat} {v : Value} (h : en (Qds (pth d) T) t = some v) : t ≠ d ∧ en T t = some v:=by
 refine ⟨fun e=>?_,Qff _ _ _ h⟩;subst e;have h' : YE (pth t) t (Qds (pth t) T) = some v:=h;rw [Qal] at h';cases h'
theorem SR.del {ρ : Rho} {T : Tr Value} {L' : Qb} {d : Nat} (h : SR ρ (en T) L') (u : Value) : SR ρ (en (Qds (pth d) T)) ((d,u) :: L'):=fun t v hv=>by
 obtain ⟨h1,h2⟩:=Qnt hv;obtain ⟨u',h3,h4⟩:=h t v h2
 grind [Qb.get,QdD]
theorem SR.del0 {ρ : Rho} {T : Tr Value} {L' : Qb} {d : Nat} (h : SR ρ (en T) L') : SR ρ (en (Qds (pth d) T)) L':=fun t v hv=>h t v (Qnt hv).2
theorem SR.put1 {ρ : Rho} {T : Tr Value} {L' : Qb} {dj : Nat} {w u' : Value} (h : SR ρ (en T) L') (hj : Qb.get L' dj = some u') (hw : den ρ w = some u') : SR ρ (en (Yh (pth dj) dj w T)) L':=fun t x hx=>by
 rcases Qn0 t x hx with ⟨rfl,rfl⟩ | ⟨h1,h2⟩
 ·grind
 ·exact h t x h2
section
variable {P : Program} {r0 : Rho} {w0 : World} {CF : CallF} {X : Ctx} {k : List KI} {ops : Array Oper}
theorem Qtu {F : List Nat} {fuel : Nat} {listed : Array Bool} {L : Qb} {As : List HA} {B : World → Prop} {d d' ty ty' : Nat} {op op' : Op} {pos pos' : String} {aft aft' : Array Edge} {G G' : Type} {V : G → Value} {Fg : G → Prop} {C : G → World → Prop} {V' : G' → Value} {Fg' : G' → Prop} {C' : G' → World → Prop} (i j : Nat)
  (hi : ops[i]? = some ⟨some d,op,ty,pos,aft,none⟩) (hj : ops[j]? = some ⟨some d',op',ty',pos',aft',none⟩) (h : OpH X.P ⟨some d,op,ty,pos,aft,none⟩ L (HS w0 [] As) V Fg C) (h' : OpH X.P ⟨some d',op',ty',pos',aft',none⟩ L (HS w0 [] As) V' Fg' C')
  (mi : i ∈ Region.ready .any ops listed) (mj : j ∈ Region.ready .any ops listed) (hr : ∀ q ∈ Region.ready .any ops listed,q = i ∨ q = j) (hB : ∀ w,HS w0 [] As w → B w) (hd : Nat.blt d X.n = true) (hd' : Nat.blt d' X.n = true)
  (next : ∀ g,Fg g → D X ops F B fuel (listed.setIfInBounds i true) k ((d,V g) :: L) (C g)) (next' : ∀ g,Fg' g → D X ops F B fuel (listed.setIfInBounds j true) k ((d',V' g) :: L) (C' g)) : D X ops F B (fuel + 1) listed k L (HS w0 [] As):=by
 intro hcl a ha;refine ⟨fun _=>⟨hB,HS.stab _ _ _⟩,fun h0=>(by rw [h0] at mi;cases mi),fun q hq=>?_⟩;rcases hr q hq with e | e
 ·subst e;unfold Yr;simp only [hi];rw [if_pos (by simp [Region.wanted])];exact ⟨G,V,Fg,C,fun w hw=>h a.eval w ha.agr hw,fun g hg=>next g hg (hcl.set mi) _ (ha.put d _ hd)⟩
 ·subst e;unfold Yr;simp only [hj];rw [if_pos (by simp [Region.wanted])];exact ⟨G',V',Fg',C',fun w hw=>h' a.eval w ha.agr hw,fun g hg=>next' g hg (hcl.set mj) _ (ha.put d' _ hd')⟩
def Qj9 (listed : Array Bool) : List Nat → Array Bool
 | []=>listed
 | q :: l=>Qj9 (listed.setIfInBounds q true) l
def Qka (ops : Array Oper) (F : List Nat) : Array Bool → List Nat → Prop
 | _,[]=>True
 | listed,q :: l=>QG ops listed q = true ∧ onF F q = true ∧ Qka ops F (listed.setIfInBounds q true) l
theorem Qke {CF : CallF} (hF : ∀ r,CallOk P r CF) (hP : X.P = P) {dj : Nat} {F : List Nat} {B : World → Prop} {fuel : Nat} : ∀ (ps : List Nat) (listed : Array Bool) (T T2 : Tr Value) (H : Hp) (n : Nat) (ρ : Rho) (L' : Qb) (As : List HA),(cPs P X.n dj ops ps).run CF T H n = some T2 → Qka ops F listed ps → SR ρ (en T) L' → HM ρ H As → QO ρ n →
  (∀ L2,SR ρ (en T2) L2 → Qb.get L2 dj = Qb.get L' dj → D X ops F B fuel (Qj9 listed ps) k L2 (HS w0 [] As)) → D X ops F B (fuel + ps.length) listed k L' (HS w0 [] As)
 | [],listed,T,T2,H,n,ρ,L',As,h,_,hs,_,_,next=>by
  injection h with h
  subst h;exact next L' hs rfl
 | q :: ps,listed,T,T2,H,n,ρ,L',As,h,hok,hs,hp,hf,next=>by
  simp only [cPs] at h;split at h
  ·rename_i d op ty pos aft ho;cases hc : Nat.blt d X.n && Bool.not (Nat.beq d dj) with
   | false=>rw [hc] at h;cases h
   | true=>
    rw [hc] at h;simp only [cond_true] at h;simp only [Bool.and_eq_true,Bool.not_eq_true'] at hc;split at h
    ·rename_i v hr;have hcm:=QbP P op CF trivial T H n;rw [hr] at hcm;obtain ⟨u,e1,e2⟩:=Z3 (w0:=w0) (L':=L') (o:=⟨some d,op,ty,pos,aft,none⟩) (hF ρ) ρ.le_refl rfl hs hp hf hcm;rw [← hP] at e1;refine d_p q ho e1 hok.1 hok.2.1 hc.1 ?_;refine Qke hF hP ps _ _ T2 H n ρ ((d,u) :: L') As h hok.2.2 (hs.set e2) hp hf fun L2 h1 h2=>next L2 h1 ?_
     grind [Qb.get]
    ·cases h
  ·cases h
theorem QqN (hF : CallOk P r0 CF) (hP : X.P = P) {i j : Nat} {ok : Bool} {ps : List Nat} {oi oj : Oper} {rest : DS} {F : List Nat} {listed : Array Bool} {fuel : Nat}
  (hok : ok = true → i ∈ Region.ready .any ops listed ∧ j ∈ Region.ready .any ops listed ∧ (∀ q ∈ Region.ready .any ops listed,q = i ∨ q = j) ∧ Qka ops F (listed.setIfInBounds i true) ps ∧ (Region.ready .any ops (Qj9 (listed.setIfInBounds i true) ps) == [j]) = true ∧ (Region.ready .any ops (listed.setIfInBounds j true) == [i]) = true ∧ Qka ops F ((listed.setIfInBounds j true).setIfInBounds i true) ps)
  (ih : Qgq P r0 w0 CF X k ops rest F fuel ((Qj9 (listed.setIfInBounds i true) ps).setIfInBounds j true)) (ih' : Qgq P r0 w0 CF X k ops rest F fuel (Qj9 ((listed.setIfInBounds j true).setIfInBounds i true) ps)) (hi : ops[i]? = some oi) (hj : ops[j]? = some oj) {T : Tr Value} {H : Hp} {n : Nat} {R : List Nat} {B : List (Nat × HX)} {ρ : Rho} {L' : Qb} {As Bs : List HA}
  (ht : QX r0 w0 ρ X k ((QuM P X.n ops ps ok oi oj rest).run CF T H n R)) (hs : StOk r0 w0 ρ ⟨T,H,n⟩ L' As) (hR : Qu (ha ρ) B = some Bs) (hB : XN H R B) : D X ops F (HS w0 [] (Bs ++ ρ.ex)) (fuel + ps.length + 2) listed k L' (HS w0 [] As):=by
 obtain ⟨dsti,opi,tyi,posi,afti,gi⟩:=oi;obtain ⟨dstj,opj,tyj,posj,aftj,gj⟩:=oj;unfold QuM at ht;simp only [] at ht;split at ht
 ·rename_i di dj c hnc;cases hc : ok && (Nat.blt di X.n && (Nat.blt dj X.n && Bool.not (Nat.beq di dj))) with
  | false=>rw [hc] at ht;exact ht.elim
  | true=>
   rw [hc] at ht;simp only [cond_true] at ht;simp only [Bool.and_eq_true,Bool.not_eq_true'] at hc;obtain ⟨hok',hdi,hdj,hne'⟩:=hc;have hne : di ≠ dj:=fun e=>by subst e;rw [Nat.beq_refl] at hne';cases hne'
   obtain ⟨mi,mj,hr,hp1,h1,h2,hp2⟩:=hok hok';have hF0 : ∀ r,CallOk P r ⟨CF.f,CF.e,noY⟩:=fun r=>⟨hF.f,hF.e,QcK⟩;have hcm:=QbP P opi ⟨CF.f,CF.e,noY⟩ trivial (Qds (pth dj) T) H n
   -- what there is behind both
   have fin : ∀ (v : Value) (H' : Hp) (n' : Nat) (T2 : Tr Value),Xu P (en (Qds (pth dj) T)) H n ⟨CF.f,CF.e,noY⟩ opi = some (.h v H' n') → XN H' R B → (cPs P X.n dj ops ps).run ⟨CF.f,CF.e,noY⟩ (Yh (pth di) di v (Qds (pth dj) T)) H' n' = some T2 → QX r0 w0 ρ X k (rest.run CF (Yh (pth dj) dj (c.run n').1 T2) (YG H' n' (c.run n').2) (Nat.succ n') R) → D X ops F (HS w0 [] (Bs ++ ρ.ex)) (fuel + ps.length + 2) listed k L' (HS w0 [] As):=by
    intro v H' n' T2 hev hB' hps ht';have hbase:=QbN (w0:=w0) ρ.le_refl hs.hp hR hB;have ha1:=Z3 (w0:=w0) (L':=L') (o:=⟨some di,opi,tyi,posi,afti,none⟩) (hF0 ρ) ρ.le_refl rfl hs.sr.del0 hs.hp hs.fr hev;have hH1:=OpT.got ha1;rw [← hP] at hH1;obtain ⟨G,V,Fg,A,hO,hK⟩:=QlD (o:=⟨some dj,opj,tyj,posj,aftj,none⟩) rfl hnc L' w0 As;rw [← hP] at hO;refine Qtu (fuel:=fuel + ps.length + 1) i j hi hj hH1 hO mi mj hr hbase hdi hdj ?_ ?_
    ·-- the first one first
     rintro ⟨⟨ρ',As',u⟩,g1,g2,g3,g4⟩ _;rw [show fuel + ps.length + 1 = (fuel + 1) + ps.length by omega];refine Qke (ρ:=ρ') hF0 hP ps _ _ T2 H' n' ((di,u) :: L') As' hps hp1 ((hs.sr.del0.mono g1).set g3) g4 g2 fun L2 q1 _=>?_;obtain ⟨G2,V2,Fg2,A2,hO2,hK2⟩:=QlD (o:=⟨some dj,opj,tyj,posj,aftj,none⟩) rfl hnc L2 w0 As';rw [← hP] at hO2;refine d_h j hj hO2 h1 (QbN (w0:=w0) g1 g4 hR hB') hdj fun g hg=>?_;obtain ⟨x,hx⟩:=hK2 g hg;obtain ⟨e1,e2⟩:=hx ρ' n';have hle:=Qfv g2 x;have:=ih _ _ _ R B (ext ρ' n' x) ((dj,V2 g) :: L2) (A2 g :: As') Bs (ht'.mono (Rho.le_trans g1 hle)) ⟨Rho.le_trans hs.le (Rho.le_trans g1 hle),(q1.mono hle).set e1,(HM.mono hle g4).push e2,Qav g2 x⟩ (Xh (fun _ _=>Qc6 (Rho.le_trans g1 hle) _ _) hR) (Qaq g4 g2 hB');rw [show (ext ρ' n' x).ex = ρ.ex from g1.2] at this;exact this
    ·-- the second one first
     intro g hg;obtain ⟨x,hx⟩:=hK g hg;obtain ⟨G0,Bs0,f1,f2,f3⟩:=hs.hp;have hp1' : HM (ρ.wx (A g :: ρ.ex)) H (Bs0 ++ (A g :: ρ.ex)):=⟨G0,Bs0,f1,f2,rfl⟩
     have hperm : (A g :: As).Perm (Bs0 ++ (A g :: ρ.ex)):=by
      rw [f3];exact List.perm_middle.symm
     refine Qli (C':=HS w0 [] (Bs0 ++ (A g :: ρ.ex))) (fun w hw=>hw.perm hperm) (HS.stab _ _ _) ?_;have ha2:=Z3 (w0:=w0) (L':=(dj,V g) :: L') (o:=⟨some di,opi,tyi,posi,afti,none⟩) (hF0 _) (Rho.le_refl _) rfl ((hs.sr.del (V g)).wx (A g :: ρ.ex)) hp1' (show QO (ρ.wx (A g :: ρ.ex)) n from hs.fr) hev;have hH2:=OpT.got ha2;rw [← hP] at hH2;refine d_h (fuel:=fuel + ps.length) i hi hH2 h2 (fun w hw=>hbase w ((hw.perm hperm.symm).tail)) hdi ?_;rintro ⟨⟨ρ',As',u⟩,g1,g2,g3,g4⟩ _;refine Qke (ρ:=ρ') hF0 hP ps _ _ T2 H' n' ((di,u) :: (dj,V g) :: L') As' hps hp2 ((((hs.sr.del (V g)).wx (A g :: ρ.ex)).mono g1).set g3) g4 g2 fun L2 q1 q2=>?_;obtain ⟨G1,Bs1,k1,k2,k3⟩:=g4;have hex : ρ'.ex = A g :: ρ.ex:=g1.2;have hle0 : ρ.le (ρ'.wx ρ.ex):=⟨g1.1,rfl⟩;have g2' : QO (ρ'.wx ρ.ex) n':=g2;have hle:=Qfv g2' x;obtain ⟨e1,e2⟩:=hx (ρ'.wx ρ.ex) n'
     have hperm2 : As'.Perm (A g :: (Bs1 ++ ρ.ex)):=by
      rw [show As' = Bs1 ++ ρ'.ex from k3,hex];exact List.perm_middle
     refine Qli (C':=HS w0 [] (A g :: (Bs1 ++ ρ.ex))) (fun w hw=>hw.perm hperm2) (HS.stab _ _ _) ?_;have hM : HM (ρ'.wx ρ.ex) H' (Bs1 ++ ρ.ex):=⟨G1,Bs1,k1,k2,rfl⟩
     have hdj2 : Qb.get L2 dj = some (V g):=by
      rw [q2];simp only [Qb.get,QdD (Ne.symm hne),Nat.beq_refl,cond_true,cond_false]
     have q3 : SR (ρ'.wx ρ.ex) (en T2) L2:=q1;exact ih' _ _ _ R B (ext (ρ'.wx ρ.ex) n' x) L2 (A g :: (Bs1 ++ ρ.ex)) Bs (ht'.mono (Rho.le_trans hle0 hle)) ⟨Rho.le_trans hs.le (Rho.le_trans hle0 hle),(q3.mono hle).put1 hdj2 e1,(HM.mono hle hM).push e2,Qav g2' x⟩ (Xh (fun _ _=>Qc6 (Rho.le_trans hle0 hle) _ _) hR) (Qaq hM g2' hB')
   split at ht
   ·rename_i v x hr';rw [hr'] at hcm;split at ht
    ·rename_i T2 hps;exact fin v (YG H n x) (n + 1) T2 hcm (Qaq hs.hp hs.fr hB) hps ht
    ·exact ht.elim
   ·rename_i v H' n' hr';rw [hr'] at hcm;split at ht
    ·rename_i T2 hps;obtain ⟨hk,ht⟩:=QaL ht;exact fin v H' n' T2 hcm (hB.stay (QcT hk)) hps ht
    ·exact ht.elim
   ·exact ht.elim
 ·exact ht.elim
end
inductive It where
 | one (i : Nat)
 | two (i j : Nat) (ps : List Nat)
inductive SI where
 | one (s : Stp)
 | two (i j : Nat) (ps : List Nat) (ok : Bool)
noncomputable def Qbb (P : Program) (nt : Nat) (ops : Array Oper) : List SI → DS
 | []=>⟨fun _ T H n _=>.nm T H n⟩
 | .one s :: l=>match ops[s.i]? with
  | some o=>(match o.guard with
   | none=>dOn P nt s o (Qbb P nt ops l)
   | some (j,want)=>match (ops[j]?).bind (·.dst) with
    | some dj=>⟨fun F T H n R=>match YE (pth dj) dj T with
     | some (.bool b)=>Bool.rec ((Qr4 nt s o.dst (Qbb P nt ops l)).run F T H n R) ((dOn P nt s o (Qbb P nt ops l)).run F T H n R) (b == want)
     | some (.tuple ⟨[]⟩)=>(Qr4 nt s o.dst (Qbb P nt ops l)).run F T H n R
     | _=>.bad⟩
    | none=>noD)
  | none=>noD
 | .two i j ps ok :: l=>match ops[i]?,ops[j]? with
  | some oi,some oj=>QuM P nt ops ps ok oi oj (Qbb P nt ops l)
  | _,_=>noD
noncomputable def QuY (M i j : Nat) (rows : List Row) : Bool:=Qp2 (fun r=>Bool.rec (Bool.rec (Bool.rec (Bool.not (Y5 r.em M)) true (has M r.i)) true (Nat.beq r.i j)) true (Nat.beq r.i i)) rows
noncomputable def Qpo (rows : List Row) (F : Option Fin1) (ps : List Nat) : Nat → Bool:=List.rec (fun _=>true) (fun q _ ih M=>match Qcf q rows with
 | some r=>Bool.rec (Bool.rec (Bool.rec (ih (XW M q)) false (isF F q)) false (Bool.not (Y5 r.need M))) false (has M q)
 | none=>false) ps
noncomputable def addL (ps : List Nat) : Nat → Nat:=List.rec (fun M=>M) (fun q _ ih M=>ih (XW M q)) ps
noncomputable def Qnm (rows : List Row) (F : Option Fin1) (M i j : Nat) (ps : List Nat) : Bool:=match Qcf i rows,Qcf j rows with
 | some ri,some rj=>Bool.not (Nat.beq i j) && (Bool.not (has M i) && (Bool.not (has M j) && (Y5 ri.em M && (Y5 rj.em M && (Bool.not (has (addL ps (XW M i)) j) && (Y5 rj.em (addL ps (XW M i)) && (Y5 ri.em (XW M j) && (QuY M i j rows && (Qje (addL ps (XW M i)) j rows && (Qje (XW M j) i rows && (Qpo rows F ps (XW M i) && Qpo rows F ps (XW (XW M j) i))))))))))))
 | _,_=>false
noncomputable def mkF (rows : List Row) : List Fin1 → Option Fin1 → Nat → List It → List SI
 | _,_,_,[]=>[]
 | Fs,F,M,.one i :: r=>.one (Qdu rows F M i) :: mkF rows (Bool.rec Fs Fs.tail (isF F i)) (Bool.rec F Fs.head? (isF F i)) (XW M i) r
 | Fs,F,M,.two i j ps :: r=>.two i j ps (Qnm rows F M i j ps) :: mkF rows Fs F (XW (addL ps (XW M i)) j) r
noncomputable def Qnr (M : Nat) (l : List It) : Nat:=List.rec (fun M=>M) (fun x _ ih M=>match x with
 | .one i=>ih (XW M i)
 | .two i j ps=>ih (XW (addL ps (XW M i)) j)) l M
def Qnl : List It → Nat
 | []=>0
 | .one _ :: l=>Qnl l + 1
 | .two _ _ ps :: l=>Qnl l + ps.length + 2
def QrV (n : Nat) : It → Prop
 | .one i=>i < n
 | .two i j ps=>i < n ∧ j < n ∧ ∀ q ∈ ps,q < n
theorem Qiy : ∀ (ps : List Nat) (M j : Nat),(addL ps M).testBit j = (M.testBit j || decide (j ∈ ps))
 | [],M,j=>by show M.testBit j = _;simp
 | q :: ps,M,j=>by
  have hu : addL (q :: ps) M = addL ps (XW M q):=rfl;rw [hu,Qiy ps,Zg]
  grind
theorem Qez {n : Nat} : ∀ {ps : List Nat} {listed : Array Bool} {M : Nat},Lm n listed M → (∀ q ∈ ps,q < n) → Lm n (Qj9 listed ps) (addL ps M)
 | [],_,_,h,_=>h
 | q :: ps,_,_,h,hq=>Qez (ps:=ps) (h.set (hq q (List.mem_cons_self ..))) fun p hp=>hq p (List.mem_cons_of_mem _ hp)
theorem Lm.perm {n : Nat} {listed : Array Bool} {M M' : Nat} (h : Lm n listed M) (e : ∀ j,M.testBit j = M'.testBit j) : Lm n listed M':=by
 have:=Nat.eq_of_testBit_eq e
 grind
section
variable {ops : List Oper} {fs : List (Nat × Inf)}
theorem Qg8 (hf : QcO ops 0 ops = some fs) {F : Option Fin1} : ∀ (ps : List Nat) {listed : Array Bool} {M : Nat},Lm ops.length listed M → (∀ q ∈ ps,q < ops.length) → Qpo (Qy fs fs) F ps M = true → Qka ⟨ops⟩ (Qdi F) listed ps
 | [],_,_,_,_,_=>trivial
 | q :: ps,listed,M,hl,hq,h=>by
  have hu : Qpo (Qy fs fs) F (q :: ps) M = (match Qcf q (Qy fs fs) with
   | some r=>Bool.rec (Bool.rec (Bool.rec (Qpo (Qy fs fs) F ps (XW M q)) false (isF F q)) false (Bool.not (Y5 r.need M))) false (has M q)
   | none=>false):=rfl
  rw [hu] at h;split at h
  ·rename_i r hr;obtain ⟨m1,rfl⟩:=ZI hr;cases h1 : has M r.i with
   | true=>rw [h1] at h;cases h
   | false=>
    rw [h1] at h;cases h2 : Y5 r.need M with
    | false=>rw [h2] at h;cases h
    | true=>
     rw [h2] at h;cases h3 : isF F r.i with
     | true=>rw [h3] at h;cases h
     | false=>
      rw [h3] at h;exact ⟨Qe2 hf hl m1 h1 h2,Qok h3,Qg8 hf ps (hl.set (hq _ (List.mem_cons_self ..))) (fun p hp=>hq p (List.mem_cons_of_mem _ hp)) h⟩
  ·cases h
theorem Qmq (hf : QcO ops 0 ops = some fs) {listed : Array Bool} {M i j : Nat} (hl : Lm ops.length listed M) (hi : i < ops.length) (hj : j < ops.length) {F : Option Fin1} {ps : List Nat} (hps : ∀ q ∈ ps,q < ops.length) (h : Qnm (Qy fs fs) F M i j ps = true) :
  i ∈ Region.ready .any ⟨ops⟩ listed ∧ j ∈ Region.ready .any ⟨ops⟩ listed ∧ (∀ q ∈ Region.ready .any ⟨ops⟩ listed,q = i ∨ q = j) ∧ Qka ⟨ops⟩ (Qdi F) (listed.setIfInBounds i true) ps ∧ (Region.ready .any ⟨ops⟩ (Qj9 (listed.setIfInBounds i true) ps) == [j]) = true ∧ (Region.ready .any ⟨ops⟩ (listed.setIfInBounds j true) == [i]) = true ∧ Qka ⟨ops⟩ (Qdi F) ((listed.setIfInBounds j true).setIfInBounds i true) ps:=by
 unfold Qnm at h;split at h
 ·rename_i ri rj h1 h2;obtain ⟨m1,rfl⟩:=ZI h1;obtain ⟨m2,rfl⟩:=ZI h2;simp only [Bool.and_eq_true,Bool.not_eq_true'] at h;obtain ⟨a1,a2,a3,a4,a5,a5',a6,a7,a8,a9,a10,a11,a12⟩:=h;have hne : ri.i ≠ rj.i:=fun e=>by rw [e,Nat.beq_refl] at a1;cases a1
  obtain ⟨oi,fi,e1,e2,e3,_,_⟩:=Qbv hf m1;obtain ⟨oj,fj,g1,g2,g3,_,_⟩:=Qbv hf m2;have b2:=a2;have b3':=a3;rw [Qae] at a2 a3;refine ⟨Qdr hl e1 e2 a2 (by rw [← e3];exact a4),Qdr hl g1 g2 a3 (by rw [← g3];exact a5),fun q hq=>?_,Qg8 hf ps (hl.set hi) hps a11,?_,?_,Qg8 hf ps ((hl.set hj).set hi) hps a12⟩
  ·obtain ⟨k1,o,k2,k3⟩:=mem_ready.1 hq;have k2' : ops[q]? = some o:=by simpa using k2
   obtain ⟨f,l1,l2⟩:=QbD hf q o k2';rw [Nat.zero_add] at l2;have l3:=QeV a8 _ (QcF (fs:=fs) l2);simp only [] at l3;cases hb : Nat.beq q ri.i with
   | true=>exact .inl (Nat.eq_of_beq_eq_true hb)
   | false=>
    rw [hb] at l3;cases hb2 : Nat.beq q rj.i with
    | true=>exact .inr (Nat.eq_of_beq_eq_true hb2)
    | false=>
     rw [hb2] at l3;have hql : q < ops.length:=by grind
     rw [hl.get hql] at k1;rw [Qae,k1] at l3
     grind [Y5,Qfz]
  ·exact Qcx hf (Qez (hl.set hi) hps) m2 a5' a6 a9
  ·refine Qcx hf (hl.set hj) m1 ?_ a7 a10
   grind [Qae,Zg]
 ·cases h
end
section
variable {P : Program} {r0 : Rho} {w0 : World} {CF : CallF} {X : Ctx} {k : List KI} {ops : Array Oper}
theorem Ql3 {i : Nat} {dst : Option Nat} {op : Op} {ty : TypeId} {pos : String} {aft : Array Edge} {rest : DS} {Fs : List (List Nat)} {F : List Nat} {listed : Array Bool} {fuel : Nat} {s : Stp}
  (hsP : s.okP = true → (QG ops listed i && onF F i) = true) (hsH : s.okH = true → (Region.ready .any ops listed == [i]) = true) (hsT : s.turn.isSome = F.contains i)
  (ih : Qgq P r0 w0 CF X k ops rest (if F.contains i then Fs.headD [] else F) fuel (listed.setIfInBounds i true))
  {j dj : Nat} {want : Bool} {u : Value} (ho : ops[i]? = some ⟨dst,op,ty,pos,aft,some (j,want)⟩) (hj : (ops[j]?).bind (·.dst) = some dj) {T : Tr Value} {H : Hp} {n : Nat} {R : List Nat} {B : List (Nat × HX)} {ρ : Rho} {L' : Qb} {As Bs : List HA} (hb : Qb.get L' dj = some u) (hw : u = .bool (!want) ∨ u = undef)
  (ht : QX r0 w0 ρ X k ((Qr4 X.n s dst rest).run CF T H n R)) (hs : StOk r0 w0 ρ ⟨T,H,n⟩ L' As) (hR : Qu (ha ρ) B = some Bs) (hB : XN H R B) : D X ops F (HS w0 [] (Bs ++ ρ.ex)) (fuel + 1) listed k L' (HS w0 [] As):=by
 unfold Qr4 at ht;split at ht
 ·rename_i d;cases hlt : Nat.blt d X.n with
  | false=>rw [hlt] at ht;exact ht.elim
  | true=>
   rw [hlt] at ht;simp only [cond_true] at ht;split at ht
   ·rename_i hok;replace hok:=hsP hok;rw [Bool.and_eq_true] at hok;have hfi:=QlZ hok.2;simp only [hfi,Bool.false_eq_true,if_false] at ih;have next : D X ops F (HS w0 [] (Bs ++ ρ.ex)) fuel (listed.setIfInBounds i true) k ((d,undef) :: L') (HS w0 [] As):=ih _ H n R B ρ _ As Bs ht ⟨hs.le,hs.sr.set QbT,hs.hp,hs.fr⟩ hR hB
    rcases hw with hw | hw
    ·subst hw;exact Qsd i dj ho hj hb rfl hok.1 hok.2 hlt next
    ·subst hw;exact QpC i dj ho hj hb hok.1 hok.2 hlt next
   ·split at ht
    ·rename_i y hr hturn
     have hfi : F.contains i = true:=by
      cases hfi : F.contains i with
      | true=>rfl
      | false=>rw [hturn,hfi] at hsT;cases hsT
     replace hr:=hsH hr;simp only [hfi,if_true] at ih;refine Qul dj ho hj hb hw hr (QbN (w0:=w0) ρ.le_refl hs.hp hR hB) hlt ?_;refine QlQ (B':=HS w0 [] ([] ++ ρ.ex)) (F':=Fs.headD []) ⟨i,by simpa using hfi,Qgm hr⟩ ?_;exact ih _ H n [] [] ρ _ As [] ht ⟨hs.le,hs.sr.set QbT,hs.hp,hs.fr⟩ rfl trivial
    ·exact ht.elim
 ·exact ht.elim
end
section
variable {P : Program} {r0 : Rho} {w0 : World} {CF : CallF} {X : Ctx} {k : List KI} {ops : List Oper} {fs : List (Nat × Inf)}
theorem Qbx (hF : CallOk P r0 CF) (hP : X.P = P) (hf : QcO ops 0 ops = some fs) : ∀ (order : List It) (Fs : List Fin1) (F : Option Fin1) (listed : Array Bool) (M : Nat),Lm ops.length listed M → (∀ x ∈ order,QrV ops.length x) → Qnr M order = 2 ^ ops.length - 1 → (∀ f,F = some f → QgB fs f) → (∀ f ∈ Fs,QgB fs f) → Qgq P r0 w0 CF X k ⟨ops⟩ (Qbb P X.n ⟨ops⟩ (mkF (Qy fs fs) Fs F M order)) (Qdi F) (Qnl order) listed
 | [],Fs,F,listed,M,hl,_,he,_,_=>fun T H n R B ρ L' As Bs ht hs hR hB=>by
  have he' : M = 2 ^ ops.length - 1:=he;subst he';exact QsB (QqA hl) (QbN ρ.le_refl hs.hp hR hB) (ht ρ L' As ρ.le_refl hs)
 | .two i j ps :: order,Fs,F,listed,M,hl,hlt,he,hFo,hFs=>by
  intro T H n R B ρ L' As Bs ht hs hR hB;obtain ⟨hi,hj,hps⟩:=hlt _ (List.mem_cons_self ..);have he' : Qnr (XW (addL ps (XW M i)) j) order = 2 ^ ops.length - 1:=he;have ih:=Qbx hF hP hf order Fs F _ _ ((Qez (hl.set hi) hps).set hj) (fun x hx=>hlt x (List.mem_cons_of_mem _ hx)) he' hFo hFs
  have ih':=Qbx hF hP hf order Fs F _ _ ((Qez ((hl.set hj).set hi) hps).perm (M':=XW (addL ps (XW M i)) j) fun q=>by
   simp only [Qiy,Zg];cases M.testBit q <;> cases decide (i = q) <;> cases decide (j = q) <;> cases decide (q ∈ ps) <;> rfl) (fun x hx=>hlt x (List.mem_cons_of_mem _ hx)) he' hFo hFs
  simp only [mkF,Qbb] at ht;split at ht
  ·rename_i oi oj e1 e2;exact QqN hF hP (Qmq hf hl hi hj hps) ih ih' e1 e2 ht hs hR hB
  ·exact ht.elim
 | .one i :: order,Fs,F,listed,M,hl,hlt,he,hFo,hFs=>by
  intro T H n R B ρ L' As Bs ht hs hR hB;have hi : i < ops.length:=hlt _ (List.mem_cons_self ..);have he' : Qnr (XW M i) order = 2 ^ ops.length - 1:=he
  have ih : Qgq P r0 w0 CF X k ⟨ops⟩ (Qbb P X.n ⟨ops⟩ (mkF (Qy fs fs) (Bool.rec Fs Fs.tail (isF F i)) (Bool.rec F Fs.head? (isF F i)) (XW M i) order)) (if (Qdi F).contains i then ((Fs.map fun f=>[f.i]).headD []) else Qdi F) (Qnl order) (listed.setIfInBounds i true):=by
   rw [Qc9];cases hc : isF F i with
   | false=>exact Qbx hF hP hf order Fs F _ _ (hl.set hi) (fun j hj=>hlt j (List.mem_cons_of_mem _ hj)) he' hFo hFs
   | true=>
    have:=Qbx hF hP hf order Fs.tail Fs.head? _ _ (hl.set hi) (fun j hj=>hlt j (List.mem_cons_of_mem _ hj)) he' (fun f e=>hFs f (List.mem_of_mem_head? (by rw [e];rfl))) (fun f e=>hFs f (List.mem_of_mem_tail e));cases Fs with
    | nil=>exact this
    | cons f Fs=>exact this
  obtain ⟨s1,s2,s3,s4⟩:=Qof (i:=i) hf hl hFo
  have s5 : (Qdu (Qy fs fs) F M i).turn.isSome = (Qdi F).contains i:=by
   rw [Qkg,Qc9];cases isF F i <;> rfl
  simp only [mkF,Qbb,s4] at ht;split at ht
  ·rename_i o ho;obtain ⟨dst,op,ty,pos,aft,guard⟩:=o;cases guard with
   | none=>exact Qqb (Fs:=Fs.map fun f=>[f.i]) hF hP s1 s2 s3 s5 ih ho ht hs hR hB (.inl rfl)
   | some jw=>
    obtain ⟨j,want⟩:=jw;simp only [] at ht;split at ht
    ·rename_i dj hj;simp only [] at ht;split at ht
     ·rename_i b hb;obtain ⟨u,e1,e2⟩:=hs.sr.get (show en T dj = _ from hb);injection e2 with e2
      subst e2;cases hw : b == want with
      | true=>
       rw [hw] at ht;exact Qqb (Fs:=Fs.map fun f=>[f.i]) hF hP s1 s2 s3 s5 ih ho ht hs hR hB (.inr ⟨j,want,dj,b,rfl,hj,e1,by simpa using hw⟩)
      | false=>
       rw [hw] at ht;exact Ql3 (Fs:=Fs.map fun f=>[f.i]) s1 s3 s5 ih ho hj e1 (.inl (by cases b <;> cases want <;> simp_all)) ht hs hR hB
     ·rename_i hb;obtain ⟨u,e1,e2⟩:=hs.sr.get (show en T dj = _ from hb);injection e2 with e2
      subst e2;exact Ql3 (Fs:=Fs.map fun f=>[f.i]) s1 s3 s5 ih ho hj e1 (.inr rfl) ht hs hR hB
     ·exact ht.elim
    ·exact ht.elim
  ·exact ht.elim
end
end Ev
end Gx
