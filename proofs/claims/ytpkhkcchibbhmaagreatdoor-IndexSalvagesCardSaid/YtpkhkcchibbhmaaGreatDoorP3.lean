/- Contracts of the program's functions, proved by walking them with the rules of the Gx texts; without conditions beyond those that each contract names. -/
import Derived.WalkKit
import Derived.Deep.Draws
import Derived.TacticsIn
import Derived.OrdersIn
import Derived.RangeFuncLeaves
import Derived.Lib.Strings
import Derived.Laws.BytesArg
import Derived.Laws.IdiomStrings
import Derived.Deep.Quiet
import Derived.ProofKit
import Derived.OpenShut
import Derived.Laws.StructEq
import Derived.ChangeKeysEq
import Derived.Laws.Externs
import Derived.Lib.Overlaps
import Derived.Carry
import Derived.Laws.Small
import Derived.Lib.Bytealg
import Derived.Lib.Builder
import Derived.Laws.Pointers
import Derived.RangeFuncRecord
import Derived.Test.YtpkhkcchibbhmaaGreatDoorProg
import Derived.KernelRfl
import Derived.SizedLaws
import Derived.ChangeSame
import Derived.Handed
import Derived.Test.YtpkhkcchibbhmaaGreatDoorTie
import Derived.Test.YtpkhkcchibbhmaaGreatDoorCards
import Derived.SevenTiedAt
import Derived.LaidMore
import Derived.Lay
import Derived.Stop.Joined
import Derived.Test.YtpkhkcchibbhmaaGreatDoorP2
set_option linter.unusedSimpArgs false
set_option maxHeartbeats 1000000
set_option linter.unusedVariables false
set_option linter.unusedSectionVars false
set_option linter.unnecessarySimpa false
namespace Gx
namespace Ev
open Go Go.RowKit
noncomputable def XF : Operand → Clo VF
 | .tmp t=>⟨Yx (pth t) t⟩
 | .const v=>Bool.rec ⟨fun _=>none⟩ ⟨fun _=>some v⟩ (flat v)
 | .func f=>⟨fun _=>some (.func (.func f) #[] #[])⟩
 | _=>⟨fun _=>none⟩
theorem QS (x : Operand) (T : Tr Value) : (XF x).run T = opd (en T) x:=by
 cases x with
 | const v=>
  simp only [XF,opd];cases flat v <;> rfl
 | _=>rfl
noncomputable def Qgp : List Operand → Clo (Tr Value → Option (List Value))
 | []=>⟨fun _=>some []⟩
 | x :: l=>⟨fun T=>Option.rec none (fun v=>Option.rec none (fun vs=>some (v :: vs)) ((Qgp l).run T)) ((XF x).run T)⟩
theorem QfO (T : Tr Value) : ∀ l,(Qgp l).run T = Qcx (en T) l
 | []=>rfl
 | x :: l=>by
  show (Option.rec none (fun v=>Option.rec none (fun vs=>some (v :: vs)) ((Qgp l).run T)) ((XF x).run T) : Option (List Value)) = _;rw [QfO T l,QS];simp only [Qcx];cases opd (en T) x <;> cases Qcx (en T) l <;> rfl
def VOk (P : Program) (op : Op) (f : VF) : Prop:=∀ T v,f T = some v → ∀ F H n,Xs P (en T) H n F op = some (.p v)
noncomputable def ofV (f : VF) : OpF:=fun _ T _ _=>anP (f T)
theorem Qad {P : Program} {op : Op} {f : VF} (h : VOk P op f) : ZS P op (ofV f):=fun F hF T H n=>QjX fun v hv=>h T v hv F H n
theorem XR {x : Option Value} {v : Value} (h : x = some v) : Qdi x = some (.p v):=by rw [h];rfl
noncomputable def Quu (P : Program) (op : BinOp) (t : TypeId) (c : Option (Clo IF)) (a b : Value) : Option Value:=
 Option.rec (Zt P op t a b) (fun c=>match a with
  | .int k (.ofNat x)=>match b with
   | .int k' (.ofNat y)=>bif kEq k k' then (match c.run k x y with
    | some v=>some v
    | none=>Zt P op t a b) else none
   | b=>Zt P op t a b
  | a=>Zt P op t a b) c
theorem Qry {P : Program} {op : BinOp} {t : TypeId} {a b v : Value} (h : Quu P op t (Qix op) a b = some v) : Zt P op t a b = some v:=by
 unfold Quu at h;cases hc : Qix op with
 | none=>rw [hc] at h;exact h
 | some c=>
  rw [hc] at h;simp only [] at h;split at h
  ·split at h
   ·obtain ⟨hk,h⟩:=Qab h
    grind [Qbs,Qoq]
   ·exact h
  ·exact h
noncomputable def Qn0 (P : Program) (op : BinOp) (t : TypeId) (x y : Operand) : Clo VF:=
 ⟨fun T=>Option.rec none (fun a=>Option.rec none (fun b=>Quu P op t (Qix op) a b) ((XF y).run T)) ((XF x).run T)⟩
theorem QgR {P : Program} {op : BinOp} {t t' : TypeId} {x y : Operand} : VOk P (.binOp op t x y t') (Qn0 P op t x y).run:=by
 intro T v h F H n;unfold Qn0 at h;simp only [QS] at h;cases hx : opd (en T) x with
 | none=>rw [hx] at h;cases h
 | some a=>
  cases hy : opd (en T) y with
  | none=>rw [hx,hy] at h;cases h
  | some b=>simp_all [Xs,XR,Qry]
noncomputable def Qp2 (c a b : Operand) : Clo VF:=⟨fun T=>match (XF c).run T with
 | some (.bool t)=>(match (XF a).run T with
  | some x=>(match (XF b).run T with
   | some y=>some (Bool.rec y x t)
   | none=>none)
  | none=>none)
 | _=>none⟩
theorem Qnr {P : Program} {c a b : Operand} : VOk P (.pick c a b) (Qp2 c a b).run:=by
 intro T v h F H n;unfold Qp2 at h;simp only [QS] at h;unfold Xs;split at h
 ·rename_i t h1;split at h
  ·rename_i x h2;split at h
   ·rename_i y h3;injection h with h
    subst h;simp only [h1,h2,h3];cases t <;> rfl
   ·cases h
  ·cases h
 ·cases h
noncomputable def QtN (x : Operand) (i : Nat) : Clo VF:=⟨fun T=>match (XF x).run T with
 | some (.tuple ⟨l⟩)=>QrQ l i
 | _=>none⟩
theorem QrX {P : Program} {x : Operand} {i : Nat} : VOk P (.extract x i) (QtN x i).run:=by
 intro T v h F H n;unfold QtN at h
 grind [QS,Qey,Xs,XR]
noncomputable def Qj9 (P : Program) (st : Nat) (x : Operand) (f : Nat) : Clo VF:=match tfd P st f with
 | some (off,ft)=>match tsz P ft with
  | some (k,true)=>⟨fun T=>match (XF x).run T with
   | some (.agg ⟨l⟩)=>(match QqR l off k with
    | some c=>some (.agg ⟨c⟩)
    | none=>none)
   | _=>none⟩
  | some (k,false)=>⟨fun T=>match (XF x).run T with
   | some (.agg ⟨l⟩)=>QrQ l off
   | _=>none⟩
  | none=>⟨fun _=>none⟩
 | none=>⟨fun _=>none⟩
theorem Qml {P : Program} {st f : Nat} {x : Operand} : VOk P (.field st x f) (Qj9 P st x f).run:=by
 intro T v h F H n;unfold Qj9 at h;unfold Xs;split at h
 ·rename_i off ft h1;split at h
  ·rename_i k h2;simp only [QS] at h;split at h
   ·rename_i l h3;split at h
    ·rename_i c h4;injection h with h
     subst h;obtain ⟨_,rfl⟩:=Qeu l off k h4
     grind [XR,QeQ]
    ·cases h
   ·cases h
  ·grind [QS,Qey,XR,QeQ]
  ·cases h
 ·cases h
noncomputable def cFA (P : Program) (st : Nat) (x : Operand) (f : Nat) : Clo VF:=match tfd P st f with
 | some (off,ft)=>match tsz P ft with
  | some (k,_)=>bif Nat.blt 0 k then ⟨fun T=>match (XF x).run T with
   | some (.pointer (some ⟨m,i,none⟩))=>some (.pointer (some ⟨m,Nat.add i off,none⟩))
   | _=>none⟩ else ⟨fun _=>none⟩
  | none=>⟨fun _=>none⟩
 | none=>⟨fun _=>none⟩
theorem QuI {P : Program} {st f : Nat} {x : Operand} : VOk P (.fieldAddr st x f) (cFA P st x f).run:=by
 intro T v h F H n;unfold cFA at h;unfold Xs;split at h
 ·rename_i off ft h1;split at h
  ·rename_i k ag h2;cases hk : Nat.blt 0 k with
   | false=>rw [hk] at h;cases h
   | true=>
    rw [hk] at h
    grind [QS,XR,QaQ]
  ·cases h
 ·cases h
noncomputable def cIA (P : Program) (t : Nat) (x y : Operand) : Clo VF:=match tsl P t with
 | some (_,sz,_)=>⟨fun T=>match (XF x).run T with
   | some (.slice (some ⟨m,off,_⟩) l _)=>(match (XF y).run T with
    | some (.int _ (.ofNat j))=>bif Nat.blt j l then some (.pointer (some ⟨m,Nat.add off (Nat.mul j sz),none⟩)) else none
    | _=>none)
   | _=>none⟩
 | none=>match tar P t with
  | some (len,_,sz)=>⟨fun T=>match (XF x).run T with
   | some (.pointer (some ⟨m,off,none⟩))=>(match (XF y).run T with
    | some (.int _ (.ofNat j))=>bif Nat.blt j len then some (.pointer (some ⟨m,Nat.add off (Nat.mul j sz),none⟩)) else none
    | _=>none)
   | _=>none⟩
  | none=>⟨fun _=>none⟩
theorem Qs3 {P : Program} {t : Nat} {x y : Operand} : VOk P (.indexAddr t x y) (cIA P t x y).run:=by
 intro T v h F H n;unfold cIA at h;unfold Xs;split at h
 ·rename_i e sz by' h1;simp only [QS] at h;split at h
  ·rename_i m off q l c h2;split at h
   ·simp_all [Qq,XR,ZJ,vN]
   ·cases h
  ·cases h
 ·split at h
  ·rename_i len e sz h1;simp only [QS] at h;split at h
   ·rename_i m off h2;split at h
    ·simp_all [Qq,XR,ZJ,vN]
    ·cases h
   ·cases h
  ·cases h
noncomputable def QsD (l : List UInt8) : Nat → Option Nat:=List.rec (fun _=>none) (fun a _ ih i=>Nat.rec (some a.toNat) (fun j _=>ih j) i) l
theorem Qie : ∀ (l : List UInt8) (i : Nat) {b : Nat},QsD l i = some b → i < l.length ∧ b = (l.getD i 0).toNat
 | [],i,b,h=>by cases i <;> cases h
 | a :: l,0,b,h=>by cases h;exact ⟨Nat.succ_pos _,rfl⟩
 | a :: l,i + 1,b,h=>by
  obtain ⟨h1,h2⟩:=Qie l i h
  grind
noncomputable def Quh (P : Program) (t : Nat) (x y : Operand) : Clo VF:=bif Q8 P t then ⟨fun T=>match (XF x).run T with
   | some (.string ⟨⟨l⟩⟩)=>(match (XF y).run T with
    | some (.int _ (.ofNat j))=>(match QsD l j with
     | some b=>some (.int .u8 (.ofNat b))
     | none=>none)
    | _=>none)
   | _=>none⟩ else ⟨fun T=>QeX P t ((XF x).run T) (vN ((XF y).run T))⟩
theorem Qrm {P : Program} {t : Nat} {x y : Operand} : VOk P (.index t x y) (Quh P t x y).run:=by
 intro T v h F H n;unfold Quh at h;unfold Xs;cases ht : Q8 P t with
 | false=>simp_all [QS,XR]
 | true=>
  rw [ht] at h;simp only [cond_true,QS] at h;split at h
  ·rename_i l h1;split at h
   ·rename_i k j h2;split at h
    ·rename_i b h3;injection h with h
     subst h;obtain ⟨h4,rfl⟩:=Qie l j h3;refine XR ?_;simp only [QeX,h1,h2,vN,ht,Bool.true_and];rw [show Nat.blt j l.length = true by simpa [Nat.blt_eq] using h4];rfl
    ·cases h
   ·cases h
  ·cases h
noncomputable def Qux (P : Program) (t : Nat) (x : Operand) : Clo VF:=bif Q8 P t then ⟨fun T=>match (XF x).run T with
   | some (.string ⟨⟨l⟩⟩)=>some (.int .i64 (.ofNat l.length))
   | _=>none⟩ else bif Xf P t then ⟨fun T=>match (XF x).run T with
   | some (.slice _ k _)=>some (.int .i64 (.ofNat k))
   | some (.pointer (some ⟨_,_,some _⟩))=>some (.int .i64 0)
   | _=>none⟩ else ⟨fun _=>none⟩
theorem Qrr {P : Program} {t : Nat} {x : Operand} : VOk P (.call ⟨.builtin .len,#[x],#[t]⟩) (Qux P t x).run:=by
 intro T v h F H n;unfold Qux at h;unfold Xs Qdk;cases ht : Q8 P t with
 | true=>
  rw [ht] at h
  grind [QS]
 | false=>
  rw [ht] at h;simp only [cond_false] at h;cases hs : Xf P t with
  | false=>rw [hs] at h;cases h
  | true=>
   rw [hs] at h
   grind [QS]
end Ev
namespace Ev
open Go Go.RowKit
noncomputable def QpI (l : List UInt8) : List UInt8 → Bool:=
 List.rec (fun m=>List.rec true (fun _ _ _=>false) m) (fun a _ ih m=>List.rec false (fun b m' _=>Bool.rec false (ih m') (Nat.beq a.toNat b.toNat)) m) l
theorem Qeq : ∀ (l m : List UInt8),QpI l m = decide (l = m)
 | [],[]=>rfl
 | [],b :: m=>rfl
 | a :: l,[]=>rfl
 | a :: l,b :: m=>by
  show (Bool.rec false (QpI l m) (Nat.beq a.toNat b.toNat) : Bool) = _;rw [Qeq l m];cases hb : Nat.beq a.toNat b.toNat with
  | true=>
   have : a = b:=UInt8.toNat_inj.1 (Nat.eq_of_beq_eq_true hb);subst this;simp
  | false=>
   have : a ≠ b:=fun e=>by subst e;rw [Nat.beq_refl] at hb;cases hb
   simp [this]
noncomputable def QpQ (P : Program) (op : BinOp) (t : TypeId) (x y : Operand) : Clo VF:=match op with
 | .eql=>⟨fun T=>match (XF x).run T with
  | some (.string ⟨⟨l⟩⟩)=>(match (XF y).run T with
   | some (.string ⟨⟨m⟩⟩)=>some (.bool (QpI l m))
   | _=>none)
  | _=>(Qn0 P .eql t x y).run T⟩
 | .neq=>⟨fun T=>match (XF x).run T with
  | some (.string ⟨⟨l⟩⟩)=>(match (XF y).run T with
   | some (.string ⟨⟨m⟩⟩)=>some (.bool (Bool.not (QpI l m)))
   | _=>none)
  | _=>(Qn0 P .neq t x y).run T⟩
 | op=>Qn0 P op t x y
theorem Qob {P : Program} {op : BinOp} {t t' : TypeId} {x y : Operand} : VOk P (.binOp op t x y t') (QpQ P op t x y).run:=by
 intro T v h F H n;unfold QpQ at h;split at h
 ·simp only [QS] at h;split at h
  ·grind [Xs,XR,Zt,Xb,QcL,Qeq]
  ·exact QgR T v h F H n
 ·simp only [QS] at h;split at h
  ·grind [Xs,XR,Zt,Xb,QcL,Qeq]
  ·exact QgR T v h F H n
 ·exact QgR T v h F H n
noncomputable def Qsx (l : List UInt8) : List Value:=List.rec [] (fun b _ ih=>.int .u8 (.ofNat b.toNat) :: ih) l
theorem Qit : ∀ l : List UInt8,Qsx l = l.map fun b=>.int .u8 (b.toNat : Int)
 | []=>rfl
 | b :: l=>congrArg _ (Qit l)
noncomputable def byS (v : Value) (ih : Option (List UInt8)) : Option (List UInt8):=match v with
 | .int .u8 (.ofNat z)=>(match ih with
  | some r=>some (UInt8.ofNat z :: r)
  | none=>none)
 | _=>none
noncomputable def byO (l : List Value) : Option (List UInt8):=List.rec (some []) (fun v _ ih=>byS v ih) l
theorem QpR : ∀ (l : List Value) {r : List UInt8},byO l = some r → l.all QhJ = true ∧ Xe l = true ∧ l.map Qa2 = r
 | [],r,h=>by cases h;exact ⟨rfl,rfl,rfl⟩
 | v :: l,r,h=>by
  have h' : byS v (byO l) = some r:=h;unfold byS at h';split at h'
  ·rename_i z;split at h'
   ·rename_i r' hr;injection h' with h'
    subst h';obtain ⟨h1,h2,h3⟩:=QpR l hr;refine ⟨?_,?_,?_⟩
    ·simpa [QhJ] using h1
    ·grind [Xe,flat]
    ·simp only [List.map_cons,h3];rfl
   ·cases h'
  ·cases h'
noncomputable def Qn8 (P : Program) (src dst : TypeId) (x : Operand) : Clo OpF:=match tki P src,tki P dst with
 | some k1,some k2=>⟨fun _ T _ _=>match (XF x).run T with
  | some (.int k0 (.ofNat z))=>bif kEq k0 k1 then .p (.int k2 (fw k2 z)) else .no
  | some v=>anP (Qa0 P src dst v)
  | none=>.no⟩
 | _,_=>match Q8 P src,P.underlying dst,P.underlying src with
  | true,some (.slice e),_=>bif QaZ P e && Nat.beq e u8T then ⟨fun _ T H n=>match (XF x).run T with
   | some (.string ⟨⟨l⟩⟩)=>bif Nat.ble l.length maxLen then .new (.slice (some ⟨n,0,none⟩) l.length l.length) (.row ⟨e,1,Qsx l⟩) else .no
   | _=>.no⟩ else ⟨fun _ _ _ _=>.no⟩
  | false,_,some (.slice e)=>bif Q8 P dst && QaZ P e then ⟨fun _ T H n=>match (XF x).run T with
   | some (.slice (some ⟨p,i,_⟩) k c)=>(match Yl H p with
    | some r=>(match QqR r.cs i k with
     | some cs=>(match byO cs with
      | some l=>.q (some p) (.string (bs l))
      | none=>.no)
     | none=>.no)
    | none=>.no)
   | some (.slice none k c)=>bif Nat.beq k 0 then .q none (.string (bs [])) else .no
   | some (.pointer (some ⟨_,_,some _⟩))=>.q none (.string (bs []))
   | _=>.no⟩ else (bif Nat.beq src dst then ⟨fbF P (.convert src dst x)⟩ else ⟨fun _ _ _ _=>.no⟩)
  | _,_,_=>⟨fun _ T _ _=>match (XF x).run T with
   | some v=>anP (Qa0 P src dst v)
   | none=>.no⟩
theorem QeV {P : Program} {src dst : TypeId} {x : Operand} {F : CallF} {T : Tr Value} {H : Hp} {n : Nat} {a v : Value} (h1 : opd (en T) x = some a) (h : Qa0 P src dst a = some v) : Xs P (en T) H n F (.convert src dst x) = some (.p v):=by
 simp only [Xs,h1,h]
theorem QoI {P : Program} {src dst : TypeId} {x : Operand} : ZS P (.convert src dst x) (Qn8 P src dst x).run:=by
 intro F hF T H n;unfold Qn8;split
 ·rename_i k1 k2 h1 h2;simp only [QS];split
  ·rename_i k0 z h3;cases hk : kEq k0 k1 with
   | false=>exact trivial
   | true=>
    refine QeV h3 ?_
    grind [Qa0,Qgs]
  ·grind [QjX,QeV]
  ·exact trivial
 ·rename_i hno;split
  ·rename_i e hs hd;cases hc : QaZ P e && Nat.beq e u8T with
   | false=>exact trivial
   | true=>
    simp only [cond_true,QS];split
    ·rename_i l h3;cases hl : Nat.ble l.length maxLen with
     | false=>exact trivial
     | true=>
      simp only [cond_true];show Xs _ _ _ _ _ _ = _;have hns : Q8 P dst = false:=by simp [Q8,hd]
      have hcv : Qa0 P src dst (.string ⟨⟨l⟩⟩) = none:=by simp [Qa0,hns]
      simp only [Bool.and_eq_true] at hc;simp only [Xs,h3,hcv,QeN,hd,hs,hc.1,hc.2,hl,Bool.and_self,cond_true,Qit];rfl
    ·exact trivial
  ·rename_i e hs hu;cases hc : Q8 P dst && QaZ P e with
   | false=>
    cases hd : Nat.beq src dst with
    | false=>exact trivial
    | true=>exact Qqs P _ F hF T H n
   | true=>
    simp only [Bool.and_eq_true] at hc;simp only [cond_true,QS];split
    ·rename_i p i q k c h3;split
     ·rename_i r hr;split
      ·rename_i cs h4;split
       ·rename_i l h5;obtain ⟨g1,rfl⟩:=Qeu _ _ _ h4;obtain ⟨g2,g3,g4⟩:=QpR _ h5;refine ⟨fun H2 h6=>?_,fun k9 h9=>by injection h9 with h9;subst h9;exact ⟨_,Qcm hr⟩⟩;have hr2 : Yl H2 p = some r:=by unfold Yl;rw [h6 p rfl,Qcm hr]
        have hble : Nat.ble (i + k) r.cs.length = true:=Nat.ble_eq_true_of_le g1
        grind [Xs,Qa0,QeN]
       ·exact trivial
      ·exact trivial
     ·exact trivial
    ·rename_i k c h3;cases hk : Nat.beq k 0 with
     | false=>exact trivial
     | true=>
      refine ⟨fun H2 _=>?_,fun k9 h9=>by cases h9⟩
      grind [Xs,Qa0,QeN]
    ·rename_i p i q h3;refine ⟨fun H2 _=>?_,fun k9 h9=>by cases h9⟩
     grind [Xs,Qa0,QeN]
    ·exact trivial
  ·simp only [QS];split
   ·grind [QjX,QeV]
   ·exact trivial
noncomputable def Qos (P : Program) (t x : Nat) : Clo OpF:=match tsz P t with
 | some (sz,true)=>⟨fun _ T H _=>match Yx (pth x) x T with
  | some (.pointer (some ⟨m,i,none⟩))=>(match Yl H m with
   | some r=>(match QqR r.cs i sz with
    | some c=>.q (some m) (.agg ⟨c⟩)
    | none=>.no)
   | none=>.no)
  | _=>.no⟩
 | some (sz,false)=>bif Nat.beq sz 1 then ⟨fun _ T H _=>match Yx (pth x) x T with
  | some (.pointer (some ⟨m,i,none⟩))=>(match Yl H m with
   | some r=>(match QrQ r.cs i with
    | some c=>.q (some m) c
    | none=>.no)
   | none=>.no)
  | _=>.no⟩ else ⟨fun _ _ _ _=>.no⟩
 | none=>⟨fun _ _ _ _=>.no⟩
theorem Qqb {P : Program} {t x : Nat} : ZS P (.load t (.tmp x)) (Qos P t x).run:=by
 intro F hF T H n;unfold Qos;split
 ·rename_i sz h1;simp only [];split
  ·rename_i m i h2;split
   ·rename_i r hr;split
    ·rename_i c h3;obtain ⟨g1,rfl⟩:=Qeu _ _ _ h3;refine ⟨fun H2 h6=>?_,fun k9 h9=>by injection h9 with h9;subst h9;exact ⟨_,Qcm hr⟩⟩;have hr2 : Yl H2 m = some r:=by unfold Yl;rw [h6 m rfl,Qcm hr]
     have hble : Nat.ble (i + sz) r.cs.length = true:=Nat.ble_eq_true_of_le g1
     grind [Xs,Qfm,en]
    ·exact trivial
   ·exact trivial
  ·exact trivial
 ·rename_i sz h1;cases hs : Nat.beq sz 1 with
  | false=>exact trivial
  | true=>
   simp only [cond_true];split
   ·rename_i m i h2;split
    ·rename_i r hr;split
     ·rename_i c h3;rw [Qey] at h3;refine ⟨fun H2 h6=>?_,fun k9 h9=>by injection h9 with h9;subst h9;exact ⟨_,Qcm hr⟩⟩
      grind [Yl,Qcm,Xs,Qfm,en]
     ·exact trivial
    ·exact trivial
   ·exact trivial
 ·exact trivial
noncomputable def Qj7 (P : Program) (t x : Nat) (y : Operand) : Clo OpF:=match tsz P t with
 | some (sz,_)=>⟨fun _ T H n=>match Yx (pth x) x T with
  | some (.pointer (some ⟨m,i,none⟩))=>(match (XF y).run T with
   | some v=>(match Yl H m with
    | some ⟨ty,s,cs⟩=>bif Zw v && Nat.beq v.cells.toList.length sz then (match setO cs i v.cells.toList with
     | some c=>.h undef (XZ H m ⟨ty,s,c⟩) n
     | none=>.no) else .no
    | none=>.no)
   | none=>.no)
  | _=>.no⟩
 | none=>⟨fun _ _ _ _=>.no⟩
theorem QmZ {P : Program} {t x : Nat} {y : Operand} : ZS P (.store t (.tmp x) y) (Qj7 P t x y).run:=by
 intro F hF T H n;unfold Qj7;split
 ·rename_i sz ag h1;simp only [QS];split
  ·rename_i m i h2;split
   ·rename_i v h3;split
    ·rename_i ty s cs hr;cases hc : Zw v && Nat.beq v.cells.toList.length sz with
     | false=>exact trivial
     | true=>
      simp only [cond_true];split
      ·rename_i c h4;obtain ⟨g1,rfl⟩:=Qkw _ _ _ h4;simp only [Bool.and_eq_true] at hc;have hl:=Nat.eq_of_beq_eq_true hc.2;have hble : Nat.ble (i + sz) cs.length = true:=Nat.ble_eq_true_of_le (by rw [← hl];exact g1);show Xs _ _ _ _ _ _ = _
       grind [Xs,QgO,en]
      ·exact trivial
    ·exact trivial
   ·exact trivial
  ·exact trivial
 ·exact trivial
noncomputable def Qjv (P : Program) (t : Nat) : Clo OpF:=match QL P t with
 | some z=>bif Xe z then ⟨fun _ _ _ n=>.new (.pointer (some ⟨n,0,none⟩)) (.row ⟨t,0,z⟩)⟩ else ⟨fun _ _ _ _=>.no⟩
 | none=>⟨fun _ _ _ _=>.no⟩
theorem QmS {P : Program} {t : Nat} : ZS P (.alloc t) (Qjv P t).run:=by
 intro F hF T H n;unfold Qjv;split
 ·rename_i z h1;cases hf : Xe z with
  | false=>exact trivial
  | true=>
   show Xs _ _ _ _ _ _ = _;simp only [Xs,Qut,h1,hf,cond_true];rfl
 ·exact trivial
noncomputable def QtK (t : Nat) (x : Operand) : Clo OpF:=⟨fun _ T _ n=>match (XF x).run T with
 | some v=>bif Zw v then .new (.pointer (some ⟨n,0,none⟩)) (.row ⟨t,0,v.cells.toList⟩) else .no
 | none=>.no⟩
theorem QqZ {P : Program} {t : Nat} {x : Operand} : ZS P (.box t x) (QtK t x).run:=by
 intro F hF T H n;unfold QtK;simp only [QS];split
 ·rename_i v h1;cases hf : Zw v with
  | false=>exact trivial
  | true=>
   show Xs _ _ _ _ _ _ = _;simp only [Xs,Quo,h1,hf,cond_true];rfl
 ·exact trivial
noncomputable def cBS (P : Program) (t len : Nat) (parts : List (Nat × Operand)) : Clo OpF:=match tsl P t with
 | some (e,sz,_)=>match QL P e with
  | some z=>bif Xe z && (Nat.ble (len * sz) 16777216 && (Nat.blt 0 (len * sz) && Xe (Qpr z (len * sz)))) then ⟨fun _ T _ n=>match QcN (en T) parts with
   | some vs=>(match Y8 (fun i=>some (i * sz,sz)) (Qpr z (len * sz)) vs with
    | some cs=>.new (.slice (some ⟨n,0,none⟩) len len) (.row ⟨e,sz,cs⟩)
    | none=>.no)
   | none=>.no⟩ else ⟨fun _ _ _ _=>.no⟩
  | none=>⟨fun _ _ _ _=>.no⟩
 | none=>⟨fun _ _ _ _=>.no⟩
theorem QuK {P : Program} {t len : Nat} {parts : List (Nat × Operand)} (hne : ¬ (len = 0 ∧ parts = [])) : ZS P (.buildSlice t len ⟨parts⟩) (cBS P t len parts).run:=by
 intro F hF T H n;unfold cBS;split
 ·rename_i e sz by' h1;split
  ·rename_i z h2;cases hc : Xe z && (Nat.ble (len * sz) 16777216 && (Nat.blt 0 (len * sz) && Xe (Qpr z (len * sz)))) with
   | false=>exact trivial
   | true=>
    simp only [cond_true];split
    ·rename_i vs h3;split
     ·rename_i cs h4;show Xs _ _ _ _ _ _ = _
      have hb : Zf P (en T) H n t len parts = some (.h (.slice (some ⟨n,0,none⟩) len len) (Yy H n (.row ⟨e,sz,cs⟩)) (n + 1)):=by
       simp only [Zf,h3,h1,h2,h4,hc,cond_true];rfl
      grind [Xs]
     ·exact trivial
    ·exact trivial
  ·exact trivial
 ·exact trivial
noncomputable def Qtn (P : Program) (t : Nat) : Clo OpF:=match tsl P t with
 | some (e,sz,_)=>⟨fun _ _ _ n=>.new (.slice (some ⟨n,0,none⟩) 0 0) (.row ⟨e,sz,[]⟩)⟩
 | none=>⟨fun _ _ _ _=>.no⟩
theorem Qrk {P : Program} {t : Nat} : ZS P (.buildSlice t 0 ⟨[]⟩) (Qtn P t).run:=by
 intro F hF T H n;unfold Qtn;split
 ·rename_i e sz by' h1;show Xs _ _ _ _ _ _ = _;simp only [Xs,h1];rfl
 ·exact trivial
noncomputable def cMS (P : Program) (t : Nat) (x y : Operand) : Clo OpF:=match tsl P t with
 | some (e,sz,by')=>match QL P e with
  | some z=>⟨fun _ T _ n=>match (XF x).run T with
   | some (.int .i64 (.ofNat k))=>(match (XF y).run T with
    | some (.int .i64 (.ofNat k'))=>bif Nat.ble k k' && (Nat.ble (k' * by') 281474976710656 && (Nat.ble k' 16777216 && Xe (Xv z (k' * sz)))) then .new (.slice (some ⟨n,0,none⟩) k k') (.row ⟨e,sz,Xv z (k' * sz)⟩) else .no
    | _=>.no)
   | _=>.no⟩
  | none=>⟨fun _ _ _ _=>.no⟩
 | none=>⟨fun _ _ _ _=>.no⟩
theorem QsS {P : Program} {t : Nat} {x y : Operand} : ZS P (.makeSlice t x y) (cMS P t x y).run:=by
 intro F hF T H n;unfold cMS;split
 ·rename_i e sz by' h1;split
  ·rename_i z h2;simp only [QS];split
   ·rename_i k h3;split
    ·rename_i k' h4;cases hc : Nat.ble k k' && (Nat.ble (k' * by') 281474976710656 && (Nat.ble k' 16777216 && Xe (Xv z (k' * sz)))) with
     | false=>exact trivial
     | true=>
      show Xs _ _ _ _ _ _ = _;simp only [Xs,QaK,h3,h4,h1,h2,hc,cond_true];rfl
    ·exact trivial
   ·exact trivial
  ·exact trivial
 ·exact trivial
noncomputable def QkF (F : CallF) (g : FuncId) (vs : List Value) (H : Hp) (n : Nat) : An:=match F.f F.y g vs H n with
 | some (v,H',n')=>.h v H' n'
 | none=>.no
noncomputable def Qjz (P : Program) (g : Nat) (args : List Operand) : Clo OpF:=⟨fun F T H n=>match (Qgp args).run T with
 | some vs=>(match F.e g vs with
  | some v=>.q none v
  | none=>bif QM P g then QkF F g vs H n else .no)
 | none=>.no⟩
theorem QhY {P : Program} {op : Op} {F : CallF} {T : Tr Value} {H : Hp} {n : Nat} {g : FuncId} {vs : List Value} (h : ∀ v H' n',F.f F.y g vs H n = some (v,H',n') → Xs P (en T) H n F op = some (.h v H' n')) : Qs4 P op F T H n (QkF F g vs H n):=by
 unfold QkF;split
 ·rename_i v H' n' hr;exact h _ _ _ hr
 ·exact trivial
theorem QmK {P : Program} {g : Nat} {args : List Operand} {ts : Array TypeId} : ZS P (.call ⟨.value (.func g),⟨args⟩,ts⟩) (Qjz P g args).run:=by
 intro F hF T H n;unfold Qjz;simp only [QfO];split
 ·rename_i vs h1;split
  ·rename_i v h2;exact ⟨fun H2 _=>by simp only [Xs,h1,h2],fun k h9=>by cases h9⟩
  ·rename_i h2;cases hc : QM P g with
   | false=>exact trivial
   | true=>grind [QhY,Xs,QdM]
 ·exact trivial
noncomputable def Qkf (P : Program) (f : Operand) (args : List Operand) : Clo OpF:=⟨fun F T H n=>match (XF f).run T with
 | some (.func (.func g) ⟨a⟩ ⟨b⟩)=>(match (Qgp args).run T with
  | some vs=>bif QM P g then QkF F g (a ++ vs ++ b) H n else .no
  | none=>.no)
 | some (.func (.yield k) ⟨[]⟩ ⟨[]⟩)=>(match (Qgp args).run T with
  | some vs=>(match F.y k vs H n with
   | some (v,H',n')=>.h v H' n'
   | none=>.no)
  | none=>.no)
 | _=>.no⟩
theorem Qm4 {P : Program} {f : Operand} {args : List Operand} {ts : Array TypeId} (hf : ∀ g,f ≠ .func g) : ZS P (.call ⟨.value f,⟨args⟩,ts⟩) (Qkf P f args).run:=by
 intro F hF T H n;unfold Qkf;simp only [QS,QfO];split
 ·rename_i g a b h1;split
  ·rename_i vs h2;cases hc : QM P g with
   | false=>exact trivial
   | true=>simp_all [QhY,QdM,opd,en,Qcx,Xs]
  ·exact trivial
 ·rename_i k h1;split
  ·rename_i vs h2;split
   ·rename_i v H' n' hr;have hb : QdM P H n F (opd (en T) f) (Qcx (en T) args) = some (.h v H' n'):=by grind [QdM]
    show Xs _ _ _ _ _ _ = _
    simp_all [Xs]
   ·exact trivial
  ·exact trivial
 ·exact trivial
noncomputable def QoR (P : Program) (t : Nat) (m x : Operand) : Clo OpF:=⟨fun _ T H _=>match (XF m).run T with
 | some (.map (some r))=>(match ZZ P H t (some (.map (some r))) ((XF x).run T) with
  | some (.q v)=>.q (some r) v
  | _=>.no)
 | _=>.no⟩
theorem Qqo {P : Program} {t : Nat} {m x : Operand} : ZS P (.lookup t m x false) (QoR P t m x).run:=by
 intro F hF T H n;unfold QoR;simp only [QS];split
 ·rename_i r h1;split
  ·rename_i v h2
   have hm : ∃ ks,Qe6 H r = some ks:=by
    unfold ZZ at h2
    grind
   obtain ⟨ks,hks⟩:=hm;refine ⟨fun H2 h6=>?_,fun k h9=>by injection h9 with h9;subst h9;exact ⟨_,Qqu hks⟩⟩;have hr2 : Qe6 H2 r = Qe6 H r:=by unfold Qe6;rw [h6 r rfl]
   have : ZZ P H2 t (some (.map (some r))) (opd (en T) x) = ZZ P H t (some (.map (some r))) (opd (en T) x):=by
    unfold ZZ
    grind
   grind [Xs]
  ·exact trivial
 ·exact trivial
noncomputable def Qsr : Clo OpF:=⟨fun _ _ _ n=>.new (.map (some n)) (.mp [])⟩
theorem Qon {P : Program} {t : Nat} : ZS P (.makeMap t none) Qsr.run:=by
 intro F hF T H n;show Xs _ _ _ _ _ _ = _;simp only [Xs]
noncomputable def Zs (P : Program) : Op → Clo OpF
 | .move x=>⟨ofV (XF x).run⟩
 | .assign x=>⟨ofV (XF x).run⟩
 | .pick c a b=>⟨ofV (Qp2 c a b).run⟩
 | .binOp op t x y _=>⟨ofV (QpQ P op t x y).run⟩
 | .convert src dst x=>Qn8 P src dst x
 | .extract x i=>⟨ofV (QtN x i).run⟩
 | .field st x f=>⟨ofV (Qj9 P st x f).run⟩
 | .fieldAddr st x f=>⟨ofV (cFA P st x f).run⟩
 | .index t x y=>⟨ofV (Quh P t x y).run⟩
 | .indexAddr t x y=>⟨ofV (cIA P t x y).run⟩
 | .load t (.tmp x)=>Qos P t x
 | .store t (.tmp x) y=>Qj7 P t x y
 | .alloc t=>Qjv P t
 | .box t x=>QtK t x
 | .buildSlice t 0 ⟨[]⟩=>Qtn P t
 | .buildSlice t len ⟨parts⟩=>cBS P t len parts
 | .makeSlice t x y=>cMS P t x y
 | .call ⟨.builtin .len,⟨[x]⟩,⟨[t]⟩⟩=>⟨ofV (Qux P t x).run⟩
 | .call ⟨.value (.func g),⟨args⟩,_⟩=>Qjz P g args
 | .call ⟨.value f,⟨args⟩,_⟩=>Qkf P f args
 | .makeMap t none=>Qsr
 | .lookup t m x false=>QoR P t m x
 | op=>⟨fbF P op⟩
theorem Qio {P : Program} {x : Operand} : VOk P (.move x) (XF x).run ∧ VOk P (.assign x) (XF x).run:=by
 constructor <;> (intro T v h F H n;rw [QS] at h;simp only [Xs,h];rfl)
theorem QbQ (P : Program) (op : Op) : ZS P op (Zs P op).run:=by
 unfold Zs;split
 ·exact Qad Qio.1
 ·exact Qad Qio.2
 ·exact Qad Qnr
 ·exact Qad Qob
 ·exact QoI
 ·exact Qad QrX
 ·exact Qad Qml
 ·exact Qad QuI
 ·exact Qad Qrm
 ·exact Qad Qs3
 ·exact Qqb
 ·exact QmZ
 ·exact QmS
 ·exact QqZ
 ·exact Qrk
 ·grind [QuK]
 ·exact QsS
 ·exact Qad Qrr
 ·exact QmK
 ·grind [Qm4]
 ·exact Qon
 ·exact Qqo
 ·exact Qqs P _
end Ev
namespace Ev
open Go Go.RowKit
inductive Rs where
 | bad
 | nm (T : Tr Value) (H : Hp) (n : Nat)
 | ex (i : Nat) (T : Tr Value) (H : Hp) (n : Nat)
 | rt (T : Tr Value) (H : Hp) (n : Nat)
abbrev SF:=CallF → Tr Value → Hp → Nat → Rs
abbrev CS:=Clo SF
noncomputable def noC : CS:=⟨fun _ _ _ _=>.bad⟩
noncomputable def cOn (P : Program) (nt : Nat) (o : Oper) (rest : CS) : CS:=match o.dst with
 | some d=>bif Nat.blt d nt then ⟨fun F T H n=>match (Zs P o.op).run F T H n with
  | .no=>.bad
  | .p v=>rest.run F (Yc (pth d) d v T) H n
  | .q _ v=>rest.run F (Yc (pth d) d v T) H n
  | .new v x=>rest.run F (Yc (pth d) d v T) (Yy H n x) (Nat.succ n)
  | .h v H' n'=>rest.run F (Yc (pth d) d v T) H' n'⟩ else noC
 | none=>⟨fun F T H n=>match (Zs P o.op).run F T H n with
  | .no=>.bad
  | .p v=>rest.run F T H n
  | .q _ v=>rest.run F T H n
  | .new v x=>rest.run F T (Yy H n x) (Nat.succ n)
  | .h v H' n'=>rest.run F T H' n'⟩
noncomputable def QqC (nt : Nat) (dst : Option Nat) (rest : CS) : CS:=match dst with
 | some d=>bif Nat.blt d nt then ⟨fun F T H n=>rest.run F (Yc (pth d) d undef T) H n⟩ else noC
 | none=>rest
noncomputable def QaT (P : Program) (nt : Nat) (all : Array Oper) : List Oper → CS
 | []=>⟨fun _ T H n=>.nm T H n⟩
 | o :: l=>match o.guard with
  | none=>cOn P nt o (QaT P nt all l)
  | some (j,want)=>match (all[j]?).bind (·.dst) with
   | some dj=>⟨fun F T H n=>match Yx (pth dj) dj T with
    | some (.bool b)=>Bool.rec ((QqC nt o.dst (QaT P nt all l)).run F T H n) ((cOn P nt o (QaT P nt all l)).run F T H n) (b == want)
    | some (.tuple ⟨[]⟩)=>(match o.dst with
     | some _=>(QqC nt o.dst (QaT P nt all l)).run F T H n
     | none=>.bad)
    | _=>.bad⟩
   | none=>noC
structure St where
 T : Tr Value
 H : Hp
 n : Nat
structure StOk (r0 : Rho) (w0 : World) (ρ : Rho) (st : St) (L' : Qb) (As : List HA) : Prop where
 le : r0.le ρ
 sr : SR ρ (en st.T) L'
 hp : HM ρ st.H As
 fr : QN ρ st.n
theorem Qp5 {T : Tr Value} {d : Nat} {v : Value} : ∀ t x,en (Yc (pth d) d v T) t = some x → (t = d ∧ x = v) ∨ (t ≠ d ∧ en T t = some x):=by grind [en,Y2,YL]
theorem SR.set {ρ : Rho} {T : Tr Value} {L' : Qb} {d : Nat} {v u : Value} (e : SR ρ (en T) L') (hu : den ρ v = some u) : SR ρ (en (Yc (pth d) d v T)) ((d,u) :: L'):=e.put hu Qp5
def QhG (r0 : Rho) (w0 : World) (ρ : Rho) (st : St) (K : Qb → (World → Prop) → Prop) : Prop:=
 ∀ ρ' L2 As2,ρ.le ρ' → StOk r0 w0 ρ' st L2 As2 → K L2 (HS w0 [] As2)
theorem QhG.mono {r0 : Rho} {w0 : World} {ρ ρ' : Rho} {st : St} {K : Qb → (World → Prop) → Prop} (h : ρ.le ρ') (ht : QhG r0 w0 ρ st K) : QhG r0 w0 ρ' st K:=fun ρ2 L2 As2 h2 hs=>ht ρ2 L2 As2 (Rho.le_trans h h2) hs
def QX (r0 : Rho) (w0 : World) (ρ : Rho) (X : Ctx) (k : List KI) : Rs → Prop
 | .bad=>False
 | .nm T H n=>QhG r0 w0 ρ ⟨T,H,n⟩ (S X k)
 | .ex i T H n=>QhG r0 w0 ρ ⟨T,H,n⟩ (SE X (.exit i) k)
 | .rt T H n=>QhG r0 w0 ρ ⟨T,H,n⟩ (SE X .ret k)
theorem QX.mono {r0 : Rho} {w0 : World} {ρ ρ' : Rho} {X : Ctx} {k : List KI} (h : ρ.le ρ') : ∀ {r : Rs},QX r0 w0 ρ X k r → QX r0 w0 ρ' X k r
 | .bad,ht=>ht.elim
 | .nm _ _ _,ht=>QhG.mono h ht
 | .ex _ _ _ _,ht=>QhG.mono h ht
 | .rt _ _ _,ht=>QhG.mono h ht
theorem CallOk.fok {P : Program} {r0 : Rho} {F : CallF} (h : CallOk P r0 F) : True:=trivial
section
variable {P : Program} {r0 : Rho} {w0 : World} {F : CallF} {X : Ctx} {k : List KI} {all : Array Oper}
def Qtz (w0 : World) (ρ : Rho) (H : Hp) (n : Nat) : Ans → Value → (World → Prop) → Prop
 | .p v=>Out w0 ρ v H n
 | .q v=>Out w0 ρ v H n
 | .h v H n=>Out w0 ρ v H n
theorem Qvw {o : Oper} {L' : Qb} {ρ : Rho} {st : St} {As : List HA} {a : Ans} (h : Z5 P o L' w0 ρ st.H st.n As a) (hp : HM ρ st.H As) (hf : QN ρ st.n) : OpT P o L' (HS w0 [] As) (Qtz w0 ρ st.H st.n a):=by
 cases a with
 | p v=>obtain ⟨u,h1,h2⟩:=h;exact OpT.of_p h1 h2 hp hf
 | q v=>obtain ⟨u,h1,h2⟩:=h;exact OpT.of_q h1 h2 hp hf
 | h v H n=>exact h
theorem QnY (hF : CallOk P r0 F) (hP : X.P = P) {dst : Option Nat} {op : Op} {ty : TypeId} {pos : String} {aft : Array Edge} {gd : Option (Nat × Bool)} {rest : CS} {l : List Oper} {T : Tr Value} {H : Hp} {n : Nat} {ρ : Rho} {L' : Qb} {As : List HA}
  (ih : ∀ T H n ρ L' As,QX r0 w0 ρ X k (rest.run F T H n) → StOk r0 w0 ρ ⟨T,H,n⟩ L' As → O X all l k L' (HS w0 [] As)) (ht : QX r0 w0 ρ X k ((cOn P X.n ⟨dst,op,ty,pos,aft,gd⟩ rest).run F T H n)) (hs : StOk r0 w0 ρ ⟨T,H,n⟩ L' As) :
  O X all (⟨dst,op,ty,pos,aft,none⟩ :: l) k L' (HS w0 [] As):=by
 have key : ∀ a v (H' : Hp) (n' : Nat),Xs P (en T) H n F op = some a → Qtz w0 ρ H n a = Out w0 ρ v H' n' → (match dst with
   | some d=>Nat.blt d X.n = true ∧ QX r0 w0 ρ X k (rest.run F (Yc (pth d) d v T) H' n')
   | none=>QX r0 w0 ρ X k (rest.run F T H' n')) → O X all (⟨dst,op,ty,pos,aft,none⟩ :: l) k L' (HS w0 [] As):=by
  intro a v H' n' h1 h2 h3;have ha:=Z1 (w0:=w0) (L':=L') (o:=⟨dst,op,ty,pos,aft,none⟩) hF hs.le rfl hs.sr hs.hp hs.fr h1;have hT : OpT P _ L' _ (Qtz w0 ρ H n a):=Qvw (st:=⟨T,H,n⟩) ha hs.hp hs.fr;rw [h2] at hT;obtain ⟨G,V,Fg,C',hH,hK⟩:=hT;cases dst with
  | some d=>
   obtain ⟨hd,h3⟩:=h3;refine o_h (by rw [hP];exact hH) hd fun g hg=>?_;obtain ⟨ρ',As',g1,g2,g3,g4,g5⟩:=hK g hg;exact YN g5 (ih _ _ _ ρ' _ As' (h3.mono g1) ⟨Rho.le_trans hs.le g1,(hs.sr.mono g1).set g3,g4,g2⟩)
  | none=>
   refine Qjq (by rw [hP];exact hH) fun g hg=>?_;obtain ⟨ρ',As',g1,g2,g3,g4,g5⟩:=hK g hg;exact YN g5 (ih _ _ _ ρ' _ As' (h3.mono g1) ⟨Rho.le_trans hs.le g1,hs.sr.mono g1,g4,g2⟩)
 have hc:=QbQ P op F hF.fok T H n;cases dst with
 | some d=>
  simp only [cOn] at ht;cases hb : Nat.blt d X.n with
  | false=>rw [hb] at ht;exact ht.elim
  | true=>
   rw [hb] at ht;simp only [cond_true] at ht;cases hr : (Zs P op).run F T H n with
   | no=>rw [hr] at ht;exact ht.elim
   | p v=>rw [hr] at hc ht;exact key _ v H n hc rfl ⟨hb,ht⟩
   | q m v=>rw [hr] at hc ht;exact key _ v H n (hc.1 H fun _ _=>rfl) rfl ⟨hb,ht⟩
   | new v x=>rw [hr] at hc ht;exact key _ v (Yy H n x) (n + 1) hc rfl ⟨hb,ht⟩
   | h v H' n'=>rw [hr] at hc ht;exact key _ v H' n' hc rfl ⟨hb,ht⟩
 | none=>
  simp only [cOn] at ht;cases hr : (Zs P op).run F T H n with
  | no=>rw [hr] at ht;exact ht.elim
  | p v=>rw [hr] at hc ht;exact key _ v H n hc rfl ht
  | q m v=>rw [hr] at hc ht;exact key _ v H n (hc.1 H fun _ _=>rfl) rfl ht
  | new v x=>rw [hr] at hc ht;exact key _ v (Yy H n x) (n + 1) hc rfl ht
  | h v H' n'=>rw [hr] at hc ht;exact key _ v H' n' hc rfl ht
theorem QbM {ρ : Rho} : den ρ undef = some undef:=rfl
theorem QfI (hF : CallOk P r0 F) (hP : X.P = P) : ∀ (l : List Oper) (T : Tr Value) (H : Hp) (n : Nat) (ρ : Rho) (L' : Qb) (As : List HA),QX r0 w0 ρ X k ((QaT P X.n all l).run F T H n) → StOk r0 w0 ρ ⟨T,H,n⟩ L' As → O X all l k L' (HS w0 [] As)
 | [],T,H,n,ρ,L',As,ht,hs=>QkH (ht ρ L' As ρ.le_refl hs)
 | ⟨dst,op,ty,pos,aft,guard⟩ :: l,T,H,n,ρ,L',As,ht,hs=>by
  have ih:=QfI hF hP l;cases guard with
  | none=>exact QnY hF hP ih ht hs
  | some jw=>
   obtain ⟨j,want⟩:=jw;simp only [QaT] at ht;split at ht
   ·rename_i dj hj;simp only [] at ht;split at ht
    ·rename_i b hb;obtain ⟨u,e1,e2⟩:=hs.sr.get (show en T dj = _ from hb);injection e2 with e2
     subst e2;cases hw : b == want with
     | true=>
      rw [hw] at ht
      grind [o_on,QnY]
     | false=>
      rw [hw] at ht;have hw' : b = !want:=by cases b <;> cases want <;> simp_all
      simp only [QqC] at ht;split at ht
      ·rename_i d;cases hd : Nat.blt d X.n with
       | false=>rw [hd] at ht;exact ht.elim
       | true=>
        rw [hd] at ht;exact Qpt dj b hj e1 hw' hd (ih _ _ _ ρ _ As ht ⟨hs.le,hs.sr.set QbM,hs.hp,hs.fr⟩)
      grind [QjK]
    ·rename_i hb;obtain ⟨u,e1,e2⟩:=hs.sr.get (show en T dj = _ from hb);injection e2 with e2
     subst e2;split at ht
     ·rename_i d;simp only [QqC] at ht;cases hd : Nat.blt d X.n with
      | false=>rw [hd] at ht;exact ht.elim
      | true=>
       rw [hd] at ht;exact Qpy dj hj e1 hd (ih _ _ _ ρ _ As ht ⟨hs.le,hs.sr.set QbM,hs.hp,hs.fr⟩)
     ·exact ht.elim
    ·exact ht.elim
   ·exact ht.elim
end
end Ev
namespace Ev
open Go Go.RowKit
noncomputable def QkA (b : SF) (m : Nat) : SF:=Nat.rec (fun _ _ _ _=>.bad) (fun _ ih F T H n=>match b F T H n with
 | .nm T H n=>ih F T H n
 | r=>r) m
noncomputable def XT (P : Program) (nt m : Nat) (Dr : Nat → Array Oper → CS) : Code → CS
 | .skip=>⟨fun _ T H n=>.nm T H n⟩
 | .label _=>⟨fun _ T H n=>.nm T H n⟩
 | .region _ ⟨ops⟩ false=>QaT P nt ⟨ops⟩ ops
 | .region _ ⟨ops⟩ true=>Dr nt ⟨ops⟩
 | .seq a b=>⟨fun F T H n=>match (XT P nt m Dr a).run F T H n with
  | .nm T H n=>(XT P nt m Dr b).run F T H n
  | r=>r⟩
 | .cond x a b=>⟨fun F T H n=>match (XF x).run T with
  | some (.bool t)=>Bool.rec ((XT P nt m Dr b).run F T H n) ((XT P nt m Dr a).run F T H n) t
  | _=>.bad⟩
 | .block id b=>⟨fun F T H n=>match (XT P nt m Dr b).run F T H n with
  | .ex i T H n=>bif Nat.beq i id then .nm T H n else .ex i T H n
  | r=>r⟩
 | .loop b=>⟨QkA (XT P nt m Dr b).run m⟩
 | .exit i=>⟨fun _ T H n=>.ex i T H n⟩
 | .ret=>⟨fun _ T H n=>.rt T H n⟩
 | _=>noC
def QjR (P : Program) (Dr : Nat → Array Oper → CS) : Prop:=∀ (l : List Oper) (id : Nat) (r0 : Rho) (w0 : World) (X : Ctx) (k : List KI) (F : CallF) (T : Tr Value) (H : Hp) (n : Nat) (ρ : Rho) (L' : Qb) (As : List HA),X.P = P → CallOk P r0 F → QX r0 w0 ρ X k ((Dr X.n ⟨l⟩).run F T H n) → StOk r0 w0 ρ ⟨T,H,n⟩ L' As → S X (.c (.region id ⟨l⟩ true) :: k) L' (HS w0 [] As)
section
variable {P : Program} {r0 : Rho} {w0 : World} {X : Ctx} {m : Nat} {Dr : Nat → Array Oper → CS}
theorem QaV {x : KI} {k : List KI} {L : Qb} {C : World → Prop} (h : SE X .ret k L C) : SE X .ret (x :: k) L C:=by
 rcases x with c | id | J
 ·exact fun a w ha hw=>h a w ha hw
 ·exact fun a w ha hw=>h a w ha hw
 ·exact fun a w ha hw=>h a w ha hw
def reS (L : Qb) : Qb → Qb
 | []=>[]
 | (t,_) :: h=>match Qb.get L t with
  | some v=>(t,v) :: reS L h
  | none=>reS L h
theorem QgK (L : Qb) : ∀ h,Qba L (reS L h)
 | []=>trivial
 | (t,x) :: h=>by
  simp only [reS];split
  ·rename_i v hv;exact ⟨hv,QgK L h⟩
  ·exact QgK L h
theorem Qk9 {L : Qb} {t : Nat} {v : Value} (hv : Qb.get L t = some v) : ∀ h x,Qb.get h t = some x → Qb.get (reS L h) t = some v
 | [],x,hx=>by cases hx
 | (k,y) :: h,x,hx=>by
  simp only [Qb.get] at hx;simp only [reS];cases hb : Nat.beq k t with
  | true=>simp_all [Qb.get]
  | false=>
   rw [hb] at hx;have ih:=Qk9 hv h x hx
   grind [Qb.get]
theorem SR.clean {ρ : Rho} {L : Env} {L' : Qb} (h : SR ρ L L') : SR ρ L (reS L' L') ∧ Qba L' (reS L' L'):=
 ⟨fun t v hv=>by
  obtain ⟨u,h1,h2⟩:=h t v hv;exact ⟨u,Qk9 h1 _ _ h1,h2⟩,QgK _ _⟩
theorem QX.seq {c : Code} {k : List KI} {ρ : Rho} (b : CS) {F : CallF} (ih : ∀ T H n ρ L' As,QX r0 w0 ρ X k (b.run F T H n) → StOk r0 w0 ρ ⟨T,H,n⟩ L' As → S X (.c c :: k) L' (HS w0 [] As)) : ∀ {r : Rs},QX r0 w0 ρ X k (match r with
  | .nm T H n=>b.run F T H n
  | r=>r) → QX r0 w0 ρ X (.c c :: k) r
 | .bad,h=>h.elim
 | .nm T H n,h=>fun ρ2 L2 As2 hle hs2=>ih _ _ _ _ _ _ (QX.mono hle h) hs2
 | .ex i T H n,h=>fun ρ2 L2 As2 hle hs2=>QdI (h ρ2 L2 As2 hle hs2)
 | .rt T H n,h=>fun ρ2 L2 As2 hle hs2=>QaV (h ρ2 L2 As2 hle hs2)
theorem QX.blk {id : Nat} {k : List KI} {ρ : Rho} : ∀ {r : Rs},QX r0 w0 ρ X k (match r with
  | .ex i T H n=>bif Nat.beq i id then .nm T H n else .ex i T H n
  | r=>r) → QX r0 w0 ρ X (.blk id :: k) r
 | .bad,h=>h.elim
 | .nm T H n,h=>fun ρ2 L2 As2 hle hs2=>Qso (h ρ2 L2 As2 hle hs2)
 | .ex i T H n,h=>fun ρ2 L2 As2 hle hs2=>by
  simp only [] at h;cases hb : Nat.beq i id with
  | true=>
   rw [hb] at h;have hi:=Nat.eq_of_beq_eq_true hb;subst hi;exact QcP (h ρ2 L2 As2 hle hs2)
  | false=>
   rw [hb] at h;exact Qc6 hb (h ρ2 L2 As2 hle hs2)
 | .rt T H n,h=>fun ρ2 L2 As2 hle hs2=>QaV (h ρ2 L2 As2 hle hs2)
theorem QoO {c : Code} {b : SF} {F : CallF} {k : List KI} (ih : ∀ (k : List KI) T H n ρ L' As,QX r0 w0 ρ X k (b F T H n) → StOk r0 w0 ρ ⟨T,H,n⟩ L' As → S X (.c c :: k) L' (HS w0 [] As)) {m : Nat} {T : Tr Value} {H : Hp} {n : Nat} {ρ : Rho} {L' : Qb} {As : List HA}
  (ht : QX r0 w0 ρ X k (QkA b m F T H n)) (hs : StOk r0 w0 ρ ⟨T,H,n⟩ L' As) : S X (.c (.loop c) :: k) L' (HS w0 [] As):=by
 let α:={ x : Nat × St × Rho × Qb × List HA // QX r0 w0 x.2.2.1 X k (QkA b x.1 F x.2.1.T x.2.1.H x.2.1.n) ∧ StOk r0 w0 x.2.2.1 x.2.1 x.2.2.2.1 x.2.2.2.2 }
 obtain ⟨f1,f2⟩:=hs.sr.clean;refine Qpd (α:=α) (fun x=>x.1.2.2.2.1) (fun x=>HS w0 [] x.1.2.2.2.2) (fun x=>x.1.1) ⟨(m,⟨T,H,n⟩,ρ,_,As),ht,⟨hs.le,f1,hs.hp,hs.fr⟩⟩ f2 (fun _ h=>h) ?_;rintro ⟨⟨m1,⟨T1,H1,n1⟩,ρ1,L1,As1⟩,h1,h2⟩;cases m1 with
 | zero=>exact h1.elim
 | succ m1=>
  refine ih _ T1 H1 n1 ρ1 L1 As1 ?_ h2
  have h3 : QX r0 w0 ρ1 X k (match b F T1 H1 n1 with
   | .nm T H n=>QkA b m1 F T H n
   | r=>r):=h1
  cases hr : b F T1 H1 n1 with
  | bad=>rw [hr] at h3;exact h3.elim
  | nm T2 H2 n2=>
   rw [hr] at h3;intro ρ2 L2 As2 hle hs2;obtain ⟨g1,g2⟩:=hs2.sr.clean;exact Qub (⟨(m1,⟨T2,H2,n2⟩,ρ2,_,As2),QX.mono hle h3,⟨hs2.le,g1,hs2.hp,hs2.fr⟩⟩ : α) (Nat.lt_succ_self m1) g2 (fun _ h=>h)
  | ex i T2 H2 n2=>
   rw [hr] at h3;exact fun ρ2 L2 As2 hle hs2=>QcC (h3 ρ2 L2 As2 hle hs2)
  | rt T2 H2 n2=>
   rw [hr] at h3;exact fun ρ2 L2 As2 hle hs2=>QaV (h3 ρ2 L2 As2 hle hs2)
theorem Q2 {F : CallF} (hF : CallOk P r0 F) (hD : QjR P Dr) (hP : X.P = P) : ∀ (c : Code) (k : List KI) (T : Tr Value) (H : Hp) (n : Nat) (ρ : Rho) (L' : Qb) (As : List HA),QX r0 w0 ρ X k ((XT P X.n m Dr c).run F T H n) → StOk r0 w0 ρ ⟨T,H,n⟩ L' As → S X (.c c :: k) L' (HS w0 [] As)
 | .skip,k,T,H,n,ρ,L',As,ht,hs=>Qng (ht ρ L' As ρ.le_refl hs)
 | .label _,k,T,H,n,ρ,L',As,ht,hs=>Qr0 (ht ρ L' As ρ.le_refl hs)
 | .region _ ⟨ops⟩ false,k,T,H,n,ρ,L',As,ht,hs=>Qi4 (QfI hF hP ops T H n ρ L' As ht hs)
 | .region id ⟨ops⟩ true,k,T,H,n,ρ,L',As,ht,hs=>hD ops id r0 w0 X k F T H n ρ L' As hP hF ht hs
 | .seq a b,k,T,H,n,ρ,L',As,ht,hs=>QkG (Q2 hF hD hP a _ T H n ρ L' As (QX.seq (XT P X.n m Dr b) (Q2 hF hD hP b k) ht) hs)
 | .cond x a b,k,T,H,n,ρ,L',As,ht,hs=>by
  simp only [XT,QS] at ht;split at ht
  ·rename_i t hx;have hx':=Qi hs.sr hx rfl;cases t with
   | true=>exact Qe4 hx' (fun _=>Q2 hF hD hP a k T H n ρ L' As ht hs) (fun h=>by cases h)
   | false=>exact Qe4 hx' (fun h=>by cases h) (fun _=>Q2 hF hD hP b k T H n ρ L' As ht hs)
  ·exact ht.elim
 | .block id b,k,T,H,n,ρ,L',As,ht,hs=>QhN (Q2 hF hD hP b _ T H n ρ L' As (QX.blk ht) hs)
 | .loop b,k,T,H,n,ρ,L',As,ht,hs=>QoO (fun k=>Q2 hF hD hP b k) ht hs
 | .exit i,k,T,H,n,ρ,L',As,ht,hs=>Qny (ht ρ L' As ρ.le_refl hs)
 | .ret,k,T,H,n,ρ,L',As,ht,hs=>Qnt (ht ρ L' As ρ.le_refl hs)
 | .rangeFunc _ _ _ _,_,_,_,_,_,_,_,ht,_=>ht.elim
 | .scope _,_,_,_,_,_,_,_,ht,_=>ht.elim
 | .goto _,_,_,_,_,_,_,_,ht,_=>ht.elim
 | .refuse _,_,_,_,_,_,_,_,ht,_=>ht.elim
end
def Rho.wx (ρ : Rho) (e : List HA) : Rho:=⟨ρ.f,e⟩
theorem SR.wx {ρ : Rho} {L : Env} {L' : Qb} (h : SR ρ L L') (e : List HA) : SR (ρ.wx e) L L':=h
noncomputable def noY : Qnl:=fun _ _ _ _=>none
theorem Qcs {P : Program} {r0 : Rho} : YOk P r0 noY:=fun _ _ _ _ _ _ _ h=>by cases h
noncomputable def Qlx (nt : Nat) : List Nat → List Value → Tr Value → Option (Tr Value)
 | [],[],T=>some T
 | p :: ps,v :: vs,T=>bif Nat.blt p nt then Qlx nt ps vs (Yc (pth p) p v T) else none
 | _,_,_=>none
noncomputable def Qkm (ca cb : SF) (nt : Nat) (ps : List Nat) (F : CallF) (T0 : Tr Value) (nm : Nat) : Qnl:=fun k vs H n=>bif Nat.beq k nm then (match Qlx nt ps vs T0 with
 | some T1=>(match ca ⟨F.f,F.e,noY⟩ T1 H n with
  | .nm T2 H2 n2=>(match cb ⟨F.f,F.e,noY⟩ T2 H2 n2 with
   | .nm _ H3 n3=>some (.bool true,H3,n3)
   | _=>none)
  | _=>none)
 | none=>none) else none
noncomputable def Qfd (P : Program) (g : Operand) (ca cb : SF) (nt : Nat) (ps : List Nat) : CS:=⟨fun F T H n=>match (XF g).run T with
 | some (.func (.func gf) ⟨[]⟩ ⟨lb⟩)=>bif QM P gf then (match F.f (Qkm ca cb nt ps F T n) gf (.func (.yield n) #[] #[] :: lb) H (Nat.succ n) with
  | some (_,H',n')=>.nm T H' n'
  | none=>.bad) else .bad
 | _=>.bad⟩
def Qg8 : Code → Bool
 | .rangeFunc _ _ _ _=>true
 | .seq a b=>Qg8 a || Qg8 b
 | .cond _ a b=>Qg8 a || Qg8 b
 | .block _ b=>Qg8 b
 | _=>false
noncomputable def ZY (P : Program) (nt m : Nat) (Dr : Nat → Array Oper → CS) : Code → CS
 | .seq a b=>Bool.rec (Bool.rec (XT P nt m Dr (.seq a b)) ⟨fun F T H n=>match (XT P nt m Dr a).run F T H n with
   | .nm T H n=>(ZY P nt m Dr b).run F T H n
   | r=>r⟩ (Qg8 b)) ⟨fun F T H n=>match (ZY P nt m Dr a).run F T H n with
   | .nm T H n=>(XT P nt m Dr b).run ⟨F.f,F.e,noY⟩ T H n
   | r=>r⟩ (Qg8 a)
 | .cond x a b=>⟨fun F T H n=>match (XF x).run T with
  | some (.bool t)=>Bool.rec ((ZY P nt m Dr b).run F T H n) ((ZY P nt m Dr a).run F T H n) t
  | _=>.bad⟩
 | .block id b=>⟨fun F T H n=>match (ZY P nt m Dr b).run F T H n with
  | .ex i T H n=>bif Nat.beq i id then .nm T H n else .ex i T H n
  | r=>r⟩
 | .rangeFunc g ⟨ps⟩ assign body=>Qfd P g (XT P nt m Dr assign).run (XT P nt m Dr body).run nt ps
 | c=>XT P nt m Dr c
theorem QkE {ρ : Rho} {n : Nat} : ∀ {ps : List Nat} {vs us : List Value} {T T1 : Tr Value} {L : Qb} {t : Array Value},Qlx n ps vs T = some T1 → Qt (den ρ) vs = some us → SR ρ (en T) L → FR n [] L { tmps:=t,defers:=[] } →
  ∃ L1,SR ρ (en T1) L1 ∧ FR n [] L1 { tmps:=(ps.zip us).foldl (fun t (p,v)=>t.setIfInBounds p v) t,defers:=[] } ∧ us.length = ps.length
 | [],[],us,T,T1,L,t,h,hm,hs,hf=>by
  injection h with h
  cases hm;subst h;exact ⟨L,hs,hf,rfl⟩
 | p :: ps,v :: vs,us,T,T1,L,t,h,hm,hs,hf=>by
  simp only [Qlx] at h;obtain ⟨hb,h⟩:=Qab h;simp only [Qt] at hm;split at hm
  ·rename_i u us' h1 h2;injection hm with hm
   subst hm;have hf1:=hf.put p u hb;obtain ⟨L1,g1,g2,g3⟩:=QkE (t:=t.setIfInBounds p u) h h2 (hs.set h1) ⟨rfl,hf1.size,hf1.slot⟩;exact ⟨L1,g1,g2,by simp [g3]⟩
  ·cases hm
 | [],_ :: _,_,_,_,_,_,h,_,_,_=>by cases h
 | _ :: _,[],_,_,_,_,_,h,_,_,_=>by cases h
theorem Qqm {α : Type} {P : Program} {fn : Func} {n l D : Nat} {fid : FuncId} {tmps : Array Value} {ps : Array Tmp} {assign body : Code} {args : Array Value} {L0 : Qb} {LJ : α → Qb} {AJ : α → List HA} {w0 W : World} {As : List HA} {Rr : Ending → World → Prop}
  (hC : HS w0 [] (.obj l (.loop (rdy fid tmps ps assign body D)) :: As) W) (hps : args.size = ps.size) (hf : FR n [] L0 { tmps:=(ps.zip args).foldl (fun t (p,v)=>t.setIfInBounds p v) tmps,defers:=[] })
  (h1 : S { P:=P,fn:=fn,n:=n,R:=fun _ _=>False,rd:=some l } [.c assign,.join (At n [] LJ (fun x=>HS w0 [] (.obj l (.loop (rdy fid tmps ps assign body D)) :: AJ x)))] L0 (HS w0 [] (.obj l (.loop (rdy fid tmps ps assign body D)) :: As)))
  (h2 : ∀ x,S { P:=P,fn:=fn,n:=n,R:=Rr,rd:=some l } [.c body] (LJ x) (HS w0 [] (.obj l (.loop { rdy fid tmps ps assign body D with state:=.busy }) :: AJ x))) : Qhl P l args W Rr:=by
 refine ⟨fid,_,assign,body,run_yield (hC.obj_get .here) hps,roundIn_of_wpIn trivial ?_⟩;refine wpIn_mono (h1 _ W hf hC) fun e a w he=>?_;cases e with
 | normal=>
  obtain ⟨x,hfr,hc⟩:=he;exact ⟨_,run_beginRound (hc.obj_get .here) rfl,h2 x _ _ hfr (hc.putObj .here _)⟩
 | ret=>obtain ⟨v,w',_,hx⟩:=he;exact hx
 | exit id=>obtain ⟨v,w',_,hx⟩:=he;exact hx
 | goto t=>obtain ⟨v,w',_,hx⟩:=he;exact hx
 | panic ch=>exact he
 | outgrown=>exact he
section
variable {P : Program} {r0 : Rho} {w0 : World} {X : Ctx} {m : Nat} {Dr : Nat → Array Oper → CS}
theorem HM.split {ρ : Rho} {H : Hp} {As : List HA} (h : HM ρ H As) : ∃ Bs,As = Bs ++ ρ.ex ∧ ∀ e,HM (ρ.wx e) H (Bs ++ e):=by
 obtain ⟨G,Bs,h1,h2,h3⟩:=h;exact ⟨Bs,h3,fun e=>⟨G,Bs,h1,h2,rfl⟩⟩
theorem Qma {fn : Func} {nt l D : Nat} {fid : FuncId} {tmps : Array Value} {ps : List Nat} {assign body : Code} {T0 : Tr Value} {nm d : Nat} {r1 : Rho} {rest : List HA} {L : Qb} {F : CallF} (hF : ∀ r,CallOk P r ⟨F.f,F.e,noY⟩) (hD : QjR P Dr)
  (hn : r1 nm = some (l,d)) (hex : r1.ex = .obj l (.loop (rdy fid tmps ⟨ps⟩ assign body D)) :: rest) (hf : FR nt [] L { tmps:=tmps,defers:=[] }) (hs : SR r1 (en T0) L) : YOk P r1 (Qkm (XT P nt m Dr assign).run (XT P nt m Dr body).run nt ps F T0 nm):=by
 intro k vs H n v H' n' h w0 ρ us As hle hus hH hfr;unfold Qkm at h;have hk : Nat.beq k nm = true:=by grind
 rw [hk] at h;simp only [cond_true] at h;have hk:=Nat.eq_of_beq_eq_true hk;subst hk;refine ⟨(l,d),hle.1 _ _ hn,?_⟩;split at h
 ·rename_i T1 hb;split at h
  ·rename_i T2 H2 n2 ha;split at h
   ·rename_i T3 H3 n3 hc;injection h with h
    injection h with e1 e2
    injection e2 with e2 e3
    subst e1 e2 e3;obtain ⟨L1,g1,g2,g3⟩:=QkE hb hus (hs.mono hle) hf;intro w hw;have hρe : ρ.ex = .obj l (.loop (rdy fid tmps ⟨ps⟩ assign body D)) :: rest:=by rw [hle.2,hex]
    obtain ⟨Bs,hAs,hBs⟩:=hH.split
    let α:={ x : Rho × List HA × Qb × List HA // ρ.le x.1 ∧ StOk x.1 w0 x.1 ⟨T2,H2,n2⟩ x.2.2.1 x.2.1 ∧ x.2.1 = x.2.2.2 ++ x.1.ex }
    refine Qqm (fn:=fn) (n:=nt) (α:=α) (L0:=L1) (As:=Bs ++ rest) (LJ:=fun x=>x.1.2.2.1) (AJ:=fun x=>x.1.2.2.2 ++ rest) (hw.perm (by rw [hAs,hρe];exact List.perm_middle)) (by simp [g3]) (by simpa using g2) ?_ ?_
    ·have hA:=Q2 (r0:=ρ) (w0:=w0) (X:={ P:=P,fn:=fn,n:=nt,R:=fun _ _=>False,rd:=some l }) (m:=m) (hF ρ) hD rfl assign [.join (At nt [] (fun x : α=>x.1.2.2.1) (fun x=>HS w0 [] (.obj l (.loop (rdy fid tmps ⟨ps⟩ assign body D)) :: (x.1.2.2.2 ++ rest))))] T1 H n ρ L1 As (by
      rw [ha];intro ρ2 L2 As2 hle2 hs2;obtain ⟨Bs2,k1,k2⟩:=hs2.hp.split;intro a9 w9 ha9 hw9
      have hpm : As2.Perm (.obj l (.loop (rdy fid tmps ⟨ps⟩ assign body D)) :: (Bs2 ++ rest)):=by
       rw [k1,hle2.2,hρe];exact List.perm_middle
      exact ⟨(⟨(ρ2,As2,L2,Bs2),hle2,⟨ρ2.le_refl,hs2.sr,hs2.hp,hs2.fr⟩,k1⟩ : α),ha9,hw9.perm hpm⟩) ⟨ρ.le_refl,g1,hH,hfr⟩
     intro a9 w9 ha9 hw9;exact hA a9 w9 ha9 (hw9.perm (by rw [hAs,hρe];exact List.perm_middle.symm))
    ·rintro ⟨⟨ρ2,As2,L2,Bs2⟩,q1,q2,q3⟩;simp only [] at q1 q2 q3;have hρ2 : ρ2.ex = .obj l (.loop (rdy fid tmps ⟨ps⟩ assign body D)) :: rest:=by rw [q1.2,hρe]
     obtain ⟨Bs2',k1,k2⟩:=q2.hp.split;have hbb : Bs2' = Bs2:=List.append_cancel_right (k1.symm.trans q3);subst hbb
     have hB:=Q2 (r0:=ρ2.wx (.obj l (.loop { rdy fid tmps ⟨ps⟩ assign body D with state:=.busy }) :: rest)) (w0:=w0) (X:={ P:=P,fn:=fn,n:=nt,R:=QlM w0 ρ (.bool true) H3 n3,rd:=some l }) (m:=m) (hF _) hD rfl body [] T2 H2 n2 (ρ2.wx (.obj l (.loop { rdy fid tmps ⟨ps⟩ assign body D with state:=.busy }) :: rest)) L2 (Bs2' ++ (.obj l (.loop { rdy fid tmps ⟨ps⟩ assign body D with state:=.busy }) :: rest)) (by
      rw [hc];intro ρ3 L3 As3 hle3 hs3;obtain ⟨Bs3,j1,j2⟩:=hs3.hp.split;have hρ3 : ρ3.ex = .obj l (.loop { rdy fid tmps ⟨ps⟩ assign body D with state:=.busy }) :: rest:=hle3.2;refine Qoc (As':=Bs3 ++ rest) rfl (by rw [j1,hρ3];exact List.perm_middle) fun w9 hw9=>?_;refine ⟨ρ3.wx (.obj l (.loop (rdy fid tmps ⟨ps⟩ assign body D)) :: rest),Bs3 ++ (.obj l (.loop (rdy fid tmps ⟨ps⟩ assign body D)) :: rest),.bool true,⟨fun n9 x9 h9=>hle3.1 _ _ (q1.1 _ _ h9),by rw [hρe];rfl⟩,hs3.fr,rfl,j2 _,rfl,hw9.perm List.perm_middle.symm⟩) ⟨Rho.le_refl _,q2.sr,k2 _,q2.fr⟩
     intro a9 w9 ha9 hw9;exact hB a9 w9 ha9 (hw9.perm List.perm_middle.symm)
   ·cases h
  ·cases h
 ·cases h
def RB (w0 : World) (ρ : Rho) (X : Ctx) (k : List KI) (r : Rs) : Prop:=∀ (D : Nat) (ρ1 : Rho),(∀ n x,ρ n = some x → ρ1 n = some x) → ρ1.ex = .obj D (.deferred (some [])) :: ρ.ex → QX ρ1 w0 ρ1 { X with df:=[D] } k r
theorem RB.mono {ρ ρ' : Rho} {k : List KI} {r : Rs} (h : RB w0 ρ X k r) (hle : ρ.le ρ') : RB w0 ρ' X k r:=fun D ρ1 h1 h2=>h D ρ1 (fun n x hx=>h1 n x (hle.1 n x hx)) (by rw [h2,hle.2])
theorem QmM {F : CallF} (hF : CallOk P r0 F) (hD : QjR P Dr) (hP : X.P = P) (hrd : X.rd = none) (hdf : X.df = []) {g : Operand} {ps : List Nat} {assign body : Code} {k : List KI} {T : Tr Value} {H : Hp} {n : Nat} {ρ : Rho} {L' : Qb} {As : List HA}
  (hB : RB w0 ρ X k ((Qfd P g (XT P X.n m Dr assign).run (XT P X.n m Dr body).run X.n ps).run F T H n)) (hB0 : (Qfd P g (XT P X.n m Dr assign).run (XT P X.n m Dr body).run X.n ps).run F T H n ≠ .bad) (hs : StOk r0 w0 ρ ⟨T,H,n⟩ L' As) : S X (.c (.rangeFunc g ⟨ps⟩ assign body) :: k) L' (HS w0 [] As):=by
 subst hP;have hF0 : ∀ r,CallOk X.P r ⟨F.f,F.e,noY⟩:=fun r=>⟨hF.f,hF.e,Qcs⟩;unfold Qfd at hB hB0;simp only [QS] at hB hB0;split at hB0
 ·rename_i gf lb hx;rw [hx] at hB;simp only [] at hB;cases hfn : QM X.P gf with
  | false=>rw [hfn] at hB0;exact absurd rfl hB0
  | true=>
   rw [hfn] at hB hB0;simp only [cond_true] at hB hB0;split at hB0
   ·rename_i v H' n' hr;rw [hr] at hB;simp only [] at hB;obtain ⟨u,e1,e2⟩:=YJ hs.sr hx;simp only [den,Xq,QP,Qb5] at e2;split at e2
    ·rename_i f' a' lb' g1 g2 g3;injection g1 with g1
     injection e2 with e2
     subst g1 e2;injection g2 with g2
     subst g2;obtain ⟨Bs0,hAs,hBs0⟩:=hs.hp.split;have hAs : As = Bs0 ++ ρ.ex:=hAs
     let G:={ x : (Nat → Option (Nat × Nat)) × List HA // (∀ n y,ρ n = some y → x.1 n = some y) ∧ (∀ k,n' ≤ k → x.1 k = none) ∧ ∃ Bs,x.2 = Bs ++ ρ.ex ∧ ∀ e,HM ⟨x.1,e⟩ H' (Bs ++ e) }
     refine QqO (gf:=gf) (lb:=lb'.toArray) (G:=G) (Bs:=fun x=>x.1.2) hrd hdf e1 hfn ?_ ?_
     ·intro fid D l a w1 ob hob hfr hw1;subst hob
      let r1 : Rho:=⟨(ext ρ n (l,0)).f,.obj l (.loop (rdy fid a.tmps ⟨ps⟩ assign body D)) :: .obj D (.deferred (some [])) :: ρ.ex⟩
      have hle1 : ∀ n y,ρ n = some y → r1 n = some y:=(Qfb hs.fr (l,0)).1;have hr1n : r1 n = some (l,0):=QaS ρ n (l,0);have hmono : ∀ {x y : Value},XJ ρ x = some y → den r1 x = some y:=fun {x y} hx=>Qft (ρ:=ρ.wx r1.ex) (ρ':=r1) ⟨hle1,rfl⟩ x y (Qb0 (QaC (Qo2 hx)));have hY:=Qma (P:=X.P) (fn:=X.fn) (nt:=X.n) (m:=m) (Dr:=Dr) (l:=l) (D:=D) (fid:=fid) (tmps:=a.tmps) (ps:=ps) (assign:=assign) (body:=body) (T0:=T) (nm:=n) (d:=0) (r1:=r1) (L:=L') hF0 hD hr1n rfl ⟨rfl,hfr.size,hfr.slot⟩ (SR.mono (ρ:=ρ.wx r1.ex) ⟨hle1,rfl⟩ hs.sr);have hM1 : HM r1 H (Bs0 ++ r1.ex):=HM.mono (ρ:=ρ.wx r1.ex) ⟨hle1,rfl⟩ (hBs0 r1.ex)
      have hcall:=hF.f r1 _ hY gf _ H _ v H' n' hr w0 r1 (.func (.yield l) #[] #[] :: lb') (Bs0 ++ r1.ex) r1.le_refl (by
       simp only [Qt,den,Xq,QP,Qb5,hr1n];have:=Xi (fun x y hx=>hmono hx) g3;rw [this]) hM1 (Qak hs.fr (l,0)) w1 (hw1.perm (by
       rw [hAs];show (_ :: _ :: (Bs0 ++ ρ.ex)).Perm (Bs0 ++ (_ :: _ :: ρ.ex));exact (List.perm_middle.trans (List.perm_middle.cons _)).symm))
      have hargs : (.func (.yield l) #[] #[] :: lb').toArray = #[Value.func (.yield l) #[] #[]] ++ lb'.toArray:=by simp
      rw [hargs] at hcall;refine Calls.mono hcall fun e w2 ⟨ρ',As',u',h1,h2,h3,h4,h5,h6⟩=>⟨⟨u',h5⟩,?_⟩;obtain ⟨Bs',j1,j2⟩:=h4.split
      have hpm : As'.Perm (.obj l (.loop (rdy fid a.tmps ⟨ps⟩ assign body D)) :: .obj D (.deferred (some [])) :: (Bs' ++ ρ.ex)):=by
       rw [j1,h1.2];exact List.perm_middle.trans (List.perm_middle.cons _)
      exact ⟨⟨(ρ'.f,Bs' ++ ρ.ex),fun n9 y9 h9=>h1.1 _ _ (hle1 _ _ h9),h2,Bs',rfl,fun e=>j2 e⟩,h6.perm hpm⟩
     ·rintro D ⟨⟨f9,As9⟩,q1,q2,Bs9,q3,q4⟩;simp only [] at q1 q2 q3 q4;have:=hB D ⟨f9,.obj D (.deferred (some [])) :: ρ.ex⟩ q1 rfl ⟨f9,.obj D (.deferred (some [])) :: ρ.ex⟩ L' (Bs9 ++ (.obj D (.deferred (some [])) :: ρ.ex)) (Rho.le_refl _) ⟨Rho.le_refl _,SR.mono (ρ:=ρ.wx (.obj D (.deferred (some [])) :: ρ.ex)) (ρ':=⟨f9,.obj D (.deferred (some [])) :: ρ.ex⟩) ⟨q1,rfl⟩ hs.sr,q4 _,q2⟩;intro a9 w9 ha9 hw9;refine this a9 w9 ha9 (hw9.perm ?_);show (_ :: As9).Perm _;rw [q3];exact List.perm_middle.symm
    ·cases e2
   grind
 grind
theorem Qas {F : CallF} (hF : CallOk P r0 F) (hD : QjR P Dr) (hP : X.P = P) (hrd : X.rd = none) (hdf : X.df = []) : ∀ (c : Code) (k : List KI) (T : Tr Value) (H : Hp) (n : Nat) (ρ : Rho) (L' : Qb) (As : List HA),QX r0 w0 ρ X k ((ZY P X.n m Dr c).run F T H n) → RB w0 ρ X k ((ZY P X.n m Dr c).run F T H n) → StOk r0 w0 ρ ⟨T,H,n⟩ L' As → S X (.c c :: k) L' (HS w0 [] As)
 | .seq a b,k,T,H,n,ρ,L',As,hA,hB,hs=>by
  have hF0 : ∀ r,CallOk P r ⟨F.f,F.e,noY⟩:=fun r=>⟨hF.f,hF.e,Qcs⟩;cases ha : Qg8 a with
  | true=>
   simp only [ZY,ha] at hA hB;refine QkG (Qas hF hD hP hrd hdf a (.c b :: k) T H n ρ L' As ?_ ?_ hs)
   ·exact QX.seq (F:=F) ⟨fun F T H n=>(XT P X.n m Dr b).run ⟨F.f,F.e,noY⟩ T H n⟩ (fun T H n ρ L' As h1 h2=>Q2 (m:=m) (hF0 r0) hD hP b k T H n ρ L' As h1 h2) hA
   ·intro D ρ1 h1 h2;exact QX.seq (F:=F) (X:={ X with df:=[D] }) ⟨fun F T H n=>(XT P X.n m Dr b).run ⟨F.f,F.e,noY⟩ T H n⟩ (fun T H n ρ L' As h1 h2=>Q2 (m:=m) (X:={ X with df:=[D] }) (hF0 ρ1) hD hP b k T H n ρ L' As h1 h2) (hB D ρ1 h1 h2)
  | false=>
   cases hb : Qg8 b with
   | false=>
    simp only [ZY,ha,hb] at hA
    grind [Q2]
   | true=>
    simp only [ZY,ha,hb] at hA hB;refine QkG (Q2 (m:=m) hF hD hP a (.c b :: k) T H n ρ L' As ?_ hs);cases hr : (XT P X.n m Dr a).run F T H n with
    | bad=>rw [hr] at hA;exact hA.elim
    | nm T2 H2 n2=>
     rw [hr] at hA hB;exact fun ρ2 L2 As2 hle hs2=>Qas hF hD hP hrd hdf b k T2 H2 n2 ρ2 L2 As2 (QX.mono hle hA) (RB.mono hB hle) hs2
    | ex i T2 H2 n2=>
     rw [hr] at hA;exact fun ρ2 L2 As2 hle hs2=>QdI (hA ρ2 L2 As2 hle hs2)
    | rt T2 H2 n2=>
     rw [hr] at hA;exact fun ρ2 L2 As2 hle hs2=>QaV (hA ρ2 L2 As2 hle hs2)
 | .cond x a b,k,T,H,n,ρ,L',As,hA,hB,hs=>by
  simp only [ZY,QS] at hA hB;split at hA
  ·rename_i t hx;rw [hx] at hB;have hx':=Qi hs.sr hx rfl;cases t with
   | true=>exact Qe4 hx' (fun _=>Qas hF hD hP hrd hdf a k T H n ρ L' As hA hB hs) (fun h=>by cases h)
   | false=>exact Qe4 hx' (fun h=>by cases h) (fun _=>Qas hF hD hP hrd hdf b k T H n ρ L' As hA hB hs)
  ·exact hA.elim
 | .block id b,k,T,H,n,ρ,L',As,hA,hB,hs=>QhN (Qas hF hD hP hrd hdf b _ T H n ρ L' As (QX.blk hA) (fun D ρ1 h1 h2=>QX.blk (hB D ρ1 h1 h2)) hs)
 | .rangeFunc g ⟨ps⟩ assign body,k,T,H,n,ρ,L',As,hA,hB,hs=>QmM hF hD hP hrd hdf hB (fun e=>by
   have hA' : QX r0 w0 ρ X k ((Qfd P g (XT P X.n m Dr assign).run (XT P X.n m Dr body).run X.n ps).run F T H n):=hA;rw [e] at hA';exact hA'.elim) hs
 | .skip,k,T,H,n,ρ,L',As,hA,hB,hs=>Q2 hF hD hP _ k T H n ρ L' As hA hs
 | .label _,k,T,H,n,ρ,L',As,hA,hB,hs=>Q2 hF hD hP _ k T H n ρ L' As hA hs
 | .region _ _ _,k,T,H,n,ρ,L',As,hA,hB,hs=>Q2 hF hD hP _ k T H n ρ L' As hA hs
 | .loop _,k,T,H,n,ρ,L',As,hA,hB,hs=>Q2 hF hD hP _ k T H n ρ L' As hA hs
 | .exit _,k,T,H,n,ρ,L',As,hA,hB,hs=>Q2 hF hD hP _ k T H n ρ L' As hA hs
 | .ret,k,T,H,n,ρ,L',As,hA,hB,hs=>Q2 hF hD hP _ k T H n ρ L' As hA hs
 | .scope _,k,T,H,n,ρ,L',As,hA,hB,hs=>Q2 hF hD hP _ k T H n ρ L' As hA hs
 | .goto _,k,T,H,n,ρ,L',As,hA,hB,hs=>Q2 hF hD hP _ k T H n ρ L' As hA hs
 | .refuse _,k,T,H,n,ρ,L',As,hA,hB,hs=>Q2 hF hD hP _ k T H n ρ L' As hA hs
end
noncomputable def Ql8 (P : Program) : List ResultVar → Clo (Tr Value → Hp → Option (List Value))
 | []=>⟨fun _ _=>some []⟩
 | .tmp t :: rs=>⟨fun T H=>match Yx (pth t) t T with
  | some v=>(match (Ql8 P rs).run T H with
   | some vs=>bif Zw v then some (v :: vs) else none
   | none=>none)
  | none=>none⟩
 | .cell at' t :: rs=>⟨fun T H=>match Qfm P (en T) H t at' with
  | some v=>(match (Ql8 P rs).run T H with
   | some vs=>some (v :: vs)
   | none=>none)
  | none=>none⟩
section
variable {P : Program} {ρ : Rho} {L' : Qb} {T : Tr Value} {H : Hp} {As : List HA}
theorem Qne {v u : Value} (h : Zw v = true) (e : den ρ v = some u) : Xq ρ v = some u:=by
 cases v <;> first | exact e | (simp [Zw] at h)
theorem QgT (hs : SR ρ (en T) L') (hH : HM ρ H As) : ∀ {rs : List ResultVar} {vs : List Value},(Ql8 P rs).run T H = some vs → ∃ us,RV P L' As rs us ∧ Qt (Xq ρ) vs = some us
 | [],vs,h=>by cases h;exact ⟨[],RV.nil,rfl⟩
 | .tmp t :: rs,vs,h=>by
  simp only [Ql8] at h;split at h
  ·rename_i v h1;split at h
   ·rename_i vs' h2;obtain ⟨hc,rfl⟩:=Qq h;obtain ⟨u,e1,e2⟩:=hs.get (show en T t = _ from h1);obtain ⟨us,e3,e4⟩:=QgT hs hH h2
    grind [RV.tmp,Qt,Qne]
   ·cases h
  ·cases h
 | .cell at' t :: rs,vs,h=>by
  simp only [Ql8] at h;split at h
  ·rename_i v h1;split at h
   ·rename_i vs' h2;injection h with h
    subst h;obtain ⟨us,e3,e4⟩:=QgT hs hH h2;unfold Qfm at h1;split at h1
    ·rename_i m i hx;split at h1
     ·rename_i r sz ag hg hz;obtain ⟨b,d,cu,Rs,g1,g2,g3,g4,_,_⟩:=XY hH hg;obtain ⟨p,e1,e2⟩:=hs.get hx;simp only [den,Xq,QP,XJ,g1,Option.some.injEq] at e2;subst e2;cases ag with
      | true=>
       simp only [if_true] at h1;obtain ⟨hb,rfl⟩:=Qq h1;exact ⟨_,RV.cell e1 hz g4 (by rw [Q6 g2];exact hb) e3,by simp only [Qt,Xq,List.toList_toArray,cut,XG sz (Ys i g2),e4]⟩
      | false=>
       have h1' : (bif Nat.beq sz 1 then r.cs[i]? else none) = some v:=by simpa using h1
       obtain ⟨hb,h1'⟩:=Qab h1';have hk:=Nat.eq_of_beq_eq_true hb;subst hk;obtain ⟨u,f1,f2⟩:=Qar g2 h1'
       grind [RV.cell1,Qt,QaC]
     ·cases h1
    ·cases h1
   ·cases h
  ·cases h
theorem Qqi : ∀ {vs us : List Value},Qt (Xq ρ) vs = some us → den ρ (Xd vs) = some (Xd us)
 | [],us,h=>by cases h;rfl
 | [v],us,h=>by
  simp only [Qt] at h;split at h
  ·rename_i b m h1 h2;injection h2 with h2
   injection h with h
   subst h h2;exact Qb0 h1
  ·cases h
 | v :: v' :: vs,us,h=>by
  have hl:=Q6 h;obtain ⟨u,u',us',rfl⟩ : ∃ u u' us',us = u :: u' :: us':=by rcases us with _ | ⟨u,_ | ⟨u',us'⟩⟩ <;> grind
  show den ρ (.tuple (v :: v' :: vs).toArray) = some (.tuple (u :: u' :: us').toArray)
  grind [den]
end
noncomputable def QpP (i : Nat) (vs : List Value) : Tr Value:=List.rec (fun _=>.lf) (fun v _ ih i=>Yc (pth i) i v (ih (Nat.succ i))) vs i
theorem QpM {ρ : Rho} : ∀ {vs us : List Value} (i : Nat),Qt (den ρ) vs = some us → SR ρ (en (QpP i vs)) (Qcy i us)
 | [],us,i,h=>fun t v hv=>by
  have h' : Yx (pth t) t (.lf : Tr Value) = some v:=hv;rw [YI] at h';cases h'
 | v :: vs,us,i,h=>by
  simp only [Qt] at h;split at h
  ·rename_i u m h1 h2;injection h with h
   subst h;exact (QpM (i + 1) h2).set h1
  ·cases h
theorem QqG {X : Ctx} {L : Qb} {w0 : World} {As : List HA} {rs : List ResultVar} {vs : List Value} (hr : X.fn.results = rs.toArray) (hv : RV X.P L As rs vs) (h : ∀ w,HS w0 [] As w → X.R (.returned (Xd vs)) w) (hrd : X.rd = none) (hdf : X.df = []) : SE X .ret [] L (HS w0 [] As):=by
 intro a w ha hw;refine QfC hrd (ha.none hdf) (v:=Xd vs) ?_ (h w hw);have hm:=hv.run ha hw;rw [Qcz hr,Array.mapM_eq_mapM_toList];simp only [Sem.run_bind,Sem.run_map,hm,Result.andThen_ok,Sem.run_pure]
 match vs with
 | []=>rfl
 | [v]=>rfl
 | u :: v :: vs=>simp [Xd]
theorem Qqz {X : Ctx} {L : Qb} {w0 : World} {M : List Nat} {As As' : List HA} {D : Nat} {rs : List ResultVar} {vs : List Value} (hr : X.fn.results = rs.toArray) (hp : QD As (.obj D (.deferred (some []))) As') (hv : RV X.P L As' rs vs) (h : ∀ w,HS w0 M As' w → X.R (.returned (Xd vs)) w) (hrd : X.rd = none) (hdf : X.df = [D]) : SE X .ret [] L (HS w0 M As):=by
 intro a w ha hw;show (match X.rd with | none=>bodyPostM X.F 0 X.P X.fn X.R .ret a w | some l=>roundPost X.P l X.R .ret a w);rw [hrd];show LeavesInM X.F 0 X.P X.fn a.tmps X.R a.defers .returning w;rw [ha.defers,hdf];have h1:=(hw.putObj hp (.deferred none)).tail;refine ⟨by simp,.inl ⟨D,_,rfl,run_takeDeferred (hw.obj_get hp),Xd vs,?_,h _ h1⟩⟩;have hm:=hv.run ha h1;rw [Qcz hr,Array.mapM_eq_mapM_toList];simp only [Sem.run_bind,Sem.run_map,hm,Result.andThen_ok,Sem.run_pure]
 match vs with
 | []=>rfl
 | [v]=>rfl
 | u :: v :: vs=>simp [Xd]
noncomputable def Qhu (P : Program) (m : Nat) (Dr : Nat → Array Oper → CS) (g : FuncId) : Clo (CallF → List Value → Hp → Nat → Option (Value × Hp × Nat)):=match P.funcs[g]? with
 | some fn=>match fn.body with
  | some b=>⟨fun F vs H n=>bif Nat.ble vs.length fn.ntmps then (match (ZY P fn.ntmps m Dr b).run F (QpP 0 vs) H n with
   | .rt T H n=>(match (Ql8 P fn.results.toList).run T H with
    | some rs=>some (Xd rs,H,n)
    | none=>none)
   | .nm T H n=>(match fn.results.toList with
    | []=>some (.tuple #[],H,n)
    | _=>none)
   | _=>none) else none⟩
  | none=>⟨fun _ _ _ _=>none⟩
 | none=>⟨fun _ _ _ _=>none⟩
theorem QmF {P : Program} {r0 : Rho} {m : Nat} {Dr : Nat → Array Oper → CS} {F : CallF} (hF : CallOk P r0 F) (hD : QjR P Dr) : QiO P r0 (fun g=>(Qhu P m Dr g).run F):=by
 intro f vs H n v H' n' h w0 ρ us As hle0 hus hH hf w hw;simp only [Qhu] at h;split at h
 ·rename_i fn h1;split at h
  ·rename_i b h2;obtain ⟨hc,h⟩:=Qab h;have hle : Nat.ble us.length fn.ntmps = true:=by rw [Q6 hus];exact hc
   refine enter (args:=us) (C:=HS w0 [] As) h1 rfl h2 hle hw ?_;refine Qas (m:=m) hF hD rfl rfl rfl b [] (QpP 0 vs) H n ρ _ As ?_ ?_ ⟨hle0,QpM 0 hus,hH,hf⟩
   ·show QX r0 w0 ρ _ [] ((ZY P fn.ntmps m Dr b).run F (QpP 0 vs) H n);split at h
    ·rename_i T2 H2 n2 hr;rw [hr];intro ρ2 L2 As2 hle2 hs2;split at h
     ·rename_i rs hrs;injection h with h
      injection h with e1 e2
      injection e2 with e2 e3
      subst e1 e2 e3;obtain ⟨us2,g1,g2⟩:=QgT hs2.sr hs2.hp hrs;exact QqG (rs:=fn.results.toList) (by simp) g1 (fun w' hw'=>⟨ρ2,As2,Xd us2,hle2,hs2.fr,Qqi g2,hs2.hp,rfl,hw'⟩) rfl rfl
     ·cases h
    ·rename_i T2 H2 n2 hr;rw [hr];intro ρ2 L2 As2 hle2 hs2;split at h
     ·rename_i hres;injection h with h
      injection h with e1 e2
      injection e2 with e2 e3
      subst e1 e2 e3;have hres' : fn.results = #[]:=by rw [← Array.toArray_toList (xs:=fn.results),hres]
      exact YY hres' (fun w' hw'=>⟨ρ2,As2,.tuple #[],hle2,hs2.fr,rfl,hs2.hp,rfl,hw'⟩) rfl rfl
     ·cases h
    ·cases h
   ·intro D ρ1 h1' h2';show QX ρ1 w0 ρ1 _ [] ((ZY P fn.ntmps m Dr b).run F (QpP 0 vs) H n);split at h
    ·rename_i T2 H2 n2 hr;rw [hr];intro ρ2 L2 As2 hle2 hs2;split at h
     ·rename_i rs hrs;injection h with h
      injection h with e1 e2
      injection e2 with e2 e3
      subst e1 e2 e3;obtain ⟨Bs,k1,k2⟩:=hs2.hp.split;have hex : ρ2.ex = .obj D (.deferred (some [])) :: ρ.ex:=hle2.2.trans h2';have hpm : As2.Perm (.obj D (.deferred (some [])) :: (Bs ++ ρ.ex)):=by simp_all
      have hsr : SR (ρ2.wx ρ.ex) (en T2) L2:=hs2.sr;obtain ⟨us2,g1,g2⟩:=QgT hsr (k2 ρ.ex) hrs;exact Qqz (rs:=fn.results.toList) (by simp) hpm g1 (fun w' hw'=>⟨ρ2.wx ρ.ex,Bs ++ ρ.ex,Xd us2,⟨fun n x hx=>hle2.1 n x (h1' n x hx),rfl⟩,hs2.fr,Qqi g2,k2 _,rfl,hw'⟩) rfl rfl
     ·cases h
    ·rename_i T2 H2 n2 hr;rw [hr];intro ρ2 L2 As2 hle2 hs2;split at h
     ·rename_i hres;injection h with h
      injection h with e1 e2
      injection e2 with e2 e3
      subst e1 e2 e3;obtain ⟨Bs,k1,k2⟩:=hs2.hp.split;have hex : ρ2.ex = .obj D (.deferred (some [])) :: ρ.ex:=hle2.2.trans h2';have hpm : As2.Perm (.obj D (.deferred (some [])) :: (Bs ++ ρ.ex)):=by simp_all
      have hres' : fn.results = #[]:=by rw [← Array.toArray_toList (xs:=fn.results),hres]
      exact QtR (As':=Bs ++ ρ.ex) (D:=D) hres' hpm (fun w' hw'=>⟨ρ2.wx ρ.ex,Bs ++ ρ.ex,.tuple #[],⟨fun n x hx=>hle2.1 n x (h1' n x hx),rfl⟩,hs2.fr,rfl,k2 _,rfl,hw'⟩) rfl rfl
     ·cases h
    ·cases h
  ·cases h
 ·cases h
noncomputable def bare (v : Value) : Bool:=(den ⟨fun _=>none,[]⟩ v).isSome
noncomputable def QlF (F : Qjo) (g : FuncId) (vs : List Value) : Option Value:=match F g vs .lf 0 with
 | some r=>bif Xe vs && bare r.1 then some r.1 else none
 | none=>none
theorem QoJ {P : Program} {F : Qjo} (hF : QiO P ⟨fun _=>none,[]⟩ F) : QiQ P fun g vs=>bif QM P g then QlF F g vs else none:=by
 intro f vs v h w0 ρ us As hvs o L' args ts ho hev;obtain ⟨hfn,h⟩:=Qab h;unfold QlF at h;split at h
 ·rename_i r hr;obtain ⟨hc,rfl⟩:=Qq h;obtain ⟨v,H',n'⟩:=r;simp only [Bool.and_eq_true] at hc
  have hus : us = vs:=by
   have h2:=Xi (fun a b e=>Qb0 (QaC e)) (XO (ρ:=ρ) hc.1)
   grind
  subst hus;obtain ⟨u,hu⟩:=Option.isSome_iff_exists.1 hc.2
  have hmono : ∀ {ρ' : Rho} {x y : Value},den ⟨fun _=>none,[]⟩ x = some y → den ρ' x = some y:=fun {ρ'} {x} {y} e=>by
   have:=Qft (ρ:=⟨fun _=>none,ρ'.ex⟩) (ρ':=ρ') ⟨fun n x h=>(by cases h),rfl⟩ x y e;exact this
  refine ⟨u,hmono hu,?_⟩;intro a w hρ hw
  have hcall:=hF f us .lf 0 v H' n' hr w ⟨fun _=>none,[]⟩ us [] (Rho.le_refl _) (Xi (fun a b e=>Qb0 (QaC e)) (XO hc.1)) ⟨[],[],(fun m r hm=>by
   have h' : Yx (pth m) m (.lf : Hp) = some r:=hm;rw [YI] at h';cases h'),rfl,rfl⟩ (fun _ _=>rfl) w (HS.refl w [])
  rw [Qan ho hρ (show ev L' (.func f) = some (.func (.func f) #[] #[]) from rfl) hfn hev];simp only [Array.empty_append,Array.append_empty];refine Calls.mono hcall fun e w' ⟨ρ',As',u',h1,h2,h3,h4,h5,h6⟩=>?_;rw [hmono hu] at h3;injection h3 with h3
  subst h3;exact ⟨_,h5,rfl,h6.nil.below⟩
 ·cases h
structure KnOk (P : Program) (K : CallF) : Prop where
 f : ∀ r1 Y,QiO P r1 (K.f Y)
 e : QiQ P K.e
noncomputable def evF (P : Program) (K : CallF) (Z : FuncId → Bool) (m : Nat) (Dr : Nat → Array Oper → CS) (f : Nat) : CallF:=
 Nat.rec ⟨fun _ _ _ _ _=>none,K.e,noY⟩ (fun _ ih=>⟨fun Y g vs H n=>match K.f Y g vs H n with
  | some r=>some r
  | none=>(Qhu P m Dr g).run ⟨ih.f,ih.e,Y⟩ vs H n,fun g vs=>match K.e g vs with
  | some v=>some v
  | none=>Bool.rec none (bif QM P g then QlF (ih.f noY) g vs else none) (Z g),noY⟩) f
theorem QpX {P : Program} {K : CallF} {Z : FuncId → Bool} {m : Nat} {Dr : Nat → Array Oper → CS} (hK : KnOk P K) (hD : QjR P Dr) : ∀ f r0,CallOk P r0 (evF P K Z m Dr f)
 | 0,r0=>⟨(fun _ _ _ _ _ _ _ _ _ _ h=>by cases h),hK.e,Qcs⟩
 | f + 1,r0=>by
  have ih:=QpX (Z:=Z) (m:=m) hK hD f;refine ⟨?_,?_,Qcs⟩
  ·intro r1 Y hY g vs H n v H' n' h
   have h' : (match K.f Y g vs H n with
    | some r=>some r
    | none=>(Qhu P m Dr g).run ⟨(evF P K Z m Dr f).f,(evF P K Z m Dr f).e,Y⟩ vs H n) = some (v,H',n'):=h
   split at h'
   ·rename_i r hr;injection h' with h'
    subst h';exact hK.f r1 Y g vs H n v H' n' hr
   ·exact QmF (r0:=r1) (⟨(ih r1).f,(ih r1).e,hY⟩ : CallOk P r1 ⟨(evF P K Z m Dr f).f,(evF P K Z m Dr f).e,Y⟩) hD g vs H n v H' n' h'
  ·intro g vs v h
   have h' : (match K.e g vs with
    | some v=>some v
    | none=>Bool.rec none (bif QM P g then QlF ((evF P K Z m Dr f).f noY) g vs else none) (Z g)) = some v:=h
   split at h'
   ·rename_i v' hr;injection h' with h'
    subst h';exact hK.e g vs v' hr
   ·cases hz : Z g with
    | false=>rw [hz] at h';cases h'
    | true=>
     rw [hz] at h';exact QoJ ((ih ⟨fun _=>none,[]⟩).f _ _ Qcs) g vs v h'
end Ev
namespace Ev
open Go Go.RowKit
structure Stp where
 i : Nat
 okP : Bool
 okQ : Bool
 okH : Bool
 turn : Option (List Nat)
def onF (F : List Nat) (i : Nat) : Bool:=F.all fun f=>!Nat.beq f i
def Qiq (n : Nat) : List (List Nat):=[] :: (List.range n).map fun j=>[j]
def QvM (ops : Array Oper) : List (List Nat) → List Nat → Array Bool → List Nat → List Stp
 | _,_,_,[]=>[]
 | Fs,F,listed,i :: r=>
  ⟨i,QJ ops listed i && onF F i,QJ ops listed i && (XH ops F i (Qiq ops.size) && Zo F listed),Region.ready .any ops listed == [i],(if F.contains i then some (Fs.headD []) else none)⟩ ::
   QvM ops (if F.contains i then Fs.tail else Fs) (if F.contains i then Fs.headD [] else F) (listed.setIfInBounds i true) r
def QsW (ops : Array Oper) : Array Bool → List Nat → Bool
 | listed,[]=>Region.ready .any ops listed == []
 | listed,i :: r=>QsW ops (listed.setIfInBounds i true) r
noncomputable def QqN : Option Addr → Option Addr → Bool
 | none,none=>true
 | some ⟨a,b,none⟩,some ⟨c,d,none⟩=>Nat.beq a c && Nat.beq b d
 | some ⟨a,b,some e⟩,some ⟨c,d,some f⟩=>Nat.beq a c && (Nat.beq b d && Nat.beq e f)
 | _,_=>false
theorem QkO {a b : Option Addr} (h : QqN a b = true) : a = b:=by
 unfold QqN at h;split at h <;> simp_all
noncomputable def eqA : Value → Value → Bool
 | .int k (.ofNat a),.int k' (.ofNat b)=>kEq k k' && Nat.beq a b
 | .bool a,.bool b=>a == b
 | .string ⟨⟨a⟩⟩,.string ⟨⟨b⟩⟩=>QpI a b
 | .pointer a,.pointer b=>QqN a b
 | .slice a l c,.slice b l' c'=>QqN a b && (Nat.beq l l' && Nat.beq c c')
 | .map (some a),.map (some b)=>Nat.beq a b
 | .map none,.map none=>true
 | .nilFunc,.nilFunc=>true
 | _,_=>false
theorem Qkl {a b : Value} (h : eqA a b = true) : a = b:=by
 unfold eqA at h;split at h
 ·simp only [Bool.and_eq_true] at h;rw [Qbs h.1,Nat.eq_of_beq_eq_true h.2]
 ·grind
 ·grind [Qeq]
 ·rw [QkO h]
 ·simp only [Bool.and_eq_true] at h;rw [QkO h.1,Nat.eq_of_beq_eq_true h.2.1,Nat.eq_of_beq_eq_true h.2.2]
 ·simp_all
 ·rfl
 ·rfl
 ·cases h
def eqL (f : Value → Value → Bool) : List Value → List Value → Bool
 | [],[]=>true
 | a :: l,b :: m=>f a b && eqL f l m
 | _,_=>false
theorem Qhr {f : Value → Value → Bool} (hf : ∀ a b,f a b = true → a = b) : ∀ {l m : List Value},eqL f l m = true → l = m
 | [],[],_=>rfl
 | a :: l,b :: m,h=>by
  simp only [eqL,Bool.and_eq_true] at h;rw [hf a b h.1,Qhr hf h.2]
 | [],_ :: _,h=>by cases h
 | _ :: _,[],h=>by cases h
noncomputable def eqF : Value → Value → Bool
 | .func (.func f) ⟨a⟩ ⟨b⟩,.func (.func g) ⟨c⟩ ⟨d⟩=>Nat.beq f g && (eqL eqA a c && eqL eqA b d)
 | a,b=>eqA a b
theorem Qur {a b : Value} (h : eqF a b = true) : a = b:=by
 unfold eqF at h;split at h
 ·simp only [Bool.and_eq_true] at h;rw [Nat.eq_of_beq_eq_true h.1,Qhr (fun _ _=>Qkl) h.2.1,Qhr (fun _ _=>Qkl) h.2.2]
 ·exact Qkl h
noncomputable def Qty (x y : HB) : Bool:=Nat.beq x.ty y.ty && (Nat.beq x.sz y.sz && eqL eqF x.cs y.cs)
theorem QqW {x y : HB} (h : Qty x y = true) : x = y:=by
 simp only [Qty,Bool.and_eq_true] at h;obtain ⟨a,b,c⟩:=x;obtain ⟨d,e,f⟩:=y;simp only at h;rw [Nat.eq_of_beq_eq_true h.1,Nat.eq_of_beq_eq_true h.2.1,Qhr (fun _ _=>Qur) h.2.2]
def Qr1 : List Int → List Int → Bool
 | [],[]=>true
 | a :: l,b :: m=>decide (a = b) && Qr1 l m
 | _,_=>false
theorem QlO : ∀ {l m : List Int},Qr1 l m = true → l = m
 | [],[],_=>rfl
 | a :: l,b :: m,h=>by
  simp only [Qr1,Bool.and_eq_true,decide_eq_true_eq] at h;rw [h.1,QlO h.2]
 | [],_ :: _,h=>by cases h
 | _ :: _,[],h=>by cases h
noncomputable def QoQ : HX → HX → Bool
 | .row x,.row y=>Qty x y
 | .mp x,.mp y=>Qr1 x y
 | _,_=>false
theorem QrN {x y : HX} (h : QoQ x y = true) : x = y:=by
 unfold QoQ at h
 grind [QqW,QlO]
noncomputable def Qih (H H' : Hp) (R : List Nat) : Bool:=List.rec true (fun m _ ih=>match Yd H m with
 | some r=>(match Yd H' m with
  | some r'=>Bool.rec false ih (QoQ r r')
  | none=>false)
 | none=>false) R
theorem QcQ {H H' : Hp} : ∀ {R : List Nat},Qih H H' R = true → ∀ m ∈ R,Yd H' m = Yd H m
 | [],_,m,hm=>by cases hm
 | a :: R,h,m,hm=>by
  have h' : (match Yd H a with
   | some r=>(match Yd H' a with
    | some r'=>Bool.rec false (Qih H H' R) (QoQ r r')
    | none=>false)
   | none=>false) = true:=h
  split at h'
  ·rename_i r h1;split at h'
   ·rename_i r' h2;cases he : QoQ r r' with
    | false=>rw [he] at h';cases h'
    | true=>
     rw [he] at h';rcases List.mem_cons.1 hm with rfl | hm
     ·rw [h1,h2,QrN he]
     ·exact QcQ h' m hm
   ·cases h'
  ·cases h'
abbrev DF:=CallF → Tr Value → Hp → Nat → List Nat → Rs
abbrev DS:=Clo DF
noncomputable def noD : DS:=⟨fun _ _ _ _ _=>.bad⟩
noncomputable def memN (m : Nat) (R : List Nat) : Bool:=List.rec false (fun a _ ih=>Bool.rec ih true (Nat.beq a m)) R
noncomputable def Qmd (m : Option Nat) (R : List Nat) : List Nat:=Option.rec R (fun k=>Bool.rec (k :: R) R (memN k R)) m
noncomputable def yes (b : Bool) (r : Rs) : Rs:=Bool.rec .bad r b
noncomputable def isNilN (R : List Nat) : Bool:=List.rec true (fun _ _ _=>false) R
noncomputable def dOn (P : Program) (nt : Nat) (s : Stp) (o : Oper) (rest : DS) : DS:=match o.dst with
 | some d=>bif Nat.blt d nt then ⟨fun F T H n R=>match (Zs P o.op).run F T H n with
  | .no=>.bad
  | .p v=>yes s.okP (rest.run F (Yc (pth d) d v T) H n R)
  | .q m v=>(match s.okH,s.turn with
   | true,none=>rest.run F (Yc (pth d) d v T) H n R
   | _,_=>yes s.okQ (rest.run F (Yc (pth d) d v T) H n (Qmd m R)))
  | .new v x=>yes s.okH (match s.turn with
   | some _=>rest.run F (Yc (pth d) d v T) (Yy H n x) (Nat.succ n) []
   | none=>rest.run F (Yc (pth d) d v T) (Yy H n x) (Nat.succ n) R)
  | .h v H' n'=>yes s.okH (match s.turn with
   | some _=>rest.run F (Yc (pth d) d v T) H' n' []
   | none=>yes (Qih H H' R) (rest.run F (Yc (pth d) d v T) H' n' R))⟩ else noD
 | none=>bif o.guard.isNone then ⟨fun F T H n R=>match (Zs P o.op).run F T H n with
  | .new v x=>yes s.okH (match s.turn with
   | some _=>rest.run F T (Yy H n x) (Nat.succ n) []
   | none=>rest.run F T (Yy H n x) (Nat.succ n) R)
  | .h v H' n'=>yes s.okH (match s.turn with
   | some _=>rest.run F T H' n' []
   | none=>yes (Qih H H' R) (rest.run F T H' n' R))
  | _=>.bad⟩ else noD
noncomputable def QqP (nt : Nat) (s : Stp) (dst : Option Nat) (rest : DS) : DS:=match dst with
 | some d=>bif Nat.blt d nt then (match s.okP with
  | true=>⟨fun F T H n R=>rest.run F (Yc (pth d) d undef T) H n R⟩
  | false=>match s.okH,s.turn with
   | true,some _=>⟨fun F T H n R=>rest.run F (Yc (pth d) d undef T) H n []⟩
   | _,_=>noD) else noD
 | none=>noD
def XM (H : Hp) : List Nat → List (Nat × HX) → Prop
 | [],[]=>True
 | m :: R,(k,r) :: B=>k = m ∧ Yd H m = some r ∧ m ∉ R ∧ XM H R B
 | _,_=>False
theorem XM.stay {H H' : Hp} : ∀ {R : List Nat} {B : List (Nat × HX)},XM H R B → (∀ m ∈ R,Yd H' m = Yd H m) → XM H' R B
 | [],[],_,_=>trivial
 | m :: R,(k,r) :: B,h,hs=>⟨h.1,by rw [hs m (List.mem_cons_self ..)];exact h.2.1,h.2.2.1,XM.stay h.2.2.2 fun p hp=>hs p (List.mem_cons_of_mem _ hp)⟩
 | [],_ :: _,h,_=>h.elim
 | _ :: _,[],h,_=>h.elim
theorem XM.has {H : Hp} : ∀ {R : List Nat} {B : List (Nat × HX)},XM H R B → ∀ m ∈ R,∃ r,Yd H m = some r
 | m :: R,(k,r) :: B,h,p,hp=>by
  rcases List.mem_cons.1 hp with rfl | hp
  ·exact ⟨r,h.2.1⟩
  ·exact h.2.2.2.has p hp
 | [],_,_,p,hp=>by cases hp
 | _ :: _,[],h,_,_=>h.elim
theorem Qgi {ρ : Rho} : ∀ {R : List Nat} {B : List (Nat × HX)} {H : Hp} {G : List (Nat × HX)} {As : List HA},(∀ m r,Yd H m = some r → QbY G m = some r) → Qt (ha ρ) G = some As → XM H R B → ∃ Bs Rs,Qt (ha ρ) B = some Bs ∧ As.Perm (Bs ++ Rs)
 | [],[],H,G,As,_,_,_=>⟨[],As,rfl,.refl _⟩
 | m :: R,(k,r) :: B,H,G,As,hG,hA,h=>by
  obtain ⟨rfl,h1,h2,h3⟩:=h;obtain ⟨A,Rs,g1,g4,_,As3,g6,g7,g8⟩:=Qhg hA (hG _ _ h1)
  obtain ⟨Bs,Rs2,h4,h5⟩:=Qgi (H:=QgU H k) (R:=R) (B:=B) (G:=Qhb G k) (fun p r' hp=>by
   obtain ⟨e1,e2⟩:=Qi7 hp;rw [g8 p e1]
   exact hG _ _ e2) g6 (h3.stay fun p hp=>by
    have hne : p ≠ k:=fun e=>by subst e;exact h2 hp
    exact Qbk hne)
  exact ⟨A :: Bs,Rs2,by simp only [Qt,g1,h4],g4.perm.trans ((g7.trans h5).cons _)⟩
 | [],_ :: _,_,_,_,_,_,h=>h.elim
 | _ :: _,[],_,_,_,_,_,h=>h.elim
theorem Qja {ρ : Rho} {R : List Nat} {B : List (Nat × HX)} {H : Hp} {As : List HA} (hH : HM ρ H As) (hB : XM H R B) : ∃ Bs Rs,Qt (ha ρ) B = some Bs ∧ As.Perm (Bs ++ ρ.ex ++ Rs):=by
 obtain ⟨G,Bs0,h1,h2,rfl⟩:=hH;obtain ⟨Bs,Rs,h3,h4⟩:=Qgi h1 h2 hB;refine ⟨Bs,Rs,h3,(h4.append_right _).trans ?_⟩;simp [List.append_assoc,List.perm_append_comm.append_left]
noncomputable def QdJ : List (Nat × HX) → Hp
 | []=>.lf
 | (m,r) :: B=>Yy (QdJ B) m r
theorem QfN : ∀ {B : List (Nat × HX)} {m : Nat} {r : HX},Yd (QdJ B) m = some r → QbY B m = some r
 | [],m,r,h=>by
  have h' : Yx (pth m) m (.lf : Hp) = some r:=h;rw [YI] at h';cases h'
 | (k,x) :: B,m,r,h=>by
  simp only [QbY];rcases QfJ h with ⟨rfl,rfl⟩ | ⟨h1,h2⟩
  ·simp [Nat.beq_refl]
  ·have hq : Nat.beq k m = false:=by cases hz : Nat.beq k m <;> simp_all
   rw [hq];exact QfN h2
theorem Ql6 {ρ : Rho} {B : List (Nat × HX)} {Bs : List HA} (h : Qt (ha ρ) B = some Bs) : HM ρ (QdJ B) (Bs ++ ρ.ex):=⟨B,Bs,fun _ _=>QfN,h,rfl⟩
theorem Qgn {H : Hp} : ∀ {R : List Nat} {B : List (Nat × HX)},XM H R B → ∀ m ∈ R,Yd (QdJ B) m = Yd H m
 | m :: R,(k,r) :: B,h,p,hp=>by
  obtain ⟨rfl,h1,h2,h3⟩:=h;show Yd (Yy (QdJ B) k r) p = Yd H p
  by_cases hpk : p = k
  ·subst hpk;rw [h1];exact Y2 _ _ _ _
  ·rcases List.mem_cons.1 hp with e | hp
   ·grind
   ·rw [QdT hpk];exact Qgn h3 p hp
 | [],_,_,p,hp=>by cases hp
 | _ :: _,[],h,_,_=>h.elim
section
variable {X : Ctx} {ops : Array Oper} {k : List KI} {L : Qb} {C B B' : World → Prop} {F F' : List Nat} {fuel : Nat} {listed : Array Bool} {P : Program} {w0 : World} {CF : CallF}
theorem QqU (hB : ∀ w,B' w → B w) (h : D X ops F B' fuel listed k L C) : D X ops F B fuel listed k L C:=fun hcl a ha=>Qhc hB (h hcl a ha)
theorem QkK (hf : ∃ f ∈ F,listed.getD f false = true) (h : D X ops F' B' fuel listed k L C) : D X ops F B fuel listed k L C:=fun hcl a ha=>Qhf hf (h hcl a ha)
theorem QtH {As : List HA} {B : World → Prop} {d i ty j : Nat} {op : Op} {pos : String} {aft : Array Edge} {want : Bool} {u : Value} (dj : Nat) (hi : ops[i]? = some ⟨some d,op,ty,pos,aft,some (j,want)⟩) (hj : (ops[j]?).bind (·.dst) = some dj) (hb : Qb.get L dj = some u) (hw : u = .bool (!want) ∨ u = undef) (hr : (Region.ready .any ops listed == [i]) = true) (hB : ∀ w,HS w0 [] As w → B w) (hd : Nat.blt d X.n = true)
  (next : D X ops F B fuel (listed.setIfInBounds i true) k ((d,undef) :: L) (HS w0 [] As)) : D X ops F B (fuel + 1) listed k L (HS w0 [] As):=by
 intro hcl a ha;have hr' : Region.ready .any ops listed = [i]:=by simpa using hr
 refine QeA hr' (fun _=>⟨hB,HS.stab _ _ _⟩) ?_
 have hy : yielded ops a.tmps j = (match u with | .bool b=>some b | _=>none):=by
  rcases hw with rfl | rfl <;> simp [yielded,hj,ha.slot _ _ hb,undef]
 unfold X3;simp only [hi];rw [if_neg (by rcases hw with rfl | rfl <;> simp [Region.wanted,hy,undef])];exact next (hcl.set (by rw [hr'];exact List.mem_singleton.2 rfl)) _ (ha.put d _ hd)
end
section
variable {P : Program} {r0 : Rho} {w0 : World} {CF : CallF} {X : Ctx} {k : List KI} {ops : Array Oper}
abbrev Got (ρ : Rho) (v : Value) (H' : Hp) (n' : Nat) : Type:={ x : Rho × List HA × Value // ρ.le x.1 ∧ QN x.1 n' ∧ den x.1 v = some x.2.2 ∧ HM x.1 H' x.2.1 }
theorem OpT.got {o : Oper} {L' : Qb} {C : World → Prop} {ρ : Rho} {v : Value} {H' : Hp} {n' : Nat} (h : OpT P o L' C (Out w0 ρ v H' n')) : OpH P o L' C (G:=Got ρ v H' n') (fun x=>x.1.2.2) (fun _=>True) (fun x=>HS w0 [] x.1.2.1):=by
 obtain ⟨G,V,Fg,C',h1,h2⟩:=h;intro ag w hag hw;refine (h1 ag w hag hw).mono fun u w' ⟨g,e1,e2,e3⟩=>?_;obtain ⟨ρ',As',g1,g2,g3,g4,g5⟩:=h2 g e2;exact ⟨⟨(ρ',As',V g),g1,g2,g3,g4⟩,e1,trivial,g5 _ e3⟩
theorem QbN {ρ ρ' : Rho} {H : Hp} {R : List Nat} {B : List (Nat × HX)} {As Bs : List HA} (hle : ρ.le ρ') (hH : HM ρ' H As) (hR : Qt (ha ρ) B = some Bs) (hB : XM H R B) : ∀ w,HS w0 [] As w → HS w0 [] (Bs ++ ρ.ex) w:=by
 obtain ⟨Bs',Rs,h1,h2⟩:=Qja hH hB;have h3:=Xi (fun _ _=>Qdd hle _ _) hR;rw [h1] at h3;injection h3 with h3
 subst h3;rw [← hle.2];exact fun w hw=>(hw.perm h2).sub (List.sublist_append_left ..)
theorem Qgd {listed : Array Bool} {i : Nat} (h : (Region.ready .any ops listed == [i]) = true) : (listed.setIfInBounds i true).getD i false = true:=by
 have h1 : i ∈ Region.ready .any ops listed:=by grind
 have h2:=(mem_ready.1 h1).1;have h3 : i < listed.size:=by grind
 simp_all
theorem Qkt {F : List Nat} {i : Nat} (h : onF F i = true) : F.contains i = false:=by
 cases hc : F.contains i with
 | false=>rfl
 | true=>
  have h1:=List.all_eq_true.1 h i (by simpa using hc)
  simp_all
theorem Qmg {ops : Array Oper} {F : List Nat} {i : Nat} {ps : List (List Nat)} (h : XH ops F i ps = true) : F.contains i = false:=by grind [Qac]
theorem Qbp {m : Nat} : ∀ {R : List Nat},memN m R = true ↔ m ∈ R
 | []=>⟨(fun h=>by cases h),(fun h=>by cases h)⟩
 | a :: R=>by
  have hu : memN m (a :: R) = (Bool.rec (memN m R) true (Nat.beq a m) : Bool):=rfl;rw [hu];cases hb : Nat.beq a m with
  | true=>exact ⟨(fun _=>by rw [Nat.eq_of_beq_eq_true hb];exact List.mem_cons_self ..),fun _=>rfl⟩
  | false=>
   have hne : m ≠ a:=fun e=>by subst e;rw [Nat.beq_refl] at hb;cases hb
   simp_all [Qbp]
theorem QaD {b : Bool} {r : Rs} {ρ : Rho} {X : Ctx} {k : List KI} (h : QX r0 w0 ρ X k (yes b r)) : b = true ∧ QX r0 w0 ρ X k r:=by
 cases b with
 | true=>exact ⟨rfl,h⟩
 | false=>exact h.elim
theorem Qqc {H : Hp} {R : List Nat} {B : List (Nat × HX)} (hB : XM H R B) (m : Option Nat) (hm : ∀ k,m = some k → ∃ r,Yd H k = some r) : ∃ B2,XM H (Qmd m R) B2 ∧ (∀ k,m = some k → k ∈ Qmd m R) ∧ (B2 = B ∨ ∃ p,B2 = p :: B):=by
 cases m with
 | none=>exact ⟨B,hB,(fun k h=>by cases h),.inl rfl⟩
 | some m=>
  obtain ⟨r,hr⟩:=hm m rfl;have hu : Qmd (some m) R = (Bool.rec (m :: R) R (memN m R) : List Nat):=rfl;cases hb : memN m R with
  | true=>
   rw [hb] at hu
   grind [Qmd,Qbp]
  | false=>
   rw [hb] at hu;have hu : Qmd (some m) R = m :: R:=hu;rw [hu];exact ⟨(m,r) :: B,⟨rfl,hr,(fun h=>by rw [Qbp.2 h] at hb;cases hb),hB⟩,(fun k h=>by injection h with h;subst h;exact List.mem_cons_self ..),.inr ⟨_,rfl⟩⟩
theorem QqK {ρ : Rho} {B B2 : List (Nat × HX)} {Bs Bs2 : List HA} (hR : Qt (ha ρ) B = some Bs) (h : Qt (ha ρ) B2 = some Bs2) (hc : B2 = B ∨ ∃ p,B2 = p :: B) : ∀ w,HS w0 [] (Bs2 ++ ρ.ex) w → HS w0 [] (Bs ++ ρ.ex) w:=by
 rcases hc with rfl | ⟨p,rfl⟩
 ·grind
 ·simp only [Qt,hR] at h;split at h
  ·rename_i b m h1 h2;injection h2 with h2
   injection h with h
   subst h h2;exact fun w hw=>hw.tail
  ·cases h
theorem Qax {ρ : Rho} {H : Hp} {n : Nat} {As : List HA} {R : List Nat} {B : List (Nat × HX)} {x : HX} (hH : HM ρ H As) (hf : QN ρ n) (hB : XM H R B) : XM (Yy H n x) R B:=by
 refine hB.stay fun m hm=>QdT fun e=>?_;subst e;obtain ⟨r,hr⟩:=hB.has m hm;obtain ⟨A,Rs,g1,_⟩:=QtS hH hr;obtain ⟨x,hx⟩:=QnG g1;rw [hf m (Nat.le_refl _)] at hx;cases hx
def Qgg (P : Program) (r0 : Rho) (w0 : World) (CF : CallF) (X : Ctx) (k : List KI) (ops : Array Oper) (rest : DS) (F : List Nat) (fuel : Nat) (listed : Array Bool) : Prop:=
 ∀ (T : Tr Value) (H : Hp) (n : Nat) (R : List Nat) (B : List (Nat × HX)) (ρ : Rho) (L' : Qb) (As Bs : List HA),QX r0 w0 ρ X k (rest.run CF T H n R) → StOk r0 w0 ρ ⟨T,H,n⟩ L' As → Qt (ha ρ) B = some Bs → XM H R B → D X ops F (HS w0 [] (Bs ++ ρ.ex)) fuel listed k L' (HS w0 [] As)
theorem Qph (hF : CallOk P r0 CF) (hP : X.P = P) {i : Nat} {dst : Option Nat} {op : Op} {ty : TypeId} {pos : String} {aft : Array Edge} {guard : Option (Nat × Bool)} {rest : DS} {Fs : List (List Nat)} {F : List Nat} {listed : Array Bool} {fuel : Nat} {s : Stp}
  (hsP : s.okP = true → (QJ ops listed i && onF F i) = true) (hsQ : s.okQ = true → (QJ ops listed i && (XH ops F i (Qiq ops.size) && Zo F listed)) = true) (hsH : s.okH = true → (Region.ready .any ops listed == [i]) = true) (hsT : s.turn.isSome = F.contains i)
  (ih : Qgg P r0 w0 CF X k ops rest (if F.contains i then Fs.headD [] else F) fuel (listed.setIfInBounds i true))
  (ho : ops[i]? = some ⟨dst,op,ty,pos,aft,guard⟩) {T : Tr Value} {H : Hp} {n : Nat} {R : List Nat} {B : List (Nat × HX)} {ρ : Rho} {L' : Qb} {As Bs : List HA}
  (ht : QX r0 w0 ρ X k ((dOn P X.n s ⟨dst,op,ty,pos,aft,guard⟩ rest).run CF T H n R)) (hs : StOk r0 w0 ρ ⟨T,H,n⟩ L' As) (hR : Qt (ha ρ) B = some Bs) (hB : XM H R B)
  (hon : guard = none ∨ ∃ j want dj b,guard = some (j,want) ∧ (ops[j]?).bind (·.dst) = some dj ∧ Qb.get L' dj = some (.bool b) ∧ b = want) : D X ops F (HS w0 [] (Bs ++ ρ.ex)) (fuel + 1) listed k L' (HS w0 [] As):=by
 have hc:=QbQ P op CF hF.fok T H n
 -- behind a maker
 have mk : ∀ (v : Value) (H' : Hp) (n' : Nat),Xs P (en T) H n CF op = some (.h v H' n') → s.okH = true → (guard.isNone || dst.isSome) = true →
   ((F.contains i = true ∧ ∀ T2,(∀ d,dst = some d → Nat.blt d X.n = true ∧ T2 = Yc (pth d) d v T) → (dst = none → T2 = T) → QX r0 w0 ρ X k (rest.run CF T2 H' n' [])) ∨ (F.contains i = false ∧ XM H' R B ∧ ∀ T2,(∀ d,dst = some d → Nat.blt d X.n = true ∧ T2 = Yc (pth d) d v T) → (dst = none → T2 = T) → QX r0 w0 ρ X k (rest.run CF T2 H' n' R))) →
   (∀ d,dst = some d → Nat.blt d X.n = true) → D X ops F (HS w0 [] (Bs ++ ρ.ex)) (fuel + 1) listed k L' (HS w0 [] As):=by
  intro v H' n' h1 h2 hgd hcase hdn;replace h2:=hsH h2;have ha:=Z1 (w0:=w0) (L':=L') (o:=⟨dst,op,ty,pos,aft,none⟩) hF hs.le rfl hs.sr hs.hp hs.fr h1;have hH:=OpT.got ha;rw [← hP] at hH;have hbase:=QbN (w0:=w0) ρ.le_refl hs.hp hR hB
  have next : ∀ (T2 : Tr Value) (x : Got ρ v H' n') (L3 : Qb),SR x.1.1 (en T2) L3 → (∀ d,dst = some d → Nat.blt d X.n = true ∧ T2 = Yc (pth d) d v T) → (dst = none → T2 = T) → D X ops F (HS w0 [] (Bs ++ ρ.ex)) fuel (listed.setIfInBounds i true) k L3 (HS w0 [] x.1.2.1):=by
   intro T2 x L3 hsr e1 e2;obtain ⟨⟨ρ',As',u⟩,g1,g2,g3,g4⟩:=x;rcases hcase with ⟨hfi,h⟩ | ⟨hfi,hst,h⟩
   ·simp only [hfi,if_true] at ih;refine QkK (B':=HS w0 [] ([] ++ ρ'.ex)) (F':=Fs.headD []) ⟨i,by simpa using hfi,Qgd h2⟩ ?_;exact ih T2 H' n' [] [] ρ' L3 As' [] ((h T2 e1 e2).mono g1) ⟨Rho.le_trans hs.le g1,hsr,g4,g2⟩ rfl trivial
   ·simp only [hfi,Bool.false_eq_true,if_false] at ih;rw [← g1.2];exact ih T2 H' n' R B ρ' L3 As' Bs ((h T2 e1 e2).mono g1) ⟨Rho.le_trans hs.le g1,hsr,g4,g2⟩ (Xi (fun _ _=>Qdd g1 _ _) hR) hst
  cases dst with
  | some d=>
   have hlt:=hdn d rfl;have hn:=fun (x : Got ρ v H' n') (_ : True)=>next (Yc (pth d) d v T) x ((d,x.1.2.2) :: L') ((hs.sr.mono x.2.1).set x.2.2.2.1) (fun d' e=>by injection e with e;subst e;exact ⟨hlt,rfl⟩) (fun e=>by cases e)
   rcases hon with hn' | ⟨j,want,dj,b,hn',hj,hb,hw⟩
   ·subst hn';exact d_h i ho hH h2 hbase hlt hn
   ·subst hn';exact Qst i dj ho hj hb hw hH h2 hbase hlt hn
  | none=>
   have hn:=fun (x : Got ρ v H' n') (_ : True)=>next T x L' (hs.sr.mono x.2.1) (fun d' e=>by cases e) (fun _=>rfl)
   cases guard with
   | none=>exact QfV i ho hH h2 hbase hn
   | some jw=>cases hgd
 have turnT : ∀ y,s.turn = some y → F.contains i = true:=fun y hy=>by
  cases hfi : F.contains i with
  | true=>rfl
  | false=>rw [hy,hfi] at hsT;cases hsT
 have turnF : s.turn = none → F.contains i = false:=fun hy=>by
  cases hfi : F.contains i with
  | false=>rfl
  | true=>rw [hy,hfi] at hsT;cases hsT
 cases dst with
 | some d=>
  simp only [dOn] at ht;cases hb : Nat.blt d X.n with
  | false=>rw [hb] at ht;exact ht.elim
  | true=>
   rw [hb] at ht;simp only [cond_true] at ht;cases hr : (Zs P op).run CF T H n with
   | no=>rw [hr] at ht;exact ht.elim
   | p v=>
    rw [hr] at hc ht;obtain ⟨hok,ht⟩:=QaD ht;replace hok:=hsP hok;rw [Bool.and_eq_true] at hok;obtain ⟨u,e1,e2⟩:=Z1 (w0:=w0) (L':=L') (o:=⟨some d,op,ty,pos,aft,none⟩) hF hs.le rfl hs.sr hs.hp hs.fr hc;rw [← hP] at e1;have hfi:=Qkt hok.2;simp only [hfi,Bool.false_eq_true,if_false] at ih;have next : D X ops F (HS w0 [] (Bs ++ ρ.ex)) fuel (listed.setIfInBounds i true) k ((d,u) :: L') (HS w0 [] As):=ih _ H n R B ρ _ As Bs ht ⟨hs.le,hs.sr.set e2,hs.hp,hs.fr⟩ hR hB
    rcases hon with hn | ⟨j,want,dj,b,hn,hj,hb',hw⟩
    ·subst hn;exact d_p i ho e1 hok.1 hok.2 hb next
    ·subst hn;exact QkB i dj ho hj hb' hw e1 hok.1 hok.2 hb next
   | q m v=>
    rw [hr] at hc ht;simp only [] at ht;split at ht
    ·-- the only one that may come up
     rename_i hokH hturn;have hok:=hsH hokH;have hfi:=turnF hturn;simp only [hfi,Bool.false_eq_true,if_false] at ih;obtain ⟨u,e1,e2⟩:=Z1 (w0:=w0) (L':=L') (o:=⟨some d,op,ty,pos,aft,none⟩) hF hs.le rfl hs.sr hs.hp hs.fr (hc.1 H fun _ _=>rfl);rw [← hP] at e1;have next : D X ops F (HS w0 [] (Bs ++ ρ.ex)) fuel (listed.setIfInBounds i true) k ((d,u) :: L') (HS w0 [] As):=ih _ H n R B ρ _ As Bs ht ⟨hs.le,hs.sr.set e2,hs.hp,hs.fr⟩ hR hB
     have hbase:=QbN (w0:=w0) ρ.le_refl hs.hp hR hB;rcases hon with hn | ⟨j,want,dj,b,hn,hj,hb',hw⟩
     ·subst hn;exact d_h i ho (e1.h (HS.stab _ _ _)) hok hbase hb fun _ _=>next
     ·subst hn;exact Qst i dj ho hj hb' hw (e1.h (HS.stab _ _ _)) hok hbase hb fun _ _=>next
    obtain ⟨hok,ht⟩:=QaD ht;replace hok:=hsQ hok;simp only [Bool.and_eq_true] at hok;obtain ⟨B2,b1,b2,b3⟩:=Qqc hB m hc.2;obtain ⟨Bs2,Rs,g1,g2⟩:=Qja hs.hp b1;have hev:=hc.1 (QdJ B2) fun k hk=>Qgn b1 k (b2 k hk);obtain ⟨u,e1,e2⟩:=Z1 (w0:=w0) (L':=L') (o:=⟨some d,op,ty,pos,aft,none⟩) hF hs.le rfl hs.sr (Ql6 g1) hs.fr hev;rw [← hP] at e1;have hfi:=Qmg hok.2.1;simp only [hfi,Bool.false_eq_true,if_false] at ih;have next : D X ops F (HS w0 [] (Bs2 ++ ρ.ex)) fuel (listed.setIfInBounds i true) k ((d,u) :: L') (HS w0 [] As):=ih _ H n _ B2 ρ _ As Bs2 ht ⟨hs.le,hs.sr.set e2,hs.hp,hs.fr⟩ g1 b1
    refine QqU (QqK hR g1 b3) ?_;rcases hon with hn | ⟨j,want,dj,b,hn,hj,hb',hw⟩
    ·subst hn;exact d_q i _ ho e1 hok.1 hok.2.1 hok.2.2 hb next
    ·subst hn;exact Qsj i dj _ ho hj hb' hw e1 hok.1 hok.2.1 hok.2.2 hb next
   | new v x=>
    rw [hr] at hc ht;obtain ⟨hok,ht⟩:=QaD ht;refine mk v (Yy H n x) (n + 1) hc hok (by simp) ?_ (fun d' e=>by injection e with e;subst e;exact hb);split at ht
    ·rename_i y hy;exact .inl ⟨turnT y hy,fun T2 e1 _=>by rw [(e1 d rfl).2];exact ht⟩
    ·rename_i hy;exact .inr ⟨turnF hy,Qax hs.hp hs.fr hB,fun T2 e1 _=>by rw [(e1 d rfl).2];exact ht⟩
   | h v H' n'=>
    rw [hr] at hc ht;obtain ⟨hok,ht⟩:=QaD ht;refine mk v H' n' hc hok (by simp) ?_ (fun d' e=>by injection e with e;subst e;exact hb);split at ht
    ·rename_i y hy;exact .inl ⟨turnT y hy,fun T2 e1 _=>by rw [(e1 d rfl).2];exact ht⟩
    ·rename_i hy;obtain ⟨hk,ht⟩:=QaD ht;exact .inr ⟨turnF hy,hB.stay (QcQ hk),fun T2 e1 _=>by rw [(e1 d rfl).2];exact ht⟩
 | none=>
  simp only [dOn] at ht;cases hg : guard.isNone with
  | false=>rw [hg] at ht;exact ht.elim
  | true=>
   rw [hg] at ht;simp only [cond_true] at ht;cases hr : (Zs P op).run CF T H n with
   | no=>rw [hr] at ht;exact ht.elim
   | p v=>rw [hr] at ht;exact ht.elim
   | q m v=>rw [hr] at ht;exact ht.elim
   | new v x=>
    rw [hr] at hc ht;obtain ⟨hok,ht⟩:=QaD ht;refine mk v (Yy H n x) (n + 1) hc hok (by simp [hg]) ?_ (fun d' e=>by cases e);split at ht
    ·rename_i y hy;exact .inl ⟨turnT y hy,fun T2 _ e2=>by rw [e2 rfl];exact ht⟩
    ·rename_i hy;exact .inr ⟨turnF hy,Qax hs.hp hs.fr hB,fun T2 _ e2=>by rw [e2 rfl];exact ht⟩
   | h v H' n'=>
    rw [hr] at hc ht;obtain ⟨hok,ht⟩:=QaD ht;refine mk v H' n' hc hok (by simp [hg]) ?_ (fun d' e=>by cases e);split at ht
    ·rename_i y hy;exact .inl ⟨turnT y hy,fun T2 _ e2=>by rw [e2 rfl];exact ht⟩
    ·rename_i hy;obtain ⟨hk,ht⟩:=QaD ht;exact .inr ⟨turnF hy,hB.stay (QcQ hk),fun T2 _ e2=>by rw [e2 rfl];exact ht⟩
end
end Ev
namespace Ev
open Go Go.RowKit
noncomputable def has (M i : Nat) : Bool:=Bool.not (Nat.beq (Nat.land M (Nat.pow 2 i)) 0)
theorem Qag (M i : Nat) : has M i = M.testBit i:=by
 unfold has;cases h : M.testBit i with
 | true=>
  cases hb : Nat.beq (Nat.land M (Nat.pow 2 i)) 0 with
  | false=>rfl
  | true=>
   have h0 : M &&& 2 ^ i = 0:=Nat.eq_of_beq_eq_true hb;have:=congrArg (fun x=>x.testBit i) h0
   grind
 | false=>
  have h0 : M &&& 2 ^ i = 0:=by
   apply Nat.eq_of_testBit_eq
   grind
  simp_all
noncomputable def YX (a M : Nat) : Bool:=Nat.beq (Nat.land a M) a
theorem Qfl {a M : Nat} (h : YX a M = true) {j : Nat} (hj : a.testBit j = true) : M.testBit j = true:=by
 have h0 : a &&& M = a:=Nat.eq_of_beq_eq_true h
 grind
theorem Qiv {a M : Nat} (h : YX a M = false) : ∃ j,a.testBit j = true ∧ M.testBit j = false:=by
 refine Classical.byContradiction fun hn=>?_
 have h0 : a &&& M = a:=by
  apply Nat.eq_of_testBit_eq
  grind
 simp_all [YX]
noncomputable def XS (M i : Nat) : Nat:=Nat.lor M (Nat.pow 2 i)
theorem Zg (M i j : Nat) : (XS M i).testBit j = (M.testBit j || decide (i = j)):=by
 show (M ||| 2 ^ i).testBit j = _
 grind
noncomputable def Qge (l : List Edge) : Nat:=List.rec 0 (fun e _ ih=>Bool.rec ih (XS ih e.on) (Region.binds .any e)) l
theorem Qf8 (y : Nat) : ∀ l : List Edge,(Qge l).testBit y = l.any fun e=>Region.binds .any e && Nat.beq e.on y
 | []=>by show (0 : Nat).testBit y = _;simp
 | e :: l=>by
  have hu : Qge (e :: l) = (Bool.rec (Qge l) (XS (Qge l) e.on) (Region.binds .any e) : Nat):=rfl;rw [hu,List.any_cons,← Qf8 y l];cases Region.binds .any e with
  | false=>rfl
  | true=>
   show (XS (Qge l) e.on).testBit y = _;rw [Zg];have : decide (e.on = y) = Nat.beq e.on y:=by rw [Bool.eq_iff_iff,decide_eq_true_eq,Nat.beq_eq]
   grind
def Zu : Operand → List Nat → List Nat
 | .tmp t,l=>t :: l
 | _,l=>l
def QdZ : List Operand → List Nat
 | []=>[]
 | x :: l=>Zu x (QdZ l)
def Qh8 : List (Nat × Operand) → List Nat
 | []=>[]
 | (_,x) :: l=>Zu x (Qh8 l)
def QiY : Option Operand → List Nat → List Nat
 | some x,l=>Zu x l
 | none,l=>l
def opT : Op → Option (List Nat)
 | .alloc _ | .makeMap _ none=>some []
 | .move x | .assign x | .box _ x | .load _ x | .nilCheck x | .unOp _ _ x | .convert _ _ x | .fieldAddr _ x _ | .field _ x _ | .extract x _=>some (Zu x [])
 | .pick c a b=>some (Zu c (Zu a (Zu b [])))
 | .build _ ⟨ps⟩ | .buildSlice _ _ ⟨ps⟩=>some (Qh8 ps)
 | .store _ a v | .binOp _ _ a v _ | .makeSlice _ a v | .indexAddr _ a v | .index _ a v | .lookup _ a v _=>some (Zu a (Zu v []))
 | .mapUpdate _ a b c=>some (Zu a (Zu b (Zu c [])))
 | .makeFunc _ ⟨f⟩ ⟨c⟩=>some (QdZ f ++ QdZ c)
 | .slice _ x l h m=>some (Zu x (QiY l (QiY h (QiY m []))))
 | .call ⟨.value f,⟨args⟩,_⟩=>some (Zu f (QdZ args))
 | .call ⟨.builtin _,⟨args⟩,_⟩=>some (QdZ args)
 | _=>none
theorem QbH {x : Operand} {l : List Nat} {t : Nat} : t ∈ Zu x l ↔ x = .tmp t ∨ t ∈ l:=by
 cases x <;> simp [Zu,eq_comm]
theorem Qgc {t : Nat} : ∀ {l : List Operand},t ∈ QdZ l ↔ Operand.tmp t ∈ l
 | []=>by simp [QdZ]
 | x :: l=>by simp only [QdZ,QbH,Qgc,List.mem_cons];simp [eq_comm]
theorem Qgu {t : Nat} : ∀ {l : List (Nat × Operand)},t ∈ Qh8 l ↔ Operand.tmp t ∈ l.map (·.2)
 | []=>by simp [Qh8]
 | (i,x) :: l=>by simp only [Qh8,QbH,Qgu,List.map_cons,List.mem_cons];simp [eq_comm]
theorem QmW {t : Nat} {o : Option Operand} {l : List Nat} : t ∈ QiY o l ↔ o = some (.tmp t) ∨ t ∈ l:=by
 cases o <;> simp [QiY,QbH]
theorem Qrg {op : Op} {l : List Nat} (h : opT op = some l) {t : Nat} (ht : Operand.tmp t ∈ op.operands) : t ∈ l:=by
  unfold opT at h
  split at h <;> first
    | (cases h;done)
    | (injection h with h;subst h
       simp only [Op.operands,Call.operands,Array.mem_append,List.mem_toArray,Option.mem_toArray,List.mem_map,QbH,Qgc,Qgu,QmW,List.mem_append,List.mem_cons,List.mem_nil_iff,or_false,Option.mem_def,List.mem_singleton,List.not_mem_nil,false_or] at ht ⊢
       all_goals (first | exact ht | grind))
def gdT (ops : List Oper) : Option (Nat × Bool) → List Nat
 | none=>[]
 | some (g,_)=>match ops[g]? with
  | some o=>(match o.dst with
   | some d=>[d]
   | none=>[])
  | none=>[]
structure Inf where
 em : Nat
 dst : Option Nat
 lk : List Nat
noncomputable def Zi (ops : List Oper) (o : Oper) : Option Inf:=match opT o.op,o.after with
 | some l,⟨es⟩=>some ⟨Qge es,o.dst,gdT ops o.guard ++ l⟩
 | none,_=>none
theorem QaY {ops : List Oper} {o : Oper} {f : Inf} (h : Zi ops o = some f) (y : Nat) : f.em.testBit y = o.after.any fun e=>Region.binds .any e && Nat.beq e.on y:=by
 unfold Zi at h;split at h
 ·rename_i l es h1 h2
  grind [Qf8]
 ·cases h
theorem QdQ {ops : List Oper} {o : Oper} {f : Inf} (h : Zi ops o = some f) {t : Nat} (ht : t ∈ o.looksAt ⟨ops⟩) : t ∈ f.lk:=by
 unfold Zi at h;split at h
 ·rename_i l es h1 h2;injection h with h
  subst h;simp only [List.mem_append];unfold Oper.looksAt at ht
  grind [Qrg,gdT]
 ·cases h
theorem QgE {ops : List Oper} {o : Oper} {f : Inf} (h : Zi ops o = some f) : f.dst = o.dst:=by grind [Zi]
theorem Ql7 {ops : List Oper} {o : Oper} {f : Inf} (h : Zi ops o = some f) (cs : Array SelectCase) (b : Bool) : o.op ≠ .select cs b:=by
 intro e;unfold Zi at h;rw [e] at h;cases h
noncomputable def eqON (a : Nat) (b : Option Nat) : Bool:=Option.rec false (fun b=>Nat.beq a b) b
noncomputable def apF (x y : Inf) : Bool:=Bool.rec false (match y.dst with
  | some e=>Bool.not (memN e x.lk)
  | none=>true) (match x.dst with
 | some d=>Bool.rec (Bool.not (eqON d y.dst)) false (memN d y.lk)
 | none=>true)
theorem Qt0 {ops : List Oper} {x y : Oper} {fx fy : Inf} (hx : Zi ops x = some fx) (hy : Zi ops y = some fy) (h : apF fx fy = true) : x.apart ⟨ops⟩ y = true:=by
 unfold apF at h;rw [QgE hx,QgE hy] at h;unfold Oper.apart
 have ny : ∀ d,memN d fy.lk = false → d ∉ y.looksAt ⟨ops⟩:=fun d hd hc=>by
  have:=Qbp.2 (QdQ hy hc);rw [hd] at this;cases this
 have nx : ∀ d,memN d fx.lk = false → d ∉ x.looksAt ⟨ops⟩:=fun d hd hc=>by
  have:=Qbp.2 (QdQ hx hc);rw [hd] at this;cases this
 have h2 : ∀ e,y.dst = some e → memN e fx.lk = false:=by
  intro e he;rw [he] at h;cases hm : memN e fx.lk with
  | false=>rfl
  | true=>
   simp only [hm,Bool.not_true] at h;have hz : ∀ b : Bool,(Bool.rec false false b : Bool) = true → False:=fun b hb=>by cases b <;> cases hb
   grind
 have h1 : ∀ d,x.dst = some d → memN d fy.lk = false ∧ y.dst ≠ some d:=by
  intro d hd;rw [hd] at h;simp only [] at h;cases hm : memN d fy.lk with
  | true=>rw [hm] at h;cases h
  | false=>
   rw [hm] at h;refine ⟨rfl,fun e=>?_⟩
   simp_all [eqON]
 grind
noncomputable def Qd2 (i : Nat) (f : Inf) (l : List (Nat × Inf)) : Nat:=List.rec 0 (fun p _ ih=>Bool.rec (Bool.rec (Bool.rec (XS ih p.1) ih (apF f p.2)) ih (has p.2.em i)) ih (Nat.beq p.1 i)) l
theorem Qi9 {i : Nat} {f : Inf} : ∀ {l : List (Nat × Inf)} {p : Nat × Inf},p ∈ l → p.1 ≠ i → p.2.em.testBit i = false → apF f p.2 = false → (Qd2 i f l).testBit p.1 = true
 | q :: l,p,hp,h1,h2,h3=>by
  have hu : Qd2 i f (q :: l) = (Bool.rec (Bool.rec (Bool.rec (XS (Qd2 i f l) q.1) (Qd2 i f l) (apF f q.2)) (Qd2 i f l) (has q.2.em i)) (Qd2 i f l) (Nat.beq q.1 i) : Nat):=rfl;rw [hu];rcases List.mem_cons.1 hp with rfl | hp
  ·have hb : Nat.beq p.1 i = false:=by cases hb : Nat.beq p.1 i <;> simp_all
   simp_all [Qag,XS,Zg]
  ·have ih:=Qi9 (f:=f) hp h1 h2 h3;cases Nat.beq q.1 i with
   | true=>exact ih
   | false=>
    cases has q.2.em i with
    | true=>exact ih
    | false=>cases apF f q.2 <;> grind [apF,XS,Zg]
 | [],p,hp,_,_,_=>by cases hp
noncomputable def Qct (ops : List Oper) : Nat → List Oper → Option (List (Nat × Inf))
 | _,[]=>some []
 | i,o :: l=>match Zi ops o,Qct ops (i + 1) l with
  | some f,some fs=>some ((i,f) :: fs)
  | _,_=>none
theorem Qbw {ops : List Oper} : ∀ {l : List Oper} {k : Nat} {fs : List (Nat × Inf)},Qct ops k l = some fs → ∀ j o,l[j]? = some o → ∃ f,Zi ops o = some f ∧ (k + j,f) ∈ fs
 | [],k,fs,h,j,o,hj=>by simp at hj
 | o' :: l,k,fs,h,j,o,hj=>by
  simp only [Qct] at h;split at h
  ·rename_i f fs' h1 h2;injection h with h
   subst h;cases j with
   | zero=>grind
   | succ j=>
    obtain ⟨f',h3,h4⟩:=Qbw h2 j o (by simpa using hj)
    grind
  ·cases h
theorem Qhk {ops : List Oper} : ∀ {l : List Oper} {k : Nat} {fs : List (Nat × Inf)},Qct ops k l = some fs → ∀ p ∈ fs,∃ j o,p.1 = k + j ∧ l[j]? = some o ∧ Zi ops o = some p.2
 | [],k,fs,h,p,hp=>by cases h;cases hp
 | o' :: l,k,fs,h,p,hp=>by
  simp only [Qct] at h;split at h
  ·rename_i f fs' h1 h2;injection h with h
   subst h;rcases List.mem_cons.1 hp with rfl | hp
   ·grind
   ·obtain ⟨j,o,e1,e2,e3⟩:=Qhk h2 p hp;exact ⟨j + 1,o,by omega,by simpa using e2,e3⟩
  ·cases h
def Lm (n : Nat) (listed : Array Bool) (M : Nat) : Prop:=listed.size = n ∧ (∀ j,j < n → listed.getD j false = M.testBit j) ∧ ∀ j,M.testBit j = true → j < n
theorem Lm.get {n : Nat} {listed : Array Bool} {M j : Nat} (h : Lm n listed M) (hj : j < n) (b : Bool) : listed.getD j b = M.testBit j:=by
 rw [← h.2.1 j hj];have hl : j < listed.size:=by rw [h.1];exact hj
 grind
theorem Lm.set {n : Nat} {listed : Array Bool} {M i : Nat} (h : Lm n listed M) (hi : i < n) : Lm n (listed.setIfInBounds i true) (XS M i):=by
 refine ⟨by simp [h.1],fun j hj=>?_,fun j hj=>by
  rw [Zg] at hj
  by_cases e : i = j
  ·omega
  ·exact h.2.2 j (by simpa [e] using hj)⟩
 have hl : i < listed.size:=by rw [h.1];exact hi
 have hl' : j < listed.size:=by rw [h.1];exact hj
 rw [Zg]
 by_cases e : i = j
 ·simp_all
 ·have:=h.2.1 j hj
  simp_all
theorem Lm.start (n : Nat) : Lm n (Array.replicate n false) 0:=⟨by simp,(fun j hj=>by simp [Array.getD_eq_getD_getElem?,hj]),fun j hj=>by simp at hj⟩
section
variable {ops : List Oper} {fs : List (Nat × Inf)}
structure Row where
 i : Nat
 em : Nat
 need : Nat
noncomputable def QB (fs : List (Nat × Inf)) : List (Nat × Inf) → List Row:=List.rec [] fun p _ ih=>⟨p.1,p.2.em,Nat.lor p.2.em (Qd2 p.1 p.2 fs)⟩ :: ih
theorem QfP : ∀ {l : List (Nat × Inf)} {r : Row},r ∈ QB fs l → ∃ p ∈ l,r = ⟨p.1,p.2.em,Nat.lor p.2.em (Qd2 p.1 p.2 fs)⟩
 | p :: l,r,h=>by
  have hu : QB fs (p :: l) = ⟨p.1,p.2.em,Nat.lor p.2.em (Qd2 p.1 p.2 fs)⟩ :: QB fs l:=rfl;rw [hu] at h;rcases List.mem_cons.1 h with rfl | h
  ·grind
  ·obtain ⟨q,h1,h2⟩:=QfP h
   grind
 | [],r,h=>by cases h
theorem Qcd : ∀ {l : List (Nat × Inf)} {p : Nat × Inf},p ∈ l → (⟨p.1,p.2.em,Nat.lor p.2.em (Qd2 p.1 p.2 fs)⟩ : Row) ∈ QB fs l
 | q :: l,p,h=>by
  have hu : QB fs (q :: l) = ⟨q.1,q.2.em,Nat.lor q.2.em (Qd2 q.1 q.2 fs)⟩ :: QB fs l:=rfl;rw [hu];rcases List.mem_cons.1 h with rfl | h
  ·grind
  ·exact List.mem_cons_of_mem _ (Qcd h)
 | [],p,h=>by cases h
theorem Qbd (hf : Qct ops 0 ops = some fs) {r : Row} (h : r ∈ QB fs fs) : ∃ o f,ops[r.i]? = some o ∧ Zi ops o = some f ∧ r.em = f.em ∧ (r.i,f) ∈ fs ∧ r.need = Nat.lor f.em (Qd2 r.i f fs):=by grind [QfP,Qhk]
theorem Qde {listed : Array Bool} {M i : Nat} {o : Oper} {f : Inf} (hl : Lm ops.length listed M) (ho : ops[i]? = some o) (hf : Zi ops o = some f) (hM : M.testBit i = false) (hs : YX f.em M = true) : i ∈ Region.ready .any ⟨ops⟩ listed:=by
 have hi : i < ops.length:=by grind
 refine mem_ready.2 ⟨by rw [hl.get hi];exact hM,o,by simpa using ho,fun e he hb=>?_⟩
 have h1 : f.em.testBit e.on = true:=by
  rw [QaY hf];refine Array.any_eq_true'.2 ⟨e,he,?_⟩
  simp_all
 have h2:=Qfl hs h1;rw [hl.get (hl.2.2 _ h2)];exact h2
theorem Lm.not {n : Nat} {listed : Array Bool} {M j : Nat} (h : Lm n listed M) (hj : M.testBit j = false) : listed.getD j false = false:=by
 by_cases hlt : j < n
 ·rw [h.get hlt];exact hj
 ·have : listed.size ≤ j:=by rw [h.1];omega
  grind
theorem Qe2 {listed : Array Bool} {M i : Nat} {o : Oper} {f : Inf} (hl : Lm ops.length listed M) (ho : ops[i]? = some o) (hf : Zi ops o = some f) (hs : YX f.em M = false) : i ∉ Region.ready .any ⟨ops⟩ listed:=by
 intro hr;obtain ⟨_,o',ho',hall⟩:=mem_ready.1 hr;have : o' = o:=by grind
 subst this;obtain ⟨y,h1,h2⟩:=Qiv hs;rw [QaY hf] at h1;obtain ⟨e,he,hb⟩:=Array.any_eq_true'.1 h1;simp only [Bool.and_eq_true] at hb;have hon:=Nat.eq_of_beq_eq_true hb.2;subst hon;have h3:=hall e he hb.1;rw [hl.not h2] at h3;cases h3
noncomputable def Qnz (g : Row → Bool) (l : List Row) : Bool:=List.rec true (fun r _ ih=>Bool.rec false ih (g r)) l
theorem QeG {g : Row → Bool} : ∀ {l : List Row},Qnz g l = true → ∀ r ∈ l,g r = true
 | r :: l,h,r',hr=>by
  have hu : Qnz g (r :: l) = (Bool.rec false (Qnz g l) (g r) : Bool):=rfl;rw [hu] at h;cases hg : g r with
  | false=>rw [hg] at h;cases h
  | true=>
   rw [hg] at h;rcases List.mem_cons.1 hr with rfl | hr
   ·exact hg
   ·exact QeG h r' hr
 | [],_,_,hr=>by cases hr
noncomputable def Qim (M i : Nat) (rows : List Row) : Bool:=Qnz (fun r=>Bool.rec (Bool.rec (Bool.not (YX r.em M)) true (has M r.i)) true (Nat.beq r.i i)) rows
theorem QmV : ∀ {l : List Nat} {i : Nat},l.Nodup → i ∈ l → (∀ j ∈ l,j = i) → l = [i]
 | [],i,_,h,_=>by cases h
 | [a],i,_,h,_=>by rw [List.mem_singleton.1 h]
 | a :: b :: l,i,hn,_,hall=>by simp_all
theorem Qcq (hf : Qct ops 0 ops = some fs) {listed : Array Bool} {M : Nat} {r : Row} (hl : Lm ops.length listed M) (hr : r ∈ QB fs fs) (hM : has M r.i = false) (hs : YX r.em M = true) (ho : Qim M r.i (QB fs fs) = true) : (Region.ready .any ⟨ops⟩ listed == [r.i]) = true:=by
 obtain ⟨o,f,e1,e2,e3,e4,e5⟩:=Qbd hf hr;rw [Qag] at hM;rw [e3] at hs;have hin:=Qde hl e1 e2 hM hs
 have : Region.ready .any ⟨ops⟩ listed = [r.i]:=by
  refine QmV (List.Pairwise.filter _ List.nodup_range) hin fun j hj=>?_;obtain ⟨h1,oj,h2,h3⟩:=mem_ready.1 hj;have h2' : ops[j]? = some oj:=by simpa using h2
  obtain ⟨fj,g1,g2⟩:=Qbw hf j oj h2';rw [Nat.zero_add] at g2;have g3:=QeG ho _ (Qcd (fs:=fs) g2);simp only [] at g3;cases hb : Nat.beq j r.i with
  | true=>exact Nat.eq_of_beq_eq_true hb
  | false=>
   rw [hb] at g3;have hjl : j < ops.length:=by grind
   rw [hl.get hjl] at h1;rw [Qag,h1] at g3
   grind [YX,Qe2]
 grind
theorem QuY (hf : Qct ops 0 ops = some fs) : Region.noSelect ⟨ops⟩ = true:=by
 unfold Region.noSelect;simp only [List.all_toArray,List.all_eq_true];intro o ho;obtain ⟨j,hj⟩:=List.getElem?_of_mem ho
 grind [Qbw,Ql7]
theorem Qfv (hf : Qct ops 0 ops = some fs) {listed : Array Bool} {M : Nat} {r : Row} (hl : Lm ops.length listed M) (hr : r ∈ QB fs fs) (hM : has M r.i = false) (hs : YX r.need M = true) : QJ ⟨ops⟩ listed r.i = true:=by
 obtain ⟨o,f,e1,e2,e3,e4,e5⟩:=Qbd hf hr;rw [Qag] at hM
 have hem : YX f.em M = true:=by
  cases h : YX f.em M with
  | true=>rfl
  | false=>
   obtain ⟨y,h1,h2⟩:=Qiv h;have h3 : r.need.testBit y = true:=by simp_all
   grind [Qfl]
 have hin:=Qde hl e1 e2 hM hem;unfold QJ;rw [QuY hf,Bool.and_true,Bool.and_eq_true];refine ⟨by simpa using hin,List.all_eq_true.2 fun j hj=>?_⟩;have hjl : j < ops.length:=by simpa using hj
 have h2' : ops[j]? = some ops[j]:=List.getElem?_eq_getElem hjl;obtain ⟨fj,g1,g2⟩:=Qbw hf j _ h2';rw [Nat.zero_add] at g2;have hoj : (⟨ops⟩ : Array Oper)[j]? = some ops[j]:=by simpa using h2'
 have hoi : (⟨ops⟩ : Array Oper)[r.i]? = some o:=by simpa using e1
 rw [hoj,hoi];simp only [Bool.or_eq_true];cases hb : Nat.beq j r.i with
 | true=>exact .inl (.inl (.inl rfl))
 | false=>
  cases hm : M.testBit j with
  | true=>exact .inl (.inl (.inr (by rw [hl.get hjl];exact hm)))
  | false=>
   cases he : fj.em.testBit r.i with
   | true=>exact .inl (.inr (by rw [← QaY g1];exact he))
   | false=>
    refine .inr (Qt0 e2 g1 ?_);cases hap : apF f fj with
    | true=>rfl
    | false=>
     have hne : j ≠ r.i:=fun e=>by subst e;rw [Nat.beq_refl] at hb;cases hb
     have hbit:=Qi9 (i:=r.i) (f:=f) g2 hne he hap;have h3 : r.need.testBit j = true:=by simp_all
     grind [Qfl]
noncomputable def Qea (fs : List (Nat × Inf)) (fm : Nat) : Nat:=List.rec fm (fun p _ ih=>Bool.rec ih (Nat.lor ih p.2.em) (has fm p.1)) fs
theorem QeB {fm i : Nat} : ∀ {l : List (Nat × Inf)},(Qea l fm).testBit i = true → fm.testBit i = true ∨ ∃ p ∈ l,fm.testBit p.1 = true ∧ p.2.em.testBit i = true
 | [],h=>.inl h
 | p :: l,h=>by
  have hu : Qea (p :: l) fm = (Bool.rec (Qea l fm) (Nat.lor (Qea l fm) p.2.em) (has fm p.1) : Nat):=rfl;rw [hu,Qag] at h;cases hb : fm.testBit p.1 with
  | false=>
   rw [hb] at h;rcases QeB h with h | ⟨q,h1,h2⟩ <;> grind
  | true=>
   rw [hb] at h;have h' : ((Qea l fm) ||| p.2.em).testBit i = true:=h;rw [Nat.testBit_or,Bool.or_eq_true] at h';rcases h' with h | h
   ·rcases QeB h with h | ⟨q,h1,h2⟩ <;> grind
   grind
theorem Qk1 {x y : Nat} {o : Oper} {f : Inf} (ho : ops[x]? = some o) (hf : Zi ops o = some f) (h : f.em.testBit y = true) : Qjw ⟨ops⟩ x y = true:=by grind [Qjw,QaY]
theorem Qqf (hf : Qct ops 0 ops = some fs) {r : Row} (hr : r ∈ QB fs fs) {i : Nat} (hne : r.i ≠ i) (h : has (Qea fs r.em) i = true) : XH ⟨ops⟩ [r.i] i (Qiq (⟨ops⟩ : Array Oper).size) = true:=by
 obtain ⟨o,f,e1,e2,e3,e4,e5⟩:=Qbd hf hr;rw [Qag] at h;have hb : Nat.beq r.i i = false:=by cases hb : Nat.beq r.i i <;> simp_all
 have hps : ∃ p ∈ Qiq (⟨ops⟩ : Array Oper).size,Qb1 ⟨ops⟩ r.i p i = true:=by
  rcases QeB h with h | ⟨p,h1,h2,h3⟩
  ·exact ⟨[],List.mem_cons_self ..,Qk1 e1 e2 (by rw [← e3];exact h)⟩
  ·obtain ⟨j,oj,g1,g2,g3⟩:=Qhk hf p h1;have hj : p.1 = j:=by omega
   have hjl : j < ops.length:=by grind
   refine ⟨[j],List.mem_cons_of_mem _ (List.mem_map.2 ⟨j,by simpa using hjl,rfl⟩),?_⟩
   grind [Qb1,Qk1]
 grind [XH]
noncomputable def Qb7 (i : Nat) (l : List Row) : Option Row:=List.rec none (fun r _ ih=>Bool.rec ih (some r) (Nat.beq r.i i)) l
theorem ZF {i : Nat} : ∀ {l : List Row} {r : Row},Qb7 i l = some r → r ∈ l ∧ r.i = i
 | [],r,h=>by cases h
 | q :: l,r,h=>by
  have hu : Qb7 i (q :: l) = (Bool.rec (Qb7 i l) (some q) (Nat.beq q.i i) : Option Row):=rfl;rw [hu] at h;cases hb : Nat.beq q.i i with
  | true=>simp_all
  | false=>
   rw [hb] at h;obtain ⟨h1,h2⟩:=ZF h
   grind
structure Fin1 where
 i : Nat
 tm : Nat
def Qdg : Option Fin1 → List Nat
 | none=>[]
 | some f=>[f.i]
def QgC (fs : List (Nat × Inf)) (f : Fin1) : Prop:=∃ r ∈ QB fs fs,r.i = f.i ∧ f.tm = Qea fs r.em
noncomputable def isF (F : Option Fin1) (i : Nat) : Bool:=Option.rec false (fun f=>Nat.beq f.i i) F
noncomputable def Qdb (rows : List Row) (F : Option Fin1) (M i : Nat) : Stp:=match Qb7 i rows with
 | some r=>⟨i,Bool.rec (Bool.rec false (Bool.not (isF F i)) (YX r.need M)) false (has M i),
   Bool.rec (Bool.rec false (match F with
    | none=>true
    | some f=>Bool.rec (Bool.rec false (Bool.not (has M f.i)) (has f.tm i)) false (Nat.beq f.i i)) (YX r.need M)) false (has M i),
   Bool.rec (Bool.rec false (Qim M i rows) (YX r.em M)) false (has M i),Bool.rec none (some []) (isF F i)⟩
 | none=>⟨i,false,false,false,Bool.rec none (some []) (isF F i)⟩
theorem b3 {a b c : Bool} (h : (Bool.rec (Bool.rec false c b) false a : Bool) = true) : a = false ∧ b = true ∧ c = true:=by
 cases a <;> cases b <;> cases c <;> first | exact ⟨rfl,rfl,rfl⟩ | cases h
theorem Qdj (F : Option Fin1) (i : Nat) : (Qdg F).contains i = isF F i:=by
 cases F with
 | none=>rfl
 | some f=>
  show List.contains [f.i] i = Nat.beq f.i i;cases hb : Nat.beq f.i i with
  | true=>simp_all
  | false=>
   have : ¬ (i = f.i):=fun e=>by subst e;rw [Nat.beq_refl] at hb;cases hb
   simp [this]
theorem QoB {F : Option Fin1} {i : Nat} (h : isF F i = false) : onF (Qdg F) i = true:=by
 cases F with
 | none=>rfl
 | some f=>
  have hb : Nat.beq f.i i = false:=h;simp [onF,Qdg,hb]
theorem QnM (hf : Qct ops 0 ops = some fs) {listed : Array Bool} {M i : Nat} {F : Option Fin1} (hl : Lm ops.length listed M) (hF : ∀ f,F = some f → QgC fs f) :
  ((Qdb (QB fs fs) F M i).okP = true → (QJ ⟨ops⟩ listed i && onF (Qdg F) i) = true) ∧
  ((Qdb (QB fs fs) F M i).okQ = true → (QJ ⟨ops⟩ listed i && (XH ⟨ops⟩ (Qdg F) i (Qiq (⟨ops⟩ : Array Oper).size) && Zo (Qdg F) listed)) = true) ∧
  ((Qdb (QB fs fs) F M i).okH = true → (Region.ready .any ⟨ops⟩ listed == [i]) = true) ∧
  (Qdb (QB fs fs) F M i).i = i:=by
 unfold Qdb;split
 ·rename_i r hr;obtain ⟨h1,rfl⟩:=ZF hr;refine ⟨fun h=>?_,fun h=>?_,fun h=>?_,rfl⟩
  ·obtain ⟨g1,g2,g3⟩:=b3 h;rw [Qfv hf hl h1 g1 g2,Bool.true_and];exact QoB (by simpa using g3)
  ·obtain ⟨g1,g2,g3⟩:=b3 h;rw [Qfv hf hl h1 g1 g2,Bool.true_and];cases F with
   | none=>rfl
   | some f=>
    obtain ⟨g4,g5,g6⟩:=b3 g3;obtain ⟨r',k1,k2,k3⟩:=hF f rfl;have hne : r'.i ≠ r.i:=fun e=>by rw [k2] at e;rw [e,Nat.beq_refl] at g4;cases g4
    have hw:=Qqf hf k1 hne (by rw [← k3];exact g5);rw [k2] at hw;show (XH ⟨ops⟩ [f.i] r.i _ && Zo [f.i] listed) = true;rw [hw,Bool.true_and];simp only [Zo,List.all_cons,List.all_nil,Bool.and_true];rw [hl.not (by have:=g6;rw [Qag] at this;simpa using this)];rfl
  ·obtain ⟨g1,g2,g3⟩:=b3 h;exact Qcq hf hl h1 g1 g2 g3
 ·exact ⟨(fun h=>by cases h),(fun h=>by cases h),(fun h=>by cases h),rfl⟩
theorem QjN {rows : List Row} {F : Option Fin1} {M i : Nat} : (Qdb rows F M i).turn = Bool.rec none (some []) (isF F i):=by
 unfold Qdb;split <;> rfl
theorem Qrw {listed : Array Bool} (hl : Lm ops.length listed (2 ^ ops.length - 1)) : QsW ⟨ops⟩ listed [] = true:=by
 have : Region.ready .any ⟨ops⟩ listed = []:=by
  refine List.eq_nil_iff_forall_not_mem.2 fun j hj=>?_;obtain ⟨h1,o,h2,_⟩:=mem_ready.1 hj;have h2' : ops[j]? = some o:=by simpa using h2
  have hjl : j < ops.length:=by grind
  rw [hl.get hjl,Nat.testBit_two_pow_sub_one] at h1;simp [hjl] at h1
 grind [QsW]
end
end Ev
namespace Ev
open Go Go.RowKit
noncomputable def QsP (P : Program) : Op → Option (Clo (Nat → Value × HX))
 | .makeMap _ none=>some ⟨fun n=>(.map (some n),.mp [])⟩
 | .alloc t=>match QL P t with
  | some z=>bif Xe z then some ⟨fun n=>(.pointer (some ⟨n,0,none⟩),.row ⟨t,0,z⟩)⟩ else none
  | none=>none
 | _=>none
def QvS (P : Program) (o : Oper) (L' : Qb) (w0 : World) (As : List HA) (c : Nat → Value × HX) : Prop:=
 ∃ (G : Type) (V : G → Value) (Fg : G → Prop) (A : G → HA),OpH P o L' (HS w0 [] As) V Fg (fun g=>HS w0 [] (A g :: As)) ∧ ∀ g,Fg g → ∃ x : Nat × Nat,∀ (ρ : Rho) (n : Nat),den (ext ρ n x) (c n).1 = some (V g) ∧ ha (ext ρ n x) (n,(c n).2) = some (A g)
theorem Qld {P : Program} {o : Oper} {op : Op} {c : Clo (Nat → Value × HX)} (ho : o.op = op) (h : QsP P op = some c) (L' : Qb) (w0 : World) (As : List HA) : QvS P o L' w0 As c.run:=by
 unfold QsP at h;split at h
 ·injection h with h
  subst h;refine ⟨_,_,_,_,Qf7 ho Qi2,fun b _=>⟨(b,0),fun ρ n=>⟨?_,?_⟩⟩⟩
  ·simp only [den,Xq,QP,XJ,QaS]
  ·simp only [ha,QaS]
 ·rename_i t;split at h
  ·rename_i z hz;obtain ⟨hf,rfl⟩:=Qq h;refine ⟨_,_,_,_,QbP ho hz,fun b _=>⟨(b,0),fun ρ n=>⟨QhK,?_⟩⟩⟩;have:=QkU (x:=⟨t,0,z⟩) (us:=z) (d:=0) (QaS ρ n (b,0)) (XO hf) (.inl rfl)
   simpa using this
  ·cases h
 ·cases h
noncomputable def cPs (P : Program) (nt dj : Nat) (ops : Array Oper) : List Nat → Clo (CallF → Tr Value → Hp → Nat → Option (Tr Value))
 | []=>⟨fun _ T _ _=>some T⟩
 | q :: l=>match ops[q]? with
  | some ⟨some d,op,_,_,_,none⟩=>bif Nat.blt d nt && Bool.not (Nat.beq d dj) then ⟨fun F T H n=>match (Zs P op).run F T H n with
   | .p v=>(cPs P nt dj ops l).run F (Yc (pth d) d v T) H n
   | _=>none⟩ else ⟨fun _ _ _ _=>none⟩
  | _=>⟨fun _ _ _ _=>none⟩
noncomputable def Qth (P : Program) (nt : Nat) (ops : Array Oper) (ps : List Nat) (ok : Bool) (oi oj : Oper) (rest : DS) : DS:=match oi.dst,oj.dst,QsP P oj.op,oi.guard,oj.guard with
 | some di,some dj,some c,none,none=>bif ok && (Nat.blt di nt && (Nat.blt dj nt && Bool.not (Nat.beq di dj))) then ⟨fun F T H n R=>match (Zs P oi.op).run ⟨F.f,F.e,noY⟩ (QcU (pth dj) T) H n with
  | .new v x=>(match (cPs P nt dj ops ps).run ⟨F.f,F.e,noY⟩ (Yc (pth di) di v (QcU (pth dj) T)) (Yy H n x) (Nat.succ n) with
   | some T2=>rest.run F (Yc (pth dj) dj (c.run (Nat.succ n)).1 T2) (Yy (Yy H n x) (Nat.succ n) (c.run (Nat.succ n)).2) (Nat.succ (Nat.succ n)) R
   | none=>.bad)
  | .h v H' n'=>(match (cPs P nt dj ops ps).run ⟨F.f,F.e,noY⟩ (Yc (pth di) di v (QcU (pth dj) T)) H' n' with
   | some T2=>yes (Qih H H' R) (rest.run F (Yc (pth dj) dj (c.run n').1 T2) (Yy H' n' (c.run n').2) (Nat.succ n') R)
   | none=>.bad)
  | _=>.bad⟩ else noD
 | _,_,_,_,_=>noD
theorem Qoy {T : Tr Value} {d t : Nat} {v : Value} (h : en (QcU (pth d) T) t = some v) : t ≠ d ∧ en T t = some v:=by
 refine ⟨fun e=>?_,Qfe _ _ _ h⟩;subst e;have h' : Yx (pth t) t (QcU (pth t) T) = some v:=h;rw [Qaa] at h';cases h'
theorem SR.del {ρ : Rho} {T : Tr Value} {L' : Qb} {d : Nat} (h : SR ρ (en T) L') (u : Value) : SR ρ (en (QcU (pth d) T)) ((d,u) :: L'):=fun t v hv=>by
 obtain ⟨h1,h2⟩:=Qoy hv;obtain ⟨u',h3,h4⟩:=h t v h2
 grind [Qb.get,QdH]
theorem SR.del0 {ρ : Rho} {T : Tr Value} {L' : Qb} {d : Nat} (h : SR ρ (en T) L') : SR ρ (en (QcU (pth d) T)) L':=fun t v hv=>h t v (Qoy hv).2
theorem SR.put1 {ρ : Rho} {T : Tr Value} {L' : Qb} {dj : Nat} {w u' : Value} (h : SR ρ (en T) L') (hj : Qb.get L' dj = some u') (hw : den ρ w = some u') : SR ρ (en (Yc (pth dj) dj w T)) L':=fun t x hx=>by
 rcases Qp5 t x hx with ⟨rfl,rfl⟩ | ⟨h1,h2⟩
 ·grind
 ·exact h t x h2
section
variable {P : Program} {r0 : Rho} {w0 : World} {CF : CallF} {X : Ctx} {k : List KI} {ops : Array Oper}
theorem QtD {F : List Nat} {fuel : Nat} {listed : Array Bool} {L : Qb} {As : List HA} {B : World → Prop} {d d' ty ty' : Nat} {op op' : Op} {pos pos' : String} {aft aft' : Array Edge} {G G' : Type} {V : G → Value} {Fg : G → Prop} {C : G → World → Prop} {V' : G' → Value} {Fg' : G' → Prop} {C' : G' → World → Prop} (i j : Nat)
  (hi : ops[i]? = some ⟨some d,op,ty,pos,aft,none⟩) (hj : ops[j]? = some ⟨some d',op',ty',pos',aft',none⟩) (h : OpH X.P ⟨some d,op,ty,pos,aft,none⟩ L (HS w0 [] As) V Fg C) (h' : OpH X.P ⟨some d',op',ty',pos',aft',none⟩ L (HS w0 [] As) V' Fg' C')
  (mi : i ∈ Region.ready .any ops listed) (mj : j ∈ Region.ready .any ops listed) (hr : ∀ q ∈ Region.ready .any ops listed,q = i ∨ q = j) (hB : ∀ w,HS w0 [] As w → B w) (hd : Nat.blt d X.n = true) (hd' : Nat.blt d' X.n = true)
  (next : ∀ g,Fg g → D X ops F B fuel (listed.setIfInBounds i true) k ((d,V g) :: L) (C g)) (next' : ∀ g,Fg' g → D X ops F B fuel (listed.setIfInBounds j true) k ((d',V' g) :: L) (C' g)) : D X ops F B (fuel + 1) listed k L (HS w0 [] As):=by
 intro hcl a ha;refine ⟨fun _=>⟨hB,HS.stab _ _ _⟩,fun h0=>(by rw [h0] at mi;cases mi),fun q hq=>?_⟩;rcases hr q hq with e | e
 ·subst e;unfold X3;simp only [hi];rw [if_pos (by simp [Region.wanted])];exact ⟨G,V,Fg,C,fun w hw=>h a.eval w ha.agr hw,fun g hg=>next g hg (hcl.set mi) _ (ha.put d _ hd)⟩
 ·subst e;unfold X3;simp only [hj];rw [if_pos (by simp [Region.wanted])];exact ⟨G',V',Fg',C',fun w hw=>h' a.eval w ha.agr hw,fun g hg=>next' g hg (hcl.set mj) _ (ha.put d' _ hd')⟩
def Qj5 (listed : Array Bool) : List Nat → Array Bool
 | []=>listed
 | q :: l=>Qj5 (listed.setIfInBounds q true) l
def Qkp (ops : Array Oper) (F : List Nat) : Array Bool → List Nat → Prop
 | _,[]=>True
 | listed,q :: l=>QJ ops listed q = true ∧ onF F q = true ∧ Qkp ops F (listed.setIfInBounds q true) l
theorem Qjx {CF : CallF} (hF : ∀ r,CallOk P r CF) (hP : X.P = P) {dj : Nat} {F : List Nat} {B : World → Prop} {fuel : Nat} : ∀ (ps : List Nat) (listed : Array Bool) (T T2 : Tr Value) (H : Hp) (n : Nat) (ρ : Rho) (L' : Qb) (As : List HA),(cPs P X.n dj ops ps).run CF T H n = some T2 → Qkp ops F listed ps → SR ρ (en T) L' → HM ρ H As → QN ρ n →
  (∀ L2,SR ρ (en T2) L2 → Qb.get L2 dj = Qb.get L' dj → D X ops F B fuel (Qj5 listed ps) k L2 (HS w0 [] As)) → D X ops F B (fuel + ps.length) listed k L' (HS w0 [] As)
 | [],listed,T,T2,H,n,ρ,L',As,h,_,hs,_,_,next=>by
  injection h with h
  subst h;exact next L' hs rfl
 | q :: ps,listed,T,T2,H,n,ρ,L',As,h,hok,hs,hp,hf,next=>by
  simp only [cPs] at h;split at h
  ·rename_i d op ty pos aft ho;cases hc : Nat.blt d X.n && Bool.not (Nat.beq d dj) with
   | false=>rw [hc] at h;cases h
   | true=>
    rw [hc] at h;simp only [cond_true] at h;simp only [Bool.and_eq_true,Bool.not_eq_true'] at hc;split at h
    ·rename_i v hr;have hcm:=QbQ P op CF trivial T H n;rw [hr] at hcm;obtain ⟨u,e1,e2⟩:=Z1 (w0:=w0) (L':=L') (o:=⟨some d,op,ty,pos,aft,none⟩) (hF ρ) ρ.le_refl rfl hs hp hf hcm;rw [← hP] at e1;refine d_p q ho e1 hok.1 hok.2.1 hc.1 ?_;refine Qjx hF hP ps _ _ T2 H n ρ ((d,u) :: L') As h hok.2.2 (hs.set e2) hp hf fun L2 h1 h2=>next L2 h1 ?_
     grind [Qb.get]
    ·cases h
  ·cases h
theorem QrG (hF : CallOk P r0 CF) (hP : X.P = P) {i j : Nat} {ok : Bool} {ps : List Nat} {oi oj : Oper} {rest : DS} {F : List Nat} {listed : Array Bool} {fuel : Nat}
  (hok : ok = true → i ∈ Region.ready .any ops listed ∧ j ∈ Region.ready .any ops listed ∧ (∀ q ∈ Region.ready .any ops listed,q = i ∨ q = j) ∧ Qkp ops F (listed.setIfInBounds i true) ps ∧ (Region.ready .any ops (Qj5 (listed.setIfInBounds i true) ps) == [j]) = true ∧ (Region.ready .any ops (listed.setIfInBounds j true) == [i]) = true ∧ Qkp ops F ((listed.setIfInBounds j true).setIfInBounds i true) ps)
  (ih : Qgg P r0 w0 CF X k ops rest F fuel ((Qj5 (listed.setIfInBounds i true) ps).setIfInBounds j true)) (ih' : Qgg P r0 w0 CF X k ops rest F fuel (Qj5 ((listed.setIfInBounds j true).setIfInBounds i true) ps)) (hi : ops[i]? = some oi) (hj : ops[j]? = some oj) {T : Tr Value} {H : Hp} {n : Nat} {R : List Nat} {B : List (Nat × HX)} {ρ : Rho} {L' : Qb} {As Bs : List HA}
  (ht : QX r0 w0 ρ X k ((Qth P X.n ops ps ok oi oj rest).run CF T H n R)) (hs : StOk r0 w0 ρ ⟨T,H,n⟩ L' As) (hR : Qt (ha ρ) B = some Bs) (hB : XM H R B) : D X ops F (HS w0 [] (Bs ++ ρ.ex)) (fuel + ps.length + 2) listed k L' (HS w0 [] As):=by
 obtain ⟨dsti,opi,tyi,posi,afti,gi⟩:=oi;obtain ⟨dstj,opj,tyj,posj,aftj,gj⟩:=oj;unfold Qth at ht;simp only [] at ht;split at ht
 ·rename_i di dj c hnc;cases hc : ok && (Nat.blt di X.n && (Nat.blt dj X.n && Bool.not (Nat.beq di dj))) with
  | false=>rw [hc] at ht;exact ht.elim
  | true=>
   rw [hc] at ht;simp only [cond_true] at ht;simp only [Bool.and_eq_true,Bool.not_eq_true'] at hc;obtain ⟨hok',hdi,hdj,hne'⟩:=hc;have hne : di ≠ dj:=fun e=>by subst e;rw [Nat.beq_refl] at hne';cases hne'
   obtain ⟨mi,mj,hr,hp1,h1,h2,hp2⟩:=hok hok';have hF0 : ∀ r,CallOk P r ⟨CF.f,CF.e,noY⟩:=fun r=>⟨hF.f,hF.e,Qcs⟩;have hcm:=QbQ P opi ⟨CF.f,CF.e,noY⟩ trivial (QcU (pth dj) T) H n
   -- what there is behind both
   have fin : ∀ (v : Value) (H' : Hp) (n' : Nat) (T2 : Tr Value),Xs P (en (QcU (pth dj) T)) H n ⟨CF.f,CF.e,noY⟩ opi = some (.h v H' n') → XM H' R B → (cPs P X.n dj ops ps).run ⟨CF.f,CF.e,noY⟩ (Yc (pth di) di v (QcU (pth dj) T)) H' n' = some T2 → QX r0 w0 ρ X k (rest.run CF (Yc (pth dj) dj (c.run n').1 T2) (Yy H' n' (c.run n').2) (Nat.succ n') R) → D X ops F (HS w0 [] (Bs ++ ρ.ex)) (fuel + ps.length + 2) listed k L' (HS w0 [] As):=by
    intro v H' n' T2 hev hB' hps ht';have hbase:=QbN (w0:=w0) ρ.le_refl hs.hp hR hB;have ha1:=Z1 (w0:=w0) (L':=L') (o:=⟨some di,opi,tyi,posi,afti,none⟩) (hF0 ρ) ρ.le_refl rfl hs.sr.del0 hs.hp hs.fr hev;have hH1:=OpT.got ha1;rw [← hP] at hH1;obtain ⟨G,V,Fg,A,hO,hK⟩:=Qld (o:=⟨some dj,opj,tyj,posj,aftj,none⟩) rfl hnc L' w0 As;rw [← hP] at hO;refine QtD (fuel:=fuel + ps.length + 1) i j hi hj hH1 hO mi mj hr hbase hdi hdj ?_ ?_
    ·-- the first one first
     rintro ⟨⟨ρ',As',u⟩,g1,g2,g3,g4⟩ _;rw [show fuel + ps.length + 1 = (fuel + 1) + ps.length by omega];refine Qjx (ρ:=ρ') hF0 hP ps _ _ T2 H' n' ((di,u) :: L') As' hps hp1 ((hs.sr.del0.mono g1).set g3) g4 g2 fun L2 q1 _=>?_;obtain ⟨G2,V2,Fg2,A2,hO2,hK2⟩:=Qld (o:=⟨some dj,opj,tyj,posj,aftj,none⟩) rfl hnc L2 w0 As';rw [← hP] at hO2;refine d_h j hj hO2 h1 (QbN (w0:=w0) g1 g4 hR hB') hdj fun g hg=>?_;obtain ⟨x,hx⟩:=hK2 g hg;obtain ⟨e1,e2⟩:=hx ρ' n';have hle:=Qfb g2 x;have:=ih _ _ _ R B (ext ρ' n' x) ((dj,V2 g) :: L2) (A2 g :: As') Bs (ht'.mono (Rho.le_trans g1 hle)) ⟨Rho.le_trans hs.le (Rho.le_trans g1 hle),(q1.mono hle).set e1,(HM.mono hle g4).push e2,Qak g2 x⟩ (Xi (fun _ _=>Qdd (Rho.le_trans g1 hle) _ _) hR) (Qax g4 g2 hB');rw [show (ext ρ' n' x).ex = ρ.ex from g1.2] at this;exact this
    ·-- the second one first
     intro g hg;obtain ⟨x,hx⟩:=hK g hg;obtain ⟨G0,Bs0,f1,f2,f3⟩:=hs.hp;have hp1' : HM (ρ.wx (A g :: ρ.ex)) H (Bs0 ++ (A g :: ρ.ex)):=⟨G0,Bs0,f1,f2,rfl⟩
     have hperm : (A g :: As).Perm (Bs0 ++ (A g :: ρ.ex)):=by
      rw [f3];exact List.perm_middle.symm
     refine QkI (C':=HS w0 [] (Bs0 ++ (A g :: ρ.ex))) (fun w hw=>hw.perm hperm) (HS.stab _ _ _) ?_;have ha2:=Z1 (w0:=w0) (L':=(dj,V g) :: L') (o:=⟨some di,opi,tyi,posi,afti,none⟩) (hF0 _) (Rho.le_refl _) rfl ((hs.sr.del (V g)).wx (A g :: ρ.ex)) hp1' (show QN (ρ.wx (A g :: ρ.ex)) n from hs.fr) hev;have hH2:=OpT.got ha2;rw [← hP] at hH2;refine d_h (fuel:=fuel + ps.length) i hi hH2 h2 (fun w hw=>hbase w ((hw.perm hperm.symm).tail)) hdi ?_;rintro ⟨⟨ρ',As',u⟩,g1,g2,g3,g4⟩ _;refine Qjx (ρ:=ρ') hF0 hP ps _ _ T2 H' n' ((di,u) :: (dj,V g) :: L') As' hps hp2 ((((hs.sr.del (V g)).wx (A g :: ρ.ex)).mono g1).set g3) g4 g2 fun L2 q1 q2=>?_;obtain ⟨G1,Bs1,k1,k2,k3⟩:=g4;have hex : ρ'.ex = A g :: ρ.ex:=g1.2;have hle0 : ρ.le (ρ'.wx ρ.ex):=⟨g1.1,rfl⟩;have g2' : QN (ρ'.wx ρ.ex) n':=g2;have hle:=Qfb g2' x;obtain ⟨e1,e2⟩:=hx (ρ'.wx ρ.ex) n'
     have hperm2 : As'.Perm (A g :: (Bs1 ++ ρ.ex)):=by
      rw [show As' = Bs1 ++ ρ'.ex from k3,hex];exact List.perm_middle
     refine QkI (C':=HS w0 [] (A g :: (Bs1 ++ ρ.ex))) (fun w hw=>hw.perm hperm2) (HS.stab _ _ _) ?_;have hM : HM (ρ'.wx ρ.ex) H' (Bs1 ++ ρ.ex):=⟨G1,Bs1,k1,k2,rfl⟩
     have hdj2 : Qb.get L2 dj = some (V g):=by
      rw [q2];simp only [Qb.get,QdH (Ne.symm hne),Nat.beq_refl,cond_true,cond_false]
     have q3 : SR (ρ'.wx ρ.ex) (en T2) L2:=q1;exact ih' _ _ _ R B (ext (ρ'.wx ρ.ex) n' x) L2 (A g :: (Bs1 ++ ρ.ex)) Bs (ht'.mono (Rho.le_trans hle0 hle)) ⟨Rho.le_trans hs.le (Rho.le_trans hle0 hle),(q3.mono hle).put1 hdj2 e1,(HM.mono hle hM).push e2,Qak g2' x⟩ (Xi (fun _ _=>Qdd (Rho.le_trans hle0 hle) _ _) hR) (Qax hM g2' hB')
   split at ht
   ·rename_i v x hr';rw [hr'] at hcm;split at ht
    ·rename_i T2 hps;exact fin v (Yy H n x) (n + 1) T2 hcm (Qax hs.hp hs.fr hB) hps ht
    ·exact ht.elim
   ·rename_i v H' n' hr';rw [hr'] at hcm;split at ht
    ·rename_i T2 hps;obtain ⟨hk,ht⟩:=QaD ht;exact fin v H' n' T2 hcm (hB.stay (QcQ hk)) hps ht
    ·exact ht.elim
   ·exact ht.elim
 ·exact ht.elim
end
inductive It where
 | one (i : Nat)
 | two (i j : Nat) (ps : List Nat)
inductive SI where
 | one (s : Stp)
 | two (i j : Nat) (ps : List Nat) (ok : Bool)
noncomputable def Qa7 (P : Program) (nt : Nat) (ops : Array Oper) : List SI → DS
 | []=>⟨fun _ T H n _=>.nm T H n⟩
 | .one s :: l=>match ops[s.i]? with
  | some o=>(match o.guard with
   | none=>dOn P nt s o (Qa7 P nt ops l)
   | some (j,want)=>match (ops[j]?).bind (·.dst) with
    | some dj=>⟨fun F T H n R=>match Yx (pth dj) dj T with
     | some (.bool b)=>Bool.rec ((QqP nt s o.dst (Qa7 P nt ops l)).run F T H n R) ((dOn P nt s o (Qa7 P nt ops l)).run F T H n R) (b == want)
     | some (.tuple ⟨[]⟩)=>(QqP nt s o.dst (Qa7 P nt ops l)).run F T H n R
     | _=>.bad⟩
    | none=>noD)
  | none=>noD
 | .two i j ps ok :: l=>match ops[i]?,ops[j]? with
  | some oi,some oj=>Qth P nt ops ps ok oi oj (Qa7 P nt ops l)
  | _,_=>noD
noncomputable def Qvk (M i j : Nat) (rows : List Row) : Bool:=Qnz (fun r=>Bool.rec (Bool.rec (Bool.rec (Bool.not (YX r.em M)) true (has M r.i)) true (Nat.beq r.i j)) true (Nat.beq r.i i)) rows
noncomputable def Qn9 (rows : List Row) (F : Option Fin1) (ps : List Nat) : Nat → Bool:=List.rec (fun _=>true) (fun q _ ih M=>match Qb7 q rows with
 | some r=>Bool.rec (Bool.rec (Bool.rec (ih (XS M q)) false (isF F q)) false (Bool.not (YX r.need M))) false (has M q)
 | none=>false) ps
noncomputable def addL (ps : List Nat) : Nat → Nat:=List.rec (fun M=>M) (fun q _ ih M=>ih (XS M q)) ps
noncomputable def Qqg (rows : List Row) (F : Option Fin1) (M i j : Nat) (ps : List Nat) : Bool:=match Qb7 i rows,Qb7 j rows with
 | some ri,some rj=>Bool.not (Nat.beq i j) && (Bool.not (has M i) && (Bool.not (has M j) && (YX ri.em M && (YX rj.em M && (Bool.not (has (addL ps (XS M i)) j) && (YX rj.em (addL ps (XS M i)) && (YX ri.em (XS M j) && (Qvk M i j rows && (Qim (addL ps (XS M i)) j rows && (Qim (XS M j) i rows && (Qn9 rows F ps (XS M i) && Qn9 rows F ps (XS (XS M j) i))))))))))))
 | _,_=>false
noncomputable def mkF (rows : List Row) : List Fin1 → Option Fin1 → Nat → List It → List SI
 | _,_,_,[]=>[]
 | Fs,F,M,.one i :: r=>.one (Qdb rows F M i) :: mkF rows (Bool.rec Fs Fs.tail (isF F i)) (Bool.rec F Fs.head? (isF F i)) (XS M i) r
 | Fs,F,M,.two i j ps :: r=>.two i j ps (Qqg rows F M i j ps) :: mkF rows Fs F (XS (addL ps (XS M i)) j) r
noncomputable def QnI (M : Nat) (l : List It) : Nat:=List.rec (fun M=>M) (fun x _ ih M=>match x with
 | .one i=>ih (XS M i)
 | .two i j ps=>ih (XS (addL ps (XS M i)) j)) l M
def Qmu : List It → Nat
 | []=>0
 | .one _ :: l=>Qmu l + 1
 | .two _ _ ps :: l=>Qmu l + ps.length + 2
def Qq3 (n : Nat) : It → Prop
 | .one i=>i < n
 | .two i j ps=>i < n ∧ j < n ∧ ∀ q ∈ ps,q < n
theorem Qia : ∀ (ps : List Nat) (M j : Nat),(addL ps M).testBit j = (M.testBit j || decide (j ∈ ps))
 | [],M,j=>by show M.testBit j = _;simp
 | q :: ps,M,j=>by
  have hu : addL (q :: ps) M = addL ps (XS M q):=rfl;rw [hu,Qia ps,Zg]
  grind
theorem Qev {n : Nat} : ∀ {ps : List Nat} {listed : Array Bool} {M : Nat},Lm n listed M → (∀ q ∈ ps,q < n) → Lm n (Qj5 listed ps) (addL ps M)
 | [],_,_,h,_=>h
 | q :: ps,_,_,h,hq=>Qev (ps:=ps) (h.set (hq q (List.mem_cons_self ..))) fun p hp=>hq p (List.mem_cons_of_mem _ hp)
theorem Lm.perm {n : Nat} {listed : Array Bool} {M M' : Nat} (h : Lm n listed M) (e : ∀ j,M.testBit j = M'.testBit j) : Lm n listed M':=by
 have:=Nat.eq_of_testBit_eq e
 grind
section
variable {ops : List Oper} {fs : List (Nat × Inf)}
theorem Qhn (hf : Qct ops 0 ops = some fs) {F : Option Fin1} : ∀ (ps : List Nat) {listed : Array Bool} {M : Nat},Lm ops.length listed M → (∀ q ∈ ps,q < ops.length) → Qn9 (QB fs fs) F ps M = true → Qkp ⟨ops⟩ (Qdg F) listed ps
 | [],_,_,_,_,_=>trivial
 | q :: ps,listed,M,hl,hq,h=>by
  have hu : Qn9 (QB fs fs) F (q :: ps) M = (match Qb7 q (QB fs fs) with
   | some r=>Bool.rec (Bool.rec (Bool.rec (Qn9 (QB fs fs) F ps (XS M q)) false (isF F q)) false (Bool.not (YX r.need M))) false (has M q)
   | none=>false):=rfl
  rw [hu] at h;split at h
  ·rename_i r hr;obtain ⟨m1,rfl⟩:=ZF hr;cases h1 : has M r.i with
   | true=>rw [h1] at h;cases h
   | false=>
    rw [h1] at h;cases h2 : YX r.need M with
    | false=>rw [h2] at h;cases h
    | true=>
     rw [h2] at h;cases h3 : isF F r.i with
     | true=>rw [h3] at h;cases h
     | false=>
      rw [h3] at h;exact ⟨Qfv hf hl m1 h1 h2,QoB h3,Qhn hf ps (hl.set (hq _ (List.mem_cons_self ..))) (fun p hp=>hq p (List.mem_cons_of_mem _ hp)) h⟩
  ·cases h
theorem Qm8 (hf : Qct ops 0 ops = some fs) {listed : Array Bool} {M i j : Nat} (hl : Lm ops.length listed M) (hi : i < ops.length) (hj : j < ops.length) {F : Option Fin1} {ps : List Nat} (hps : ∀ q ∈ ps,q < ops.length) (h : Qqg (QB fs fs) F M i j ps = true) :
  i ∈ Region.ready .any ⟨ops⟩ listed ∧ j ∈ Region.ready .any ⟨ops⟩ listed ∧ (∀ q ∈ Region.ready .any ⟨ops⟩ listed,q = i ∨ q = j) ∧ Qkp ⟨ops⟩ (Qdg F) (listed.setIfInBounds i true) ps ∧ (Region.ready .any ⟨ops⟩ (Qj5 (listed.setIfInBounds i true) ps) == [j]) = true ∧ (Region.ready .any ⟨ops⟩ (listed.setIfInBounds j true) == [i]) = true ∧ Qkp ⟨ops⟩ (Qdg F) ((listed.setIfInBounds j true).setIfInBounds i true) ps:=by
 unfold Qqg at h;split at h
 ·rename_i ri rj h1 h2;obtain ⟨m1,rfl⟩:=ZF h1;obtain ⟨m2,rfl⟩:=ZF h2;simp only [Bool.and_eq_true,Bool.not_eq_true'] at h;obtain ⟨a1,a2,a3,a4,a5,a5',a6,a7,a8,a9,a10,a11,a12⟩:=h;have hne : ri.i ≠ rj.i:=fun e=>by rw [e,Nat.beq_refl] at a1;cases a1
  obtain ⟨oi,fi,e1,e2,e3,_,_⟩:=Qbd hf m1;obtain ⟨oj,fj,g1,g2,g3,_,_⟩:=Qbd hf m2;have b2:=a2;have b3':=a3;rw [Qag] at a2 a3;refine ⟨Qde hl e1 e2 a2 (by rw [← e3];exact a4),Qde hl g1 g2 a3 (by rw [← g3];exact a5),fun q hq=>?_,Qhn hf ps (hl.set hi) hps a11,?_,?_,Qhn hf ps ((hl.set hj).set hi) hps a12⟩
  ·obtain ⟨k1,o,k2,k3⟩:=mem_ready.1 hq;have k2' : ops[q]? = some o:=by simpa using k2
   obtain ⟨f,l1,l2⟩:=Qbw hf q o k2';rw [Nat.zero_add] at l2;have l3:=QeG a8 _ (Qcd (fs:=fs) l2);simp only [] at l3;cases hb : Nat.beq q ri.i with
   | true=>exact .inl (Nat.eq_of_beq_eq_true hb)
   | false=>
    rw [hb] at l3;cases hb2 : Nat.beq q rj.i with
    | true=>exact .inr (Nat.eq_of_beq_eq_true hb2)
    | false=>
     rw [hb2] at l3;have hql : q < ops.length:=by grind
     rw [hl.get hql] at k1;rw [Qag,k1] at l3
     grind [YX,Qe2]
  ·exact Qcq hf (Qev (hl.set hi) hps) m2 a5' a6 a9
  ·refine Qcq hf (hl.set hj) m1 ?_ a7 a10
   grind [Qag,Zg]
 ·cases h
end
section
variable {P : Program} {r0 : Rho} {w0 : World} {CF : CallF} {X : Ctx} {k : List KI} {ops : Array Oper}
theorem QkP {i : Nat} {dst : Option Nat} {op : Op} {ty : TypeId} {pos : String} {aft : Array Edge} {rest : DS} {Fs : List (List Nat)} {F : List Nat} {listed : Array Bool} {fuel : Nat} {s : Stp}
  (hsP : s.okP = true → (QJ ops listed i && onF F i) = true) (hsH : s.okH = true → (Region.ready .any ops listed == [i]) = true) (hsT : s.turn.isSome = F.contains i)
  (ih : Qgg P r0 w0 CF X k ops rest (if F.contains i then Fs.headD [] else F) fuel (listed.setIfInBounds i true))
  {j dj : Nat} {want : Bool} {u : Value} (ho : ops[i]? = some ⟨dst,op,ty,pos,aft,some (j,want)⟩) (hj : (ops[j]?).bind (·.dst) = some dj) {T : Tr Value} {H : Hp} {n : Nat} {R : List Nat} {B : List (Nat × HX)} {ρ : Rho} {L' : Qb} {As Bs : List HA} (hb : Qb.get L' dj = some u) (hw : u = .bool (!want) ∨ u = undef)
  (ht : QX r0 w0 ρ X k ((QqP X.n s dst rest).run CF T H n R)) (hs : StOk r0 w0 ρ ⟨T,H,n⟩ L' As) (hR : Qt (ha ρ) B = some Bs) (hB : XM H R B) : D X ops F (HS w0 [] (Bs ++ ρ.ex)) (fuel + 1) listed k L' (HS w0 [] As):=by
 unfold QqP at ht;split at ht
 ·rename_i d;cases hlt : Nat.blt d X.n with
  | false=>rw [hlt] at ht;exact ht.elim
  | true=>
   rw [hlt] at ht;simp only [cond_true] at ht;split at ht
   ·rename_i hok;replace hok:=hsP hok;rw [Bool.and_eq_true] at hok;have hfi:=Qkt hok.2;simp only [hfi,Bool.false_eq_true,if_false] at ih;have next : D X ops F (HS w0 [] (Bs ++ ρ.ex)) fuel (listed.setIfInBounds i true) k ((d,undef) :: L') (HS w0 [] As):=ih _ H n R B ρ _ As Bs ht ⟨hs.le,hs.sr.set QbM,hs.hp,hs.fr⟩ hR hB
    rcases hw with hw | hw
    ·subst hw;exact Qsd i dj ho hj hb rfl hok.1 hok.2 hlt next
    ·subst hw;exact QuC i dj ho hj hb hok.1 hok.2 hlt next
   ·split at ht
    ·rename_i y hr hturn
     have hfi : F.contains i = true:=by
      cases hfi : F.contains i with
      | true=>rfl
      | false=>rw [hturn,hfi] at hsT;cases hsT
     replace hr:=hsH hr;simp only [hfi,if_true] at ih;refine QtH dj ho hj hb hw hr (QbN (w0:=w0) ρ.le_refl hs.hp hR hB) hlt ?_;refine QkK (B':=HS w0 [] ([] ++ ρ.ex)) (F':=Fs.headD []) ⟨i,by simpa using hfi,Qgd hr⟩ ?_;exact ih _ H n [] [] ρ _ As [] ht ⟨hs.le,hs.sr.set QbM,hs.hp,hs.fr⟩ rfl trivial
    ·exact ht.elim
 ·exact ht.elim
end
section
variable {P : Program} {r0 : Rho} {w0 : World} {CF : CallF} {X : Ctx} {k : List KI} {ops : List Oper} {fs : List (Nat × Inf)}
theorem Qbt (hF : CallOk P r0 CF) (hP : X.P = P) (hf : Qct ops 0 ops = some fs) : ∀ (order : List It) (Fs : List Fin1) (F : Option Fin1) (listed : Array Bool) (M : Nat),Lm ops.length listed M → (∀ x ∈ order,Qq3 ops.length x) → QnI M order = 2 ^ ops.length - 1 → (∀ f,F = some f → QgC fs f) → (∀ f ∈ Fs,QgC fs f) → Qgg P r0 w0 CF X k ⟨ops⟩ (Qa7 P X.n ⟨ops⟩ (mkF (QB fs fs) Fs F M order)) (Qdg F) (Qmu order) listed
 | [],Fs,F,listed,M,hl,_,he,_,_=>fun T H n R B ρ L' As Bs ht hs hR hB=>by
  have he' : M = 2 ^ ops.length - 1:=he;subst he';exact Qsi (Qrw hl) (QbN ρ.le_refl hs.hp hR hB) (ht ρ L' As ρ.le_refl hs)
 | .two i j ps :: order,Fs,F,listed,M,hl,hlt,he,hFo,hFs=>by
  intro T H n R B ρ L' As Bs ht hs hR hB;obtain ⟨hi,hj,hps⟩:=hlt _ (List.mem_cons_self ..);have he' : QnI (XS (addL ps (XS M i)) j) order = 2 ^ ops.length - 1:=he;have ih:=Qbt hF hP hf order Fs F _ _ ((Qev (hl.set hi) hps).set hj) (fun x hx=>hlt x (List.mem_cons_of_mem _ hx)) he' hFo hFs
  have ih':=Qbt hF hP hf order Fs F _ _ ((Qev ((hl.set hj).set hi) hps).perm (M':=XS (addL ps (XS M i)) j) fun q=>by
   simp only [Qia,Zg];cases M.testBit q <;> cases decide (i = q) <;> cases decide (j = q) <;> cases decide (q ∈ ps) <;> rfl) (fun x hx=>hlt x (List.mem_cons_of_mem _ hx)) he' hFo hFs
  simp only [mkF,Qa7] at ht;split at ht
  ·rename_i oi oj e1 e2;exact QrG hF hP (Qm8 hf hl hi hj hps) ih ih' e1 e2 ht hs hR hB
  ·exact ht.elim
 | .one i :: order,Fs,F,listed,M,hl,hlt,he,hFo,hFs=>by
  intro T H n R B ρ L' As Bs ht hs hR hB;have hi : i < ops.length:=hlt _ (List.mem_cons_self ..);have he' : QnI (XS M i) order = 2 ^ ops.length - 1:=he
  have ih : Qgg P r0 w0 CF X k ⟨ops⟩ (Qa7 P X.n ⟨ops⟩ (mkF (QB fs fs) (Bool.rec Fs Fs.tail (isF F i)) (Bool.rec F Fs.head? (isF F i)) (XS M i) order)) (if (Qdg F).contains i then ((Fs.map fun f=>[f.i]).headD []) else Qdg F) (Qmu order) (listed.setIfInBounds i true):=by
   rw [Qdj];cases hc : isF F i with
   | false=>exact Qbt hF hP hf order Fs F _ _ (hl.set hi) (fun j hj=>hlt j (List.mem_cons_of_mem _ hj)) he' hFo hFs
   | true=>
    have:=Qbt hF hP hf order Fs.tail Fs.head? _ _ (hl.set hi) (fun j hj=>hlt j (List.mem_cons_of_mem _ hj)) he' (fun f e=>hFs f (List.mem_of_mem_head? (by rw [e];rfl))) (fun f e=>hFs f (List.mem_of_mem_tail e));cases Fs with
    | nil=>exact this
    | cons f Fs=>exact this
  obtain ⟨s1,s2,s3,s4⟩:=QnM (i:=i) hf hl hFo
  have s5 : (Qdb (QB fs fs) F M i).turn.isSome = (Qdg F).contains i:=by
   rw [QjN,Qdj];cases isF F i <;> rfl
  simp only [mkF,Qa7,s4] at ht;split at ht
  ·rename_i o ho;obtain ⟨dst,op,ty,pos,aft,guard⟩:=o;cases guard with
   | none=>exact Qph (Fs:=Fs.map fun f=>[f.i]) hF hP s1 s2 s3 s5 ih ho ht hs hR hB (.inl rfl)
   | some jw=>
    obtain ⟨j,want⟩:=jw;simp only [] at ht;split at ht
    ·rename_i dj hj;simp only [] at ht;split at ht
     ·rename_i b hb;obtain ⟨u,e1,e2⟩:=hs.sr.get (show en T dj = _ from hb);injection e2 with e2
      subst e2;cases hw : b == want with
      | true=>
       rw [hw] at ht;exact Qph (Fs:=Fs.map fun f=>[f.i]) hF hP s1 s2 s3 s5 ih ho ht hs hR hB (.inr ⟨j,want,dj,b,rfl,hj,e1,by simpa using hw⟩)
      | false=>
       rw [hw] at ht;exact QkP (Fs:=Fs.map fun f=>[f.i]) s1 s3 s5 ih ho hj e1 (.inl (by cases b <;> cases want <;> simp_all)) ht hs hR hB
     ·rename_i hb;obtain ⟨u,e1,e2⟩:=hs.sr.get (show en T dj = _ from hb);injection e2 with e2
      subst e2;exact QkP (Fs:=Fs.map fun f=>[f.i]) s1 s3 s5 ih ho hj e1 (.inr rfl) ht hs hR hB
     ·exact ht.elim
    ·exact ht.elim
  ·exact ht.elim
end
end Ev
namespace Ev
open Go Go.RowKit
def Qol (P : Program) (Z : FuncId → Bool) : Op → Bool
 | .alloc _=>true
 | .box _ _=>true
 | .store _ _ _=>true
 | .buildSlice _ _ _=>true
 | .makeSlice _ _ _=>true
 | .makeMap _ _=>true
 | .mapUpdate _ _ _ _=>true
 | .convert _ dst _=>match P.underlying dst with
  | some (.slice _)=>true
  | _=>false
 | .call ⟨.value (.func g),_,_⟩=>QM P g && !Z g
 | .call ⟨.value _,_,_⟩=>true
 | .call ⟨.builtin b,_,_⟩=>match b with
  | .append=>true
  | .copy=>true
  | .clear=>true
  | _=>false
 | _=>false
def isQ : Op → Bool
 | .load _ _=>true
 | .lookup _ _ _ _=>true
 | .convert _ _ _=>true
 | .call ⟨.value _,_,_⟩=>true
 | _=>false
noncomputable def at' (ops : List Oper) (i : Nat) : Option Oper:=List.rec (fun _=>none) (fun o _ ih i=>Nat.rec (some o) (fun j _=>ih j) i) ops i
noncomputable def QvT (P : Program) (Z : FuncId → Bool) (ops : List Oper) (M : Nat) (rows : List Row) : Option Nat:=List.rec none (fun r _ ih=>Bool.rec (Bool.rec ih (match at' ops r.i with
 | some o=>Bool.rec (some r.i) ih (Qol P Z o.op || isQ o.op)
 | none=>ih) (YX r.need M)) ih (has M r.i)) rows
noncomputable def QvO (P : Program) (Z : FuncId → Bool) (ops : List Oper) (M : Nat) (rows : List Row) : Option Nat:=List.rec none (fun r _ ih=>Bool.rec (Bool.rec ih (match at' ops r.i with
 | some o=>Bool.rec (some r.i) ih (Qol P Z o.op)
 | none=>ih) (YX r.need M)) ih (has M r.i)) rows
noncomputable def Qsf (P : Program) (Z : FuncId → Bool) (ops : List Oper) (M : Nat) (rows : List Row) : Option Nat:=match QvT P Z ops M rows with
 | some i=>some i
 | none=>QvO P Z ops M rows
noncomputable def Qtp (M : Nat) (rows : List Row) : Option Nat:=List.rec none (fun r _ ih=>Bool.rec (Bool.rec ih (some r.i) (YX r.em M)) ih (has M r.i)) rows
def isNw : Op → Bool
 | .makeMap _ none=>true
 | .alloc _=>true
 | _=>false
noncomputable def psR (P : Program) (Z : FuncId → Bool) (ops : List Oper) (rows : List Row) (f : Nat) : Nat → List Nat:=Nat.rec (fun _=>[]) (fun _ ih M=>match Qsf P Z ops M rows with
 | some i=>i :: ih (XS M i)
 | none=>[]) f
noncomputable def Qvh (P : Program) (Z : FuncId → Bool) (ops : List Oper) (allr : List Row) (M i : Nat) (ni : Bool) (rows : List Row) : Option It:=List.rec none (fun r _ ih=>Bool.rec (Bool.rec (Bool.rec ih (match at' ops r.i with
 | some o=>Bool.rec (Bool.rec ih (some (.two r.i i (psR P Z ops allr ops.length (XS M r.i)))) ni) (some (.two i r.i (psR P Z ops allr ops.length (XS M i)))) (isNw o.op)
 | none=>ih) (YX r.em M)) ih (has M r.i)) ih (Nat.beq r.i i)) rows
noncomputable def makR (P : Program) (Z : FuncId → Bool) (ops : List Oper) (rows : List Row) (M i : Nat) : It:=Bool.rec (match at' ops i with
 | some o=>(match Qvh P Z ops rows M i (isNw o.op) rows with
  | some x=>x
  | none=>.one i)
 | none=>.one i) (.one i) (Qim M i rows)
noncomputable def addI (M : Nat) : It → Nat
 | .one i=>XS M i
 | .two i j ps=>XS (addL ps (XS M i)) j
noncomputable def Qeb (P : Program) (Z : FuncId → Bool) (ops : List Oper) (rows : List Row) (f : Nat) : Nat → List It:=Nat.rec (fun _=>[]) (fun _ ih M=>match Qsf P Z ops M rows with
 | some i=>.one i :: ih (XS M i)
 | none=>(match Qtp M rows with
  | some i=>makR P Z ops rows M i :: ih (addI M (makR P Z ops rows M i))
  | none=>[])) f
noncomputable def Qkq (tm : Nat) (qs : List Nat) : Bool:=List.rec true (fun q _ ih=>Bool.rec false ih (has tm q)) qs
noncomputable def Qfa (P : Program) (Z : FuncId → Bool) (ops : List Oper) (fs : List (Nat × Inf)) (rows : List Row) (order : List It) : List Nat → List Fin1:=List.rec (fun _=>[]) (fun x _ ih qs=>match x with
 | .two _ _ _=>ih qs
 | .one i=>match at' ops i,Qb7 i rows with
 | some o,some r=>Bool.rec (ih (Bool.rec qs (i :: qs) (isQ o.op))) (Bool.rec (ih (Bool.rec qs (i :: qs) (isQ o.op))) (⟨i,Qea fs r.em⟩ :: ih []) (Qkq (Qea fs r.em) qs)) (Qol P Z o.op)
 | _,_=>ih qs) order
theorem Qaw {P : Program} {Z : FuncId → Bool} {ops : List Oper} {fs : List (Nat × Inf)} : ∀ (order : List It) (qs : List Nat),∀ f ∈ Qfa P Z ops fs (QB fs fs) order qs,QgC fs f
 | [],qs,f,h=>by cases h
 | .two _ _ _ :: order,qs,f,h=>Qaw order qs f h
 | .one i :: order,qs,f,h=>by
  have hu : Qfa P Z ops fs (QB fs fs) (.one i :: order) qs = (match at' ops i,Qb7 i (QB fs fs) with
   | some o,some r=>Bool.rec (Qfa P Z ops fs (QB fs fs) order (Bool.rec qs (i :: qs) (isQ o.op))) (Bool.rec (Qfa P Z ops fs (QB fs fs) order (Bool.rec qs (i :: qs) (isQ o.op))) (⟨i,Qea fs r.em⟩ :: Qfa P Z ops fs (QB fs fs) order []) (Qkq (Qea fs r.em) qs)) (Qol P Z o.op)
   | _,_=>Qfa P Z ops fs (QB fs fs) order qs):=rfl
  rw [hu] at h;split at h
  ·rename_i o r h1 h2;cases hk : Qol P Z o.op with
   | false=>rw [hk] at h;exact Qaw order _ f h
   | true=>
    rw [hk] at h;cases hh : Qkq (Qea fs r.em) qs with
    | false=>rw [hh] at h;exact Qaw order _ f h
    | true=>
     rw [hh] at h;rcases List.mem_cons.1 h with rfl | h
     ·obtain ⟨g1,g2⟩:=ZF h2;exact ⟨r,g1,g2,rfl⟩
     ·exact Qaw order _ f h
  ·exact Qaw order _ f h
noncomputable def ltI (n : Nat) : It → Bool
 | .one i=>Nat.blt i n
 | .two i j ps=>Nat.blt i n && (Nat.blt j n && ps.all fun q=>Nat.blt q n)
noncomputable def Qje (n : Nat) (l : List It) : Bool:=List.rec true (fun i _ ih=>Bool.rec false ih (ltI n i)) l
theorem Qgo {n : Nat} : ∀ {l : List It},Qje n l = true → ∀ i ∈ l,Qq3 n i
 | a :: l,h,i,hi=>by
  have hu : Qje n (a :: l) = (Bool.rec false (Qje n l) (ltI n a) : Bool):=rfl;rw [hu] at h;cases hb : ltI n a with
  | false=>rw [hb] at h;cases h
  | true=>
   rw [hb] at h;rcases List.mem_cons.1 hi with rfl | hi
   ·cases i with
    | one i=>simpa [ltI,Qq3,Nat.blt_eq] using hb
    | two i j ps=>simpa [ltI,Qq3,Nat.blt_eq] using hb
   ·exact Qgo h i hi
 | [],_,i,hi=>by cases hi
noncomputable def Qqk (P : Program) (Z : FuncId → Bool) (nt : Nat) : Array Oper → CS
 | ⟨ops⟩=>match Qct ops 0 ops with
  | some fs=>Bool.rec noC (match Qfa P Z ops fs (QB fs fs) (Qeb P Z ops (QB fs fs) ops.length 0) [] with
    | []=>⟨fun F T H n=>(Qa7 P nt ⟨ops⟩ (mkF (QB fs fs) [] none 0 (Qeb P Z ops (QB fs fs) ops.length 0))).run F T H n []⟩
    | f :: Fs=>⟨fun F T H n=>(Qa7 P nt ⟨ops⟩ (mkF (QB fs fs) Fs (some f) 0 (Qeb P Z ops (QB fs fs) ops.length 0))).run F T H n []⟩)
   (Nat.beq (Qmu (Qeb P Z ops (QB fs fs) ops.length 0)) ops.length && (Nat.beq (QnI 0 (Qeb P Z ops (QB fs fs) ops.length 0)) (2 ^ ops.length - 1) && Qje ops.length (Qeb P Z ops (QB fs fs) ops.length 0)))
  | none=>noC
theorem QpC {P : Program} {Z : FuncId → Bool} (hm : P.follows .mixedOrders = true) : QjR P (Qqk P Z):=by
 intro l id r0 w0 X k F T H n ρ L' As hP hF ht hs;unfold Qqk at ht;simp only [] at ht;split at ht
 ·rename_i fs hf;cases hc : (Nat.beq (Qmu (Qeb P Z l (QB fs fs) l.length 0)) l.length && (Nat.beq (QnI 0 (Qeb P Z l (QB fs fs) l.length 0)) (2 ^ l.length - 1) && Qje l.length (Qeb P Z l (QB fs fs) l.length 0))) with
  | false=>rw [hc] at ht;exact ht.elim
  | true=>
   rw [hc] at ht;simp only [Bool.and_eq_true] at hc;have hlen:=Nat.eq_of_beq_eq_true hc.1
   have key : ∀ (Fs : List Fin1) (F' : Option Fin1),(∀ f,F' = some f → QgC fs f) → (∀ f ∈ Fs,QgC fs f) → QX r0 w0 ρ X k ((Qa7 P X.n ⟨l⟩ (mkF (QB fs fs) Fs F' 0 (Qeb P Z l (QB fs fs) l.length 0))).run F T H n []) → S X (.c (.region id ⟨l⟩ true) :: k) L' (HS w0 [] As):=by
    intro Fs F' h1 h2 h;refine QlW ([] ++ ρ.ex) (Qdg F') (by rw [hP];exact hm) ?_;have:=Qbt (w0:=w0) (k:=k) hF hP hf (Qeb P Z l (QB fs fs) l.length 0) Fs F' (Array.replicate l.length false) 0 (Lm.start _) (Qgo hc.2.2) (Nat.eq_of_beq_eq_true hc.2.1) h1 h2 T H n [] [] ρ L' As [] h hs rfl trivial;rw [hlen] at this;exact this
   split at ht <;> grind [Qaw,Qeb,QB]
 ·exact ht.elim
def extCS (c : Nat) : FuncId → List Value → Option Value:=fun f vs=>match vs with
 | [.string ⟨⟨a⟩⟩,.string ⟨⟨b⟩⟩]=>bif Nat.beq f c then some (.int .i64 (XC a b)) else none
 | _=>none
theorem extCS_ok {P : Program} {c : Nat} (hc : Qua P c) : QiQ P (extCS c):=by
 intro f vs v h w0 ρ us As hvs o L' args ts ho hev;unfold extCS at h;split at h
 ·rename_i a b;obtain ⟨h1,rfl⟩:=Qq h;have hf:=Nat.eq_of_beq_eq_true h1;subst hf;injection hvs with hvs
  subst hvs
  obtain ⟨x,y,hxy,hx,hy⟩ : ∃ x y,args.toList = [x,y] ∧ Gx.ev L' x = some (.string (bs a)) ∧ Gx.ev L' y = some (.string (bs b)):=by
   match hl : args.toList with
   | []=>rw [hl] at hev;cases hev
   | [x]=>grind [evs]
   | [x,y]=>
    rw [hl] at hev;simp only [evs] at hev;split at hev
    ·rename_i v vs h1 h2;split at h2
     ·rename_i v' vs' h3 h4;injection h4 with h4
      injection h2 with h2
      subst h4 h2;injection hev with hev
      injection hev with e1 e2
      injection e2 with e2 e3
      subst e1 e2;exact ⟨x,y,rfl,h1,h3⟩
     ·cases h2
    ·cases hev
   | x :: y :: z :: r=>grind [evs]
  rw [QcM hxy] at ho;exact ⟨_,rfl,QdL ho hx hy hc⟩
 ·cases h
noncomputable def noK (e : FuncId → List Value → Option Value) : CallF:=⟨fun _ _ _ _ _=>none,e,noY⟩
theorem ev_run {P : Program} {K : CallF} {Z : FuncId → Bool} {m f : Nat} {g : FuncId} {vs : List Value} {v : Value} (hK : KnOk P K) (hm : P.follows .mixedOrders = true) (hvs : Xe vs = true) (hv : flat v = true) (h : (match (evF P K Z m (Qqk P Z) f).f noY g vs .lf 0 with
  | some r=>some r.1
  | none=>none) = some v) : ∀ w,Calls P g vs.toArray w (fun e w'=>e = .returned v ∧ HS w [] [] w'):=by
 intro w;split at h
 ·rename_i r hr;injection h with h
  subst h;obtain ⟨v,H',n'⟩:=r
  have:=((QpX (Z:=Z) (m:=m) hK (QpC hm) f ⟨fun _=>none,[]⟩).f _ _ Qcs) g vs .lf 0 v H' n' hr w ⟨fun _=>none,[]⟩ vs [] (Rho.le_refl _) (Xi (fun a b e=>Qb0 (QaC e)) (XO hvs)) ⟨[],[],(fun m r hm=>by
   have h' : Yx (pth m) m (.lf : Hp) = some r:=hm;rw [YI] at h';cases h'),rfl,rfl⟩ (fun _ _=>rfl) w (HS.refl w [])
  refine Calls.mono this fun e w' ⟨ρ',As',u,h1,h2,h3,h4,h5,h6⟩=>?_;rw [Qal hv] at h3;injection h3 with h3
  subst h3;exact ⟨h5,h6.sub (List.nil_sublist _)⟩
 ·cases h
end Ev
namespace Ev
open Go Go.RowKit
def InsC (P : Program) (f e sz by' : Nat) : Prop:=∀ (w : World) (a : Option Addr) (i n m cap : Nat) (xs news : List Value) (b0 c0 tot2 : Nat),HS w (fps [.own (.slice a n cap) e sz n xs,.blk b0 e tot2 news]) [.own (.slice a n cap) e sz n xs,.blk b0 e tot2 news] w → 0 < m → news.length = m * sz → (∀ u ∈ news,u.oneCell' = true) → (∀ u ∈ xs,u.oneCell' = true) → (n + m) * by' ≤ 140737488355328 → i ≤ n →
 Calls P f #[.slice a n cap,.int .i64 (i : Int),.slice (some ⟨b0,0,none⟩) m c0] w fun en w'=>∃ g : Option Addr × Nat,en = .returned (.slice g.1 (n + m) g.2) ∧ True ∧ HS w (fps [.own (.slice a n cap) e sz n xs,.blk b0 e tot2 news]) [.own (.slice g.1 (n + m) g.2) e sz (n + m) (xs.take (i * sz) ++ news ++ xs.drop (i * sz)),.blk b0 e tot2 news] w'
noncomputable def Qu7 (e sz by' : Nat) (H : Hp) (n : Nat) : List Value → Option (Value × Hp × Nat)
 | [.slice none l c,.int .i64 (.ofNat i),.slice (some ⟨q,0,_⟩) m _]=>match Yl H q with
  | some rq=>bif (Nat.beq rq.ty e && (Nat.beq rq.cs.length (m * sz) && (Nat.blt 0 m && Nat.ble i l))) && ((Nat.beq l 0 && Nat.beq c 0) && Nat.ble ((l + m) * by') 140737488355328) then some (.slice (some ⟨n,0,none⟩) (l + m) (l + m),XZ H n ⟨e,sz,rq.cs⟩,n + 1) else none
  | none=>none
 | [.slice (some ⟨p,0,none⟩) l c,.int .i64 (.ofNat i),.slice (some ⟨q,0,_⟩) m _]=>match Yl H p,Yl H q with
  | some r,some rq=>bif (Nat.beq rq.ty e && (Nat.beq rq.cs.length (m * sz) && (Nat.blt 0 m && Nat.ble i l))) && ((!Nat.beq q p && (Nat.beq r.ty e && (Nat.beq r.sz sz && (Nat.beq r.cs.length (c * sz) && Nat.blt 0 sz)))) && ((Nat.ble l c && Nat.ble c maxLen) && Nat.ble ((l + m) * by') 140737488355328)) then some (.slice (some ⟨n,0,none⟩) (l + m) (l + m),XZ (QgU H p) n ⟨e,sz,(r.cs.take (l * sz)).take (i * sz) ++ rq.cs ++ (r.cs.take (l * sz)).drop (i * sz)⟩,n + 1) else none
  | _,_=>none
 | _=>none
noncomputable def QrA : List (Nat × Nat × Nat × Nat) → Qjo
 | [],_,_,_,_=>none
 | (f,e,sz,by') :: l,g,vs,H,n=>bif Nat.beq g f then Qu7 e sz by' H n vs else QrA l g vs H n
theorem Qn5 {ρ : Rho} {p o l c : Nat} {u : Value} (h : den ρ (.slice (some ⟨p,o,none⟩) l c) = some u) : ∃ b d,ρ p = some (b,d) ∧ u = .slice (some ⟨b,o,none⟩) l (c + d):=by grind [den,Xq,QP,XJ]
theorem QkJ {ρ : Rho} {p o l c : Nat} {q : Option Nat} {u : Value} (h : den ρ (.slice (some ⟨p,o,q⟩) l c) = some u) : ∃ b d c',ρ p = some (b,d) ∧ u = .slice (some ⟨b,o,none⟩) l c':=by cases q <;> grind [Qn5,den,Xq,QP,XJ]
theorem ZG {α β : Type} {f : α → Option β} {a : α} {l : List α} {m : List β} (h : Qt f (a :: l) = some m) : ∃ b m',f a = some b ∧ Qt f l = some m' ∧ m = b :: m':=by grind [Qt]
theorem QrS {P : Program} {f e sz by' : Nat} (hI : InsC P f e sz by') {vs : List Value} {H : Hp} {n : Nat} {v : Value} {H' : Hp} {n' : Nat} (h : Qu7 e sz by' H n vs = some (v,H',n')) (w0 : World) (ρ : Rho) (us : List Value) (As : List HA) (hus : Qt (den ρ) vs = some us) (hH : HM ρ H As) (hf : QN ρ n) (w : World) (hw : HS w0 [] As w) : Calls P f us.toArray w (QlM w0 ρ v H' n'):=by
 unfold Qu7 at h;split at h
 ·rename_i l c i q x m y;obtain ⟨u1,m1,d1,hus1,rfl⟩:=ZG hus;obtain ⟨u2,m2,d2,hus2,rfl⟩:=ZG hus1;obtain ⟨u3,m3,d3,hus3,rfl⟩:=ZG hus2;cases hus3;cases d1;cases d2;obtain ⟨b0,d0,c0,e1,rfl⟩:=QkJ d3;split at h
  ·rename_i rq hq;obtain ⟨hc,he⟩:=Qq h
   clear h
   simp only [Bool.and_eq_true] at hc;obtain ⟨⟨k1,k2,k3,k4⟩,⟨k5,k6⟩,k7⟩:=hc;have hl0:=Nat.eq_of_beq_eq_true k5;have hc0:=Nat.eq_of_beq_eq_true k6;have hi0 : i = 0:=by have:=Nat.le_of_ble_eq_true k4;omega
   have hty:=Nat.eq_of_beq_eq_true k1;subst hl0 hc0 hi0 hty;injection he with h1 h2
   injection h2 with h2 h3
   subst h1 h2 h3;obtain ⟨b,d,cu,Rs,g1,g2,g3,g4,_,_⟩:=XY hH hq;rw [g1] at e1;injection e1 with e1
   injection e1 with e1 e3
   subst e1 e3;have hw2:=((hw.perm g4.perm).own_nil rq.ty sz);have hlen : cu.length = m * sz:=by rw [Q6 g2];exact Nat.eq_of_beq_eq_true k2
   have hfoc:=HS.focus (Cs:=[.own (.slice none 0 0) rq.ty sz 0 [],.blk b rq.ty (cu.length + d * rq.sz) cu]) (Ds:=Rs) hw2;refine Calls.mono (hI w none 0 0 m 0 [] cu b c0 _ hfoc (by simpa [Nat.blt_eq] using k3) hlen (List.all_eq_true.1 (YD g2)) (fun _ h=>by cases h) (Nat.le_of_ble_eq_true k7) (Nat.le_refl _)) fun en w' ⟨g,h1,_,h2⟩=>?_;have h3:=HS.callM (Cs:=[.own (.slice none 0 0) rq.ty sz 0 [],.blk b rq.ty (cu.length + d * rq.sz) cu]) (As:=Rs) hw2 (fun b hb=>by obtain ⟨A,hA,hb⟩:=List.mem_flatMap.1 hb;exact ⟨A,hA,hb⟩) h2;have hpos : 0 < 0 + m:=by simpa [Nat.blt_eq] using k3
   obtain ⟨gg,ga,_,hn,hcm,hxl,h4⟩:=h3.own_blk hpos .here;have h5 : HS w0 [] (.blk gg rq.ty (g.2 * sz) ([].take (0 * sz) ++ cu ++ [].drop (0 * sz)) :: As) w':=h4.perm (.cons _ g4.perm.symm);obtain ⟨ρ',As',o1,o2,o3,o4,o5⟩:=QcK (w0:=w0) (e:=rq.ty) (sz:=sz) (k:=0) (m:=m) (g:=(gg,g.2)) (xs:=cu) ⟨As,hH,.refl _⟩ hf g2 hn hcm (by rw [hlen,Nat.zero_add]);refine ⟨ρ',As',_,o1,o2,o3,o4,?_,o5 _ (by simpa using h5)⟩;rw [h1,ga]
  ·cases h
 ·rename_i p l c i q x m y;obtain ⟨u1,m1,d1,hus1,rfl⟩:=ZG hus;obtain ⟨u2,m2,d2,hus2,rfl⟩:=ZG hus1;obtain ⟨u3,m3,d3,hus3,rfl⟩:=ZG hus2;cases hus3;cases d2;obtain ⟨b9,d9,e9,rfl⟩:=Qn5 d1;obtain ⟨b0,d0,c0,e1,rfl⟩:=QkJ d3;split at h
  ·rename_i r rq hp hq;obtain ⟨hc,he⟩:=Qq h
   clear h
   simp only [Bool.and_eq_true] at hc;obtain ⟨⟨k1,k2,k3,k4⟩,⟨k5,k6,k7,k8,k9⟩,⟨k10,k11⟩,k12⟩:=hc;have hty:=Nat.eq_of_beq_eq_true k1;have hty2:=Nat.eq_of_beq_eq_true k6;have hsz2:=Nat.eq_of_beq_eq_true k7;have hlenr:=Nat.eq_of_beq_eq_true k8;have hsz0 : 0 < sz:=by simpa [Nat.blt_eq] using k9
   have hlc:=Nat.le_of_ble_eq_true k10;have hcm:=Nat.le_of_ble_eq_true k11;have hqp : q ≠ p:=fun h=>by subst h;simp [Nat.beq_refl] at k5
   injection he with h1 h2
   injection h2 with h2 h3
   subst h1 h2 h3;obtain ⟨b,d,rs,Rs,g1,g2,g3,g4,_,As3,g6,g7⟩:=XY hH hp;rw [g1] at e9;injection e9 with e9
   injection e9 with e9 e3
   subst e9 e3;obtain ⟨b',d',cu,Rs2,f1,f2,f3,f4,_,_⟩:=XY g6 (by unfold Yl;rw [Qbk hqp];exact hq);rw [f1] at e1;injection e1 with e1
   injection e1 with e1 e3
   subst e1 e3;have hlr:=Q6 g2
   have hcd : c + d ≤ maxLen:=by
    unfold room at g3;rcases g3 with g3 | g3
    ·omega
    ·rw [hlenr,hsz2,← Nat.add_mul] at g3;exact Nat.le_of_mul_le_mul_right g3 hsz0
   have htot : rs.length + d * r.sz = (c + d) * sz:=by rw [hlr,hlenr,hsz2,Nat.add_mul]
   rw [hty2,htot] at g4;rw [hty] at f4;have hw2:=HS.to_own (n:=l) g4 hw (List.take_append_drop (l * sz) rs).symm (by rw [List.length_take,hlr,hlenr];exact Nat.min_eq_left (Nat.mul_le_mul_right _ hlc)) (by omega) hcd;have hw3:=hw2.perm (.cons _ (g7.trans f4.perm));have hlen : cu.length = m * sz:=by rw [Q6 f2];exact Nat.eq_of_beq_eq_true k2
   have hfoc:=HS.focus (Cs:=[.own (.slice (some ⟨b,0,none⟩) l (c + d)) e sz l (rs.take (l * sz)),.blk b' e (cu.length + d' * rq.sz) cu]) (Ds:=Rs2) hw3;have hone:=List.all_eq_true.1 (YD g2);refine Calls.mono (hI w _ i l m (c + d) (rs.take (l * sz)) cu b' c0 _ hfoc (by simpa [Nat.blt_eq] using k3) hlen (List.all_eq_true.1 (YD f2)) (fun u hu=>hone u (List.mem_of_mem_take hu)) (Nat.le_of_ble_eq_true k12) (Nat.le_of_ble_eq_true k4)) fun en w' ⟨g,h1,_,h2⟩=>?_;have h3:=HS.callM (Cs:=[.own (.slice (some ⟨b,0,none⟩) l (c + d)) e sz l (rs.take (l * sz)),.blk b' e (cu.length + d' * rq.sz) cu]) (As:=Rs2) hw3 (fun b hb=>by obtain ⟨A,hA,hb⟩:=List.mem_flatMap.1 hb;exact ⟨A,hA,hb⟩) h2
   have hpos : 0 < l + m:=by
     have : 0 < m:=by simpa [Nat.blt_eq] using k3
     omega
   obtain ⟨gg,ga,_,hn,hcm2,hxl,h4⟩:=h3.own_blk hpos .here;have h5 : HS w0 [] (.blk gg e (g.2 * sz) ((rs.take (l * sz)).take (i * sz) ++ cu ++ (rs.take (l * sz)).drop (i * sz)) :: As3) w':=h4.perm (.cons _ f4.perm.symm);have hcells : Qt (QP ρ) ((r.cs.take (l * sz)).take (i * sz) ++ rq.cs ++ (r.cs.take (l * sz)).drop (i * sz)) = some ((rs.take (l * sz)).take (i * sz) ++ cu ++ (rs.take (l * sz)).drop (i * sz)):=Zl (Zl (XG _ (XG _ g2)) f2) (Ys _ (XG _ g2));obtain ⟨ρ',As',o1,o2,o3,o4,o5⟩:=QcK (w0:=w0) (e:=e) (sz:=sz) (k:=l) (m:=m) (g:=(gg,g.2)) ⟨As3,g6,.refl _⟩ hf hcells hn hcm2 hxl;refine ⟨ρ',As',_,o1,o2,o3,o4,?_,o5 _ h5⟩;rw [h1,ga]
  ·cases h
 ·cases h
theorem Ql4 {P : Program} {r0 : Rho} : ∀ {l : List (Nat × Nat × Nat × Nat)},(∀ x ∈ l,InsC P x.1 x.2.1 x.2.2.1 x.2.2.2) → QiO P r0 (QrA l)
 | [],_=>fun _ _ _ _ _ _ _ h=>by cases h
 | (f,e,sz,by') :: l,hl=>by
  intro g vs H n v H' n' h;simp only [QrA] at h;cases hb : Nat.beq g f with
  | true=>
   rw [hb] at h;have hg:=Nat.eq_of_beq_eq_true hb;subst hg;exact fun w0 ρ us As _ hus hH hf w hw=>QrS (hl _ (List.mem_cons_self ..)) h w0 ρ us As hus hH hf w hw
  | false=>
   rw [hb] at h;exact Ql4 (fun x hx=>hl x (List.mem_cons_of_mem _ hx)) g vs H n v H' n' h
noncomputable def knI (l : List (Nat × Nat × Nat × Nat)) (e : FuncId → List Value → Option Value) : CallF:=⟨fun _=>QrA l,e,noY⟩
theorem knI_ok {P : Program} {l : List (Nat × Nat × Nat × Nat)} {e : FuncId → List Value → Option Value} (h : ∀ x ∈ l,InsC P x.1 x.2.1 x.2.2.1 x.2.2.2) (he : QiQ P e) : KnOk P (knI l e):=⟨fun r1 _=>Ql4 h,he⟩
end Ev
end Gx
namespace Go.Proofs
open Go Go.RowKit Gx
theorem Quz : Ev.InsC Tryz.prog 165 27 2 32:=fun w a i n m cap xs news b0 c0 tot2=>c165 w a i n m cap xs news b0 c0 tot2
theorem QtW : Ev.InsC Tryz.prog 249 3 1 8:=fun w a i n m cap xs news b0 c0 tot2=>c249 w a i n m cap xs news b0 c0 tot2
set_option maxRecDepth 1000000 in
theorem c11 (w : World) : Calls Tryz.prog 11 #[] w fun en w'=>en = .returned (.bool true) ∧ Below w.heap.size w w':=by
  have h:=Ev.ev_run (P:=Tryz.prog) (K:=Ev.knI [(165,27,2,32),(249,3,1,8)] (Ev.extCS 254)) (Z:=fun g=>Ev.memN g [127]) (m:=1000) (f:=60) (g:=11) (vs:=[]) (v:=.bool true) (Ev.knI_ok (fun x hx=>by
    rcases List.mem_cons.1 hx with rfl | hx
    · exact Quz
    · rcases List.mem_cons.1 hx with rfl | hx
      · exact QtW
      · cases hx) (Ev.extCS_ok QoH)) QV rfl rfl (by kernel_rfl) w
  refine Calls.mono h ?_
  intro en w' hh
  obtain ⟨h1,h2⟩:=hh
  exact ⟨h1,HS.below h2⟩
end Go.Proofs
namespace Go.Proofs
open Go Go.RowKit Gx
attribute [local irreducible] Go.Calls Gx.S Gx.O Gx.D Gx.OpP Gx.OpQ Gx.OpH
set_option maxRecDepth 20000
instance : TFn Tryz.prog 11:=⟨by kernel_rfl⟩
instance : TFn Tryz.prog 28:=⟨by kernel_rfl⟩
instance : TFn Tryz.prog 31:=⟨by kernel_rfl⟩
end Go.Proofs
namespace Gx
open Go Go.RowKit
section
variable {P : Program} {o : Oper} {L : Qb} {w0 : World} {M : List Nat} {As As' : List HA}
theorem Qfz {dt st by' m cd b tot i : Nat} {d s : Operand} {ad : Option Addr} {bt : TypeId} {x l : List UInt8} {e : TypeId} (ho : o.op = .call { callee:=.builtin .copy,args:=#[d,s],argTypes:=#[dt,st] }) (hd : Gx.ev L d = some (.slice ad m cd)) (ha : 0 < m → ad = some ⟨b,i,none⟩) (hx : Gx.ev L s = some (.string (bs l))) (ht : tsl P dt = some (e,1,by'))
  (hp : Put As (.blk b bt tot (x.map bv)) (.blk b bt tot ((QC x i l).map bv)) As') (hm0 : 0 < m) (hk : l.length ≤ m) (hr : i + l.length ≤ x.length) :
  OpH P o L (HS w0 M As) (fun _ : Unit=>.int .i64 (l.length : Int)) (fun _=>True) (fun _=>HS w0 M As'):=by
 rw [ha hm0] at hd;intro ρ w hρ hw;obtain ⟨hu,inf,hi,hs1,hs2⟩:=QW ht;have hsz : (Go.sizeOf e).run P w = .ok 1 w:=by simp [Go.sizeOf,typeInfo,hi,hs1]
 have hfc : (Builtin.firstCells 1 l.length (.string (bs l))).run P w = .ok (l.map bv).toArray w:=by
  have hx : (bs l).extract 0 l.length = bs l:=(Qgb _).trans (congrArg bs (by rw [Lib.extract_data];simp));simp only [Builtin.firstCells,hx,Sem.run_pure];congr 1;simp [bs,bv]
 have hbl : (bs l).size = l.length:=rfl;have hk' : Nat.min l.length m = l.length:=Nat.min_eq_left hk;obtain ⟨Rs,h3,h4⟩:=hp.ex;have hpk:=hw.pick h3;obtain ⟨w',hst,hb,r1,r2,r3,r4,r5⟩:=Xt (P:=P) (l.map bv) 0 (x.map bv) w hpk.head (by simpa using hr) (Qky l) (i:=i)
 have he : (Builtin.copy_ #[dt,st] o.type #[.slice (some ⟨b,i,none⟩) m cd,.string (bs l)]).run P w = .ok (.int .i64 (l.length : Int)) w':=by
  unfold Builtin.copy_;simp [run_underlying hu,Builtin.lenOf,hbl,hk',hsz,hfc,goInt,hst]
 have hcs : Qe (x.map bv) i (l.map bv) = (QC x i l).map bv:=by
  rw [ZT _ _ _ (by simpa using hr),QC];simp only [List.map_append,List.map_take,List.map_drop,List.length_map]
 simp only [execOp,ho,resolve,Sem.run_bind,Sem.run_pure,Result.andThen_ok,invoke,builtin,List.map_toArray,List.map_cons,List.map_nil,hρ _ _ hd,hρ _ _ hx,he];exact ⟨(),rfl,trivial,(HS.swap hpk (B:=.blk b bt tot ((QC x i l).map bv)) (fun _ h=>h) r1 r2 r3 r4 (fun k hk=>r5 k (by simpa [HA.fp_blk] using hk)) (show QO b bt tot ((QC x i l).map bv) w' by rw [← hcs];simpa using hb)).perm h4⟩
end
theorem Qpp (s : List UInt8) : Value.int .i64 (bits .or .i64 (IntKind.i64.wrap ((s.getD 0 0).toNat : Int)) (IntKind.i64.wrap (IntKind.i64.wrap ((s.getD 1 0).toNat : Int) * 2 ^ 8))) = .int .i64 ((ub2 s 0 : Nat) : Int):=by
 have ha:=(s.getD 0 0).toNat_lt;have hb:=(s.getD 1 0).toNat_lt;have e2 : IntKind.i64.wrap ((s.getD 1 0).toNat : Int) = (((s.getD 1 0).toNat : Nat) : Int):=IntWalk.i64_in _ ⟨by omega,by omega⟩;have e1 : IntKind.i64.wrap ((s.getD 0 0).toNat : Int) = (((s.getD 0 0).toNat : Nat) : Int):=IntWalk.i64_in _ ⟨by omega,by omega⟩;have e3 : (((s.getD 1 0).toNat : Nat) : Int) * 2 ^ 8 = ((256 * (s.getD 1 0).toNat : Nat) : Int):=by omega
 have e4 : IntKind.i64.wrap ((256 * (s.getD 1 0).toNat : Nat) : Int) = ((256 * (s.getD 1 0).toNat : Nat) : Int):=IntWalk.i64_in _ ⟨by omega,by omega⟩;rw [e2,e1,e3,e4,Qm5 _ _ (by omega) (by omega),QrR _ _ (by omega)]
 grind [ub2,ub1]
def trL : List UInt8 → List UInt8
 | []=>[]
 | b :: l=>if b = 0 then trL l else b :: l
def trR (s : List UInt8) : List UInt8:=(trL s.reverse).reverse
theorem QpZ : ∀ s : List UInt8,(trL s).length ≤ s.length
 | []=>Nat.le_refl _
 | b :: l=>by
  unfold trL;split
  ·exact Nat.le_succ_of_le (QpZ l)
  grind
theorem Quw (s : List UInt8) : (trR s).length ≤ s.length:=by grind [QpZ,trR]
theorem Qly : ∀ s : List UInt8,trL s = [] ↔ zer s = true
 | []=>⟨fun _=>rfl,fun _=>rfl⟩
 | b :: l=>by
  unfold trL zer;rw [List.all_cons];split
  ·simp_all [Qly,zer]
  grind
theorem QlA (s : List UInt8) : zer s.reverse = zer s:=by unfold zer;rw [List.all_reverse]
theorem Qh6 : ∀ s : List UInt8,zer (trL s) = zer s
 | []=>rfl
 | b :: l=>by
  unfold trL;split
  ·rename_i h;rw [Qh6 l];simp [zer,h]
  ·rfl
theorem Qn4 (s : List UInt8) : trL (trR s) = [] ↔ zer s = true:=by
 unfold trR;rw [Qly,QlA,Qh6,QlA]
theorem QhX {s : List UInt8} (h0 : 0 < s.length) (h : s.getD 0 0 = 0) : trL (s.drop 1) = trL s:=by
 match s,h0,h with
 | b :: l,_,h=>grind [trL]
theorem Qjt {s : List UInt8} (h : ¬ (0 < s.length ∧ s.getD 0 0 = 0)) : trL s = s:=by
 match s,h with
 | [],_=>rfl
 | b :: l,h=>grind [trL]
theorem QiS (s : List UInt8) (h0 : 0 < s.length) : s.reverse.getD 0 0 = s.getD (s.length - 1) 0:=by grind
theorem Qqp {s : List UInt8} (h0 : 0 < s.length) (h : s.getD (s.length - 1) 0 = 0) : trR (s.take (s.length - 1)) = trR s:=by
 unfold trR;rw [List.reverse_take,show s.length - (s.length - 1) = 1 by omega,QhX (by simpa using h0) (by rw [QiS s h0];exact h)]
theorem Qnj {s : List UInt8} (h : ¬ (0 < s.length ∧ s.getD (s.length - 1) 0 = 0)) : trR s = s:=by grind [trR,Qjt,QiS]
def X5 (s : List UInt8) (k : Nat) : List Int:=((List.range k).filter (Qat s)).map fun i=>((i : Nat) : Int)
theorem QjE {s : List UInt8} {k : Nat} (h : Qat s k = true) : X5 s (k + 1) = X5 s k ++ [(k : Int)]:=by
 unfold X5;rw [List.range_succ,List.filter_append,List.map_append];simp [h]
theorem QmH {s : List UInt8} {k : Nat} (h : Qat s k = false) : X5 s (k + 1) = X5 s k:=by
 unfold X5;rw [List.range_succ,List.filter_append,List.map_append];simp [h]
theorem Qka (s : List UInt8) (k : Nat) : (X5 s k).length ≤ k:=by grind [X5]
theorem Qgv {s : List UInt8} : 0 < (X5 s 8).length ↔ Xr s = true:=by simp_all [X5,Xr,Qat]
theorem Qhj {s : List UInt8} {p : Nat} (h : p + 2 ≤ s.length) : ub2 (Ql s p 2) 0 = ub2 s p:=QuZ (s:=s) (p:=p) (n:=2) (j:=0) (by omega)
theorem Qr2 {s : List UInt8} {p q : Nat} (hp : p + 2 ≤ s.length) (hq : q + 2 ≤ s.length) : Ql s p 2 = Ql s q 2 ↔ ub2 s p = ub2 s q:=by
 constructor
 ·grind [Qhj]
 ·intro h;obtain ⟨h1,h2⟩:=Qil h;apply List.ext_getElem?;intro j;rcases Nat.lt_or_ge j 2 with hj | hj
  ·grind [Zd,QjM]
  grind [Ql]
theorem QgB {s : List UInt8} {i : Nat} (hs : s.length = 512) (hi : i < 8) : Qat s i = true ↔ (ub2 s 40 = 0 ∨ Ql s (tlA i) 2 ≠ Ql s 40 2):=by grind [Qat,Qr2,tlA]
theorem Qi0 (c : Nat) : Xv [.int .u8 0] (c * 1) = (List.replicate c (0 : UInt8)).map bv:=by
 rw [Nat.mul_one,List.map_replicate];exact Qe8 _ _
theorem QlG {x l : List UInt8} {i : Nat} (h : i + l.length ≤ x.length) : Qe (x.map bv) i (l.map bv) = (QC x i l).map bv:=by simp_all [ZT,QC]
theorem Z7 {s : List UInt8} {p q n : Nat} (h : q = p + n) : (s.take q).drop p = Ql s p n:=by
 subst h;rw [List.drop_take,Nat.add_sub_cancel_left,Ql]
theorem QI {s : List UInt8} {p n : Nat} (h : p + n ≤ s.length) : (Ql s p n).length = n:=by grind [Ql]
theorem Qri (i : Nat) (h : i ≤ 1000) : ((i : Int) + 1) * 64 - 2 = ((tlA i : Nat) : Int):=by unfold tlA;omega
end Gx
namespace Go.Proofs
open Go Go.RowKit Gx
attribute [local irreducible] Go.Calls Gx.S Gx.O Gx.D Gx.OpP Gx.OpQ Gx.OpH
set_option maxRecDepth 20000
theorem QfK : tsl Tryz.prog 236 = some (5,1,1):=by kernel_rfl
theorem QqS (w : World) (i : Nat) (hi : i ≤ 1000) : Calls Tryz.prog 197 #[.int .i64 (i : Int)] w fun en w'=>en = .returned (.int .i64 ((tlA i : Nat) : Int)) ∧ Below w.heap.size w w':=by
 refine eN1 Tryz.func197 Tryz.ntmps197 ?_
 refine aT8 ?_
 refine aT ?_
 refine aT ?_
 refine aU2 ?_
 exact rT rfl rfl (fun w' h'=>⟨by rw [← Qri i hi];rfl,h'.below⟩)
theorem c194 (w : World) (s : List UInt8) (hl : 2 ≤ s.length) : Calls Tryz.prog 194 #[.string (bs s)] w fun en w'=>en = .returned (.int .i64 ((ub2 s 0 : Nat) : Int)) ∧ Below w.heap.size w w':=by
 refine eN1 Tryz.func194 Tryz.ntmps194 ?_
 refine aU5 ?_
 refine QF [] QV ?_
 refine dP 0 ?_
 refine dV 1 rfl (Q0 rfl rfl rfl Tryz.underlying9 0 rfl (by omega)) ?_
 refine dV 2 rfl (Qg rfl rfl Zm Yf) ?_
 try refine dWr ?_
 refine dP 3 ?_
 refine dV 4 rfl (Q0 rfl rfl rfl Tryz.underlying9 1 rfl (by omega)) ?_
 refine dV 5 rfl (Qg rfl rfl Zm Yf) ?_
 try refine dWr ?_
 refine dV 6 rfl (QfG rfl rfl rfl (by decide) 8 rfl) ?_
 refine dP 7 ?_
 refine dP 8 ?_
 refine dNi ?_
 exact rT rfl rfl (fun w' h'=>⟨by rw [← Qpp];rfl,h'.below⟩)
theorem c206 (w : World) (u : Int) (hu : 0 ≤ u ∧ u < 65536) : Calls Tryz.prog 206 #[.int .i64 u] w fun en w'=>en = .returned (.string (bs (le2 u))) ∧ Below w.heap.size w w':=by
 refine eN1 Tryz.func206 Tryz.ntmps206 ?_
 refine aU7 ?_
 refine o_p (Qg rfl rfl Yf Zm) rfl ?_
 refine Qf (show _ = bv (by8 u) from YO _) ?_
 refine aU ?_
 refine o_p (Qam rfl rfl rfl (by decide) 8 rfl) rfl ?_
 refine o_p (Qg rfl rfl Yf Zm) rfl ?_
 refine Qf (show _ = bv (by8 (u / 256)) from YO _) ?_
 refine o_h (Qm (cs:=[_,_]) rfl rfl Qy Qa9 rfl rfl rfl) rfl (fun b1 _=>?_)
 refine o_q (Yr rfl rfl Tryz.underlying139 Tryz.underlying9 Tryz.underlying5 aPk (by simp [le2]) (QaU (le2 u))) rfl ?_
 refine aU2 ?_
 exact rT rfl rfl (fun w' h'=>⟨by exact congrArg (fun z=>Ending.returned (Value.string (bs z))) (ZK (le2 u)),h'.below⟩)
theorem Qmn (w : World) (a : Option Addr) (cap m i : Nat) (l : List UInt8) (hs : Vl w a (l.map bv)) (hm : l.length = m) (hi : i + 2 ≤ m) (hc : m ≤ cap) (hc9 : cap ≤ 9223372036854775807) : Calls Tryz.prog 195 #[.slice a m cap,.int .i64 (i : Int)] w fun en w'=>en = .returned (.string (bs (Ql l i 2))) ∧ Below w.heap.size w w':=by
 refine eN2 Tryz.func195 Tryz.ntmps195 ?_
 refine Qj6 ?_
 refine o_p (Qp _ _ i (i + 2) rfl rfl QfK ⟨_,_,rfl,rfl⟩ ⟨_,_,rfl,(by omega)⟩ (by omega) (by omega)) rfl ?_
 refine o_q (Ze (Ql l i 2) rfl rfl Tryz.underlying236 Tryz.underlying9 Tryz.underlying5 (by rw [QI (by omega)];omega) (hs.sub (by omega) (by omega))) rfl ?_
 refine aU2 ?_
 exact rT rfl rfl (fun w' h'=>⟨by rfl,h'.below⟩)
theorem Qrj (w : World) (g cap m tot p : Nat) (l x : List UInt8) (hw : HS w (fps [.blk g u8T tot ((l).map bv)]) [.blk g u8T tot ((l).map bv)] w) (hm : l.length = m) (hp : p + x.length ≤ m) (hpm : p < m) (hc : m ≤ cap) (hc9 : cap ≤ 9223372036854775807) : Calls Tryz.prog 196 #[.slice (some ⟨g,0,none⟩) m cap,.int .i64 (p : Int),.string (bs x)] w fun en w'=>∃ _ : Unit,en = .returned (.tuple #[]) ∧ True ∧ HS w (fps [.blk g u8T tot ((l).map bv)]) [.blk g u8T tot ((QC l p x).map bv)] w':=by
 refine eW3 Tryz.func196 Tryz.ntmps196 hw ?_
 refine aU3 ?_
 refine o_p (Qp _ _ p m rfl rfl QfK ⟨_,_,rfl,rfl⟩ rfl (by omega) (by omega)) rfl ?_
 refine aU ?_
 refine o_h (Qfz (b:=g) (i:=p) rfl rfl (fun _=>by rw [Xk (by omega)] <;> (congr 2 <;> omega)) rfl QfK aPt (by omega) (by omega) (by omega)) rfl (fun _ _=>?_)
 refine aU ?_
 exact YY rfl (fun w' h'=>⟨(),rfl,trivial,h'.ent aEt⟩)
theorem c238 (w : World) (s : List UInt8) (hl : s.length ≤ 1000000) : Calls Tryz.prog 238 #[.string (bs s),.int .u8 0] w fun en w'=>en = .returned (.string (bs (trL s))) ∧ Below w.heap.size w w':=by
 refine eN2 Tryz.func238 Tryz.ntmps238 ?_
 refine aU6 ?_
 refine Qo (α:=List UInt8) [0,5,6,7,8,9,10,11,12,13,14,15] (fun l=>[(0,.string (bs l))]) (fun _=>_) (fun l=>l.length ≤ s.length ∧ trL l = trL s) (fun l=>l.length) s ⟨Nat.le_refl _,rfl⟩ aSx (fun w h=>h) (fun l hl9=>?_)
 obtain ⟨hl1,hl2⟩:=hl9
 refine aU4 ?_
 refine o_p (Qj rfl rfl Tryz.underlying9) rfl ?_
 refine aU2 ?_
 refine YH 5 8 13 rfl
  (fun hg1 _=>by
   refine aU3 ?_
   refine o_p (Q0 rfl rfl rfl Tryz.underlying9 0 rfl (by omega)) rfl ?_
   refine aU4 ?_
   exact oJt 5 13)
  (fun hg3 _=>by
   refine aU4 ?_
   exact oJf 5 13) ?_
 refine aU ?_
 refine sCd rfl (fun h5=>?_) fun h5=>?_
 ·have hk : 0 < l.length ∧ l.getD 0 0 = 0:=by have hq:=h5;first | (exact ⟨by omega,QhT.1 hq.2⟩) | (simp [QhT] at hq;exact ⟨by omega,hq.2⟩)
  refine aU4 ?_
  refine o_p (Yo 1 rfl rfl rfl Tryz.underlying9 rfl (by omega)) rfl ?_
  refine aU3 ?_
  exact Qu (l.drop 1) (by rw [List.length_drop];omega) ⟨by rw [List.length_drop];omega,(QhX hk.1 hk.2).trans hl2⟩ aSx (fun w h=>h)
 have hk : ¬ (0 < l.length ∧ l.getD 0 0 = 0):=fun h9=>by have hq:=h5;have h8:=QhT.2 h9.2;simp [h8] at hq;omega
 refine Qh rfl ?_
 refine aU5 ?_
 exact rT rfl rfl (fun w' h'=>⟨by rw [← hl2,Qjt hk];rfl,h'.below⟩)
theorem c239 (w : World) (s : List UInt8) (hl : s.length ≤ 1000000) : Calls Tryz.prog 239 #[.string (bs s),.int .u8 0] w fun en w'=>en = .returned (.string (bs (trR s))) ∧ Below w.heap.size w w':=by
 refine eN2 Tryz.func239 Tryz.ntmps239 ?_
 refine aU6 ?_
 refine Qo (α:=List UInt8) [0,5,6,7,8,9,10,11,12,13,14,15,16,17,18,19,20,21] (fun l=>[(0,.string (bs l))]) (fun _=>_) (fun l=>l.length ≤ s.length ∧ trR l = trR s) (fun l=>l.length) s ⟨Nat.le_refl _,rfl⟩ aSx (fun w h=>h) (fun l hl9=>?_)
 obtain ⟨hl1,hl2⟩:=hl9
 refine aU4 ?_
 refine o_p (Qj rfl rfl Tryz.underlying9) rfl ?_
 refine aU2 ?_
 refine YH 8 8 16 rfl
  (fun hg1 _=>by
   refine aU5 ?_
   refine o_p (Qj rfl rfl Tryz.underlying9) rfl ?_
   refine aT2 ?_
   refine aU ?_
   refine o_p (Q0 rfl rfl rfl Tryz.underlying9 (l.length - 1) (by omega) (by omega)) rfl ?_
   refine aU4 ?_
   exact oJt 8 16)
  (fun hg3 _=>by
   refine aU7 ?_
   exact oJf 8 16) ?_
 refine aU ?_
 refine sCd rfl (fun h5=>?_) fun h5=>?_
 ·have hk : 0 < l.length ∧ l.getD (l.length - 1) 0 = 0:=by have hq:=h5;first | (exact ⟨by omega,QhT.1 hq.2⟩) | (simp [QhT] at hq;exact ⟨by omega,hq.2⟩)
  refine aU5 ?_
  refine o_p (Qj rfl rfl Tryz.underlying9) rfl ?_
  refine aT ?_
  refine o_p (YQ (l.length - 1) rfl rfl rfl Tryz.underlying9 (by omega) (by omega)) rfl ?_
  refine aU3 ?_
  exact Qu (l.take (l.length - 1)) (by rw [List.length_take];omega) ⟨by rw [List.length_take];omega,(Qqp hk.1 hk.2).trans hl2⟩ aSx (fun w h=>h)
 have hk : ¬ (0 < l.length ∧ l.getD (l.length - 1) 0 = 0):=fun h9=>by have hq:=h5;have h8:=QhT.2 h9.2;simp [h8] at hq;omega
 refine Qh rfl ?_
 refine aU5 ?_
 exact rT rfl rfl (fun w' h'=>⟨by rw [← hl2,Qnj hk];rfl,h'.below⟩)
theorem Qt1 : QM Tryz.prog 239 = true:=by kernel_rfl
theorem Qtf : QM Tryz.prog 238 = true:=by kernel_rfl
instance : TFn Tryz.prog 129:=⟨by kernel_rfl⟩
instance : TFn Tryz.prog 204:=⟨by kernel_rfl⟩
instance : TFn Tryz.prog 205:=⟨by kernel_rfl⟩
instance : TFn Tryz.prog 203:=⟨by kernel_rfl⟩
instance : TFn Tryz.prog 206:=⟨by kernel_rfl⟩
theorem Qhv : QM Tryz.prog 196 = true:=by kernel_rfl
instance : TFn Tryz.prog 197:=⟨by kernel_rfl⟩
instance : TFn Tryz.prog 195:=⟨by kernel_rfl⟩
instance : TFn Tryz.prog 194:=⟨by kernel_rfl⟩
theorem c204 (w : World) (s : List UInt8) (hl : s.length ≤ 1000000) : Calls Tryz.prog 204 #[.string (bs s),.string (bs [0])] w fun en w'=>en = .returned (.string (bs (trL (trR s)))) ∧ Below w.heap.size w w':=by
 have hT:=Quw s
 refine eN2 Tryz.func204 Tryz.ntmps204 ?_
 refine QaP ?_
 refine oOr 3 9 12 rfl
  (fun hg1 _=>by
   refine aU4 ?_
   exact oJf 3 12)
  (fun hg3 _=>by
   refine aU2 ?_
   exact oJt 3 12) ?_
 refine aU ?_
 refine sCd rfl (fun h5=>?_) fun h5=>?_
 ·have h0 : s = []:=by have hq:=h5;simpa using hq
  refine aU5 ?_
  exact rT rfl rfl (fun w' h'=>⟨by subst h0;rfl,h'.below⟩)
 refine aU5 ?_
 refine o_p (Qj rfl rfl Tryz.underlying9) rfl ?_
 refine aU2 ?_
 refine YH 4 17 21 rfl
  (fun hg6 _=>by
   refine aU3 ?_
   refine o_p (Q0 rfl rfl rfl Tryz.underlying9 0 rfl (by omega)) rfl ?_
   refine aU2 ?_
   exact oJt 4 21)
  (fun hg8 _=>by
   refine aU3 ?_
   exact oJf 4 21) ?_
 refine aU ?_
 refine sCd rfl (fun h10=>?_) fun h10=>?_
 ·refine aU ?_
  refine QF [] QV ?_
  refine dP 0 ?_
  refine dP 1 ?_
  refine dV 2 rfl (Q0 rfl rfl rfl Tryz.underlying9 0 rfl (by omega)) ?_
  refine dQ 3 [] rfl (Q1 rfl Qt1 rfl (fun w1 h1=>c239 w1 s hl)) ?_
  refine dP 4 ?_
  refine dV 5 rfl (Q0 rfl rfl rfl Tryz.underlying9 0 rfl (by omega)) ?_
  refine dQ 6 [] rfl (Q1 rfl Qtf rfl (fun w1 h1=>c238 w1 (trR s) (by omega))) ?_
  refine dP 7 ?_
  refine dNi ?_
  exact rT rfl rfl (fun w' h'=>⟨by rfl,h'.below⟩)
 exfalso;simp at h10
theorem c149 (w : World) (s : List UInt8) (u : Int) (h5 : s.length = 512) (hz : zer (Ql s 40 18) = true) (hu : 1 ≤ u ∧ u ≤ 65535) : Calls Tryz.prog 149 #[.string (bs s),.int .i64 u] w fun en w'=>en = .returned (.tuple #[.string (bs (Qa1 s u)),.int .i64 0]) ∧ Below w.heap.size w w':=by
 have hsl : Ql s 40 18 = (s.drop 40).take 18:=rfl
 have hb : (Ql s 40 18).length = 18:=QI (by omega)
 have hzt:=(Qn4 (Ql s 40 18)).2 hz
 have h0l : s.length = s.length:=rfl
 refine eN2 Tryz.func149 Tryz.ntmps149 ?_
 refine aU9 ?_
 refine oCq rfl (fun w1 h1=>QuT w1 _) ?_
 refine aU7 ?_
 refine sCd rfl (fun h1=>?_) fun h1=>?_
 ·exfalso;have hq:=h1;simp [h5] at hq
 refine aU5 ?_
 refine o_p (QZ _ _ 40 58 rfl rfl Tryz.underlying9 ⟨_,_,rfl,rfl⟩ ⟨_,_,rfl,rfl⟩ (by omega) (by omega)) rfl ?_
 refine Qf (show _ = Value.string (bs (Ql s 40 18)) from by rw [Z7 (n:=18) rfl]) ?_
 refine oCq rfl (fun w1 h1=>c204 w1 (Ql s 40 18) (by omega)) ?_
 refine aU ?_
 refine oCq rfl (fun w1 h1=>QuA w1 _ _) ?_
 refine aU ?_
 refine oCq rfl (fun w1 h1=>c205 w1 _ _ _) ?_
 refine oCq rfl (fun w1 h1=>QuA w1 _ _) ?_
 refine o_h (Qm (cs:=[_,_]) rfl rfl Zp QcS rfl rfl rfl) rfl (fun b2 _=>?_)
 refine oCq rfl (fun w1 h1=>f203 h1 aPk (by rfl) (by rfl) (by decide)) ?_
 refine aU7 ?_
 refine sCd rfl (fun h3=>?_) fun h3=>?_
 ·exfalso;have hq:=h3;simp [hzt,hu] at hq;exact hq rfl
 refine aU4 ?_
 refine o_h (Z8 rfl rfl Tryz.underlying9 Tryz.underlying236 Tryz.underlying5 rfl (by simp only [maxLen];omega)) rfl (fun ⟨b4,c5⟩ ⟨h6,k7⟩=>?_)
 refine aU6 ?_
 refine oCq rfl (fun w1 h1=>c206 w1 u (by omega)) ?_
 refine o_h (QH (Cs:=[.blk b4 u8T c5 ((s).map bv)]) rfl Qhv rfl aPs (fun w1 h1 hf=>Qrj w1 b4 c5 s.length c5 40 s (le2 u) hf rfl (by rw [show ((le2 u)).length = 2 from rfl];first | omega | (unfold tlA;omega)) (by first | omega | (unfold tlA;omega)) (by omega) (by simp only [maxLen] at *;omega))) rfl (fun _ _=>?_)
 refine aU7 ?_
 refine Qk (L':=[(1,_),(4,_),(5,_),(8,_),(34,_)]) aSx (fun _ h=>h) ?_
 refine Qo (α:=Nat) [9,34,35,36,37,38,39,40,41,42,43,44,45,46,47,48,49,50,51,52] (fun k=>[(34,.int .i64 (k : Int))]) (fun k=>HS w [] [.blk b4 u8T c5 ((prI s u k).map bv)]) (fun k=>k ≤ 8) (fun k=>8 - k) 0 (Nat.zero_le _) aSx (fun w h=>h.ent aEt) (fun k hk8=>?_)
 refine aU5 ?_
 refine sCd rfl (fun h8=>?_) fun h8=>?_
 ·have hk : k < 8:=by omega
  have hpl : (prI s u k).length = s.length:=by rw [Qc0 h5 k (by omega),h5]
  have hpl1 : (QC (prI s u k) (42 + 2 * k) (Ql (prI s u k) (tlA k) 2)).length = s.length:=by rw [Xw (by rw [show (Ql (prI s u k) (tlA k) 2).length = 2 from QI (by rw [hpl];unfold tlA;omega),hpl];omega),hpl]
  refine aT13 ?_
  refine aT ?_
  refine Qf (show _ = Value.int .i64 ((42 + 2 * k : Nat) : Int) from by congr 1) ?_
  refine aU2 ?_
  refine oCq rfl (fun w1 h1=>QqS w1 k (by omega)) ?_
  refine oCq rfl (fun w1 h1=>Qmn w1 (some ⟨b4,0,none⟩) c5 s.length (tlA k) (prI s u k) (h1.vl_blk aPk) hpl (by unfold tlA;omega) (by omega) (by simp only [maxLen] at *;omega)) ?_
  refine o_h (QH (Cs:=[.blk b4 u8T c5 (((prI s u k)).map bv)]) rfl Qhv rfl aPs (fun w1 h1 hf=>Qrj w1 b4 c5 s.length c5 (42 + 2 * k) (prI s u k) (Ql (prI s u k) (tlA k) 2) hf hpl (by rw [show ((Ql (prI s u k) (tlA k) 2)).length = 2 from QI (by rw [hpl];unfold tlA;omega)];first | omega | (unfold tlA;omega)) (by first | omega | (unfold tlA;omega)) (by omega) (by simp only [maxLen] at *;omega))) rfl (fun _ _=>?_)
  refine aU4 ?_
  refine oCq rfl (fun w1 h1=>QqS w1 k (by omega)) ?_
  refine aU ?_
  refine oCq rfl (fun w1 h1=>c206 w1 u (by omega)) ?_
  refine o_h (QH (Cs:=[.blk b4 u8T c5 (((QC (prI s u k) (42 + 2 * k) (Ql (prI s u k) (tlA k) 2))).map bv)]) rfl Qhv rfl aPs (fun w1 h1 hf=>Qrj w1 b4 c5 s.length c5 (tlA k) (QC (prI s u k) (42 + 2 * k) (Ql (prI s u k) (tlA k) 2)) (le2 u) hf hpl1 (by rw [show ((le2 u)).length = 2 from rfl];first | omega | (unfold tlA;omega)) (by first | omega | (unfold tlA;omega)) (by omega) (by simp only [maxLen] at *;omega))) rfl (fun _ _=>?_)
  refine aT4 ?_
  refine aU2 ?_
  exact sBk (k + 1)
 obtain rfl : k = 8:=by omega
 have hpl : (prI s u 8).length = s.length:=by rw [Qc0 h5 8 (by omega),h5]
 refine Qh rfl ?_
 refine aU3 ?_
 refine o_q (Yr rfl rfl Tryz.underlying236 Tryz.underlying9 Tryz.underlying5 aPk (by simp [hpl]) (QaU _)) rfl ?_
 refine aU3 ?_
 exact Qs (rs:=[.tmp 4,.tmp 5]) rfl (.tmp rfl (.tmp rfl (.nil))) (fun w' h'=>⟨by rw [ZK];rfl,h'.below⟩)
theorem c193 (w : World) (s : List UInt8) (hs5 : s.length = 512) : Calls Tryz.prog 193 #[.string (bs s)] w fun en w'=>∃ g : Option Addr × Nat,en = .returned (.slice g.1 (X5 s 8).length g.2) ∧ True ∧ HS w [] [.own (.slice g.1 (X5 s 8).length g.2) 3 1 (X5 s 8).length ((X5 s 8).flatMap inV)] w':=by
 refine eN1 Tryz.func193 Tryz.ntmps193 ?_
 refine aU7 ?_
 refine o_h (Z8 rfl rfl Tryz.underlying9 Tryz.underlying236 Tryz.underlying5 rfl (by simp only [maxLen];omega)) rfl (fun ⟨b1,c2⟩ ⟨h3,k4⟩=>?_)
 refine QaE ?_
 refine Qo (α:=Nat × Option Addr × Nat) [4,5,8,9,10,11,12,13,14,15,16,17,18,19,20,21,22,23,24,25,26,27,28] (fun x=>[(8,.int .i64 (x.1 : Int)),(4,.slice x.2.1 (X5 s x.1).length x.2.2)]) (fun x=>HS w [] [.blk b1 5 c2 (s.map bv),.own (.slice x.2.1 (X5 s x.1).length x.2.2) 3 1 (X5 s x.1).length ((X5 s x.1).flatMap inV)]) (fun x=>x.1 ≤ 8) (fun x=>8 - x.1) (0,none,0) (Nat.zero_le _) aSx (fun w h=>((h.own_nil 3 1).ent aEt)) (fun ⟨k,ga,gc⟩ hk8=>?_)
 dsimp only
 simp only [] at hk8
 have htl:=Qka s k
 refine aU5 ?_
 refine sCd rfl (fun h5=>?_) fun h5=>?_
 ·have hk : k < 8:=by omega
  have h40:=Qhj (s:=s) (p:=40) (by omega)
  refine QiV ?_
  refine oCq rfl (fun w1 h1=>Qmn w1 (some ⟨b1,0,none⟩) c2 s.length 40 s (h1.vl_blk aPk) rfl (by first | omega | (unfold tlA;omega)) (by omega) (by simp only [maxLen] at *;omega)) ?_
  refine oCq rfl (fun w1 h1=>c194 w1 (Ql s 40 2) (by rw [QI (by omega)];exact Nat.le_refl _)) ?_
  refine aU2 ?_
  refine oOr 8 15 23 rfl
   (fun hg6 _=>by
    refine aU5 ?_
    refine oCq rfl (fun w1 h1=>QqS w1 k (by omega)) ?_
    refine aU ?_
    refine oCq rfl (fun w1 h1=>Qmn w1 (some ⟨b1,0,none⟩) c2 s.length (tlA k) s (h1.vl_blk aPk) rfl (by first | omega | (unfold tlA;omega)) (by omega) (by simp only [maxLen] at *;omega)) ?_
    refine aU3 ?_
    refine oCq rfl (fun w1 h1=>Qmn w1 (some ⟨b1,0,none⟩) c2 s.length 40 s (h1.vl_blk aPk) rfl (by first | omega | (unfold tlA;omega)) (by omega) (by simp only [maxLen] at *;omega)) ?_
    refine aU2 ?_
    exact oJf 8 23)
   (fun hg8 _=>by
    refine aU7 ?_
    exact oJt 8 23) ?_
  refine aU ?_
  refine sCd rfl (fun h10=>?_) fun h10=>?_
  ·have hnx:=QjE (s:=s) (k:=k) ((QgB hs5 hk).2 (by have hq:=h10;rw [h40] at hq;simpa using hq))
   refine aU3 ?_
   refine o_h (Qm (cs:=[_]) rfl rfl Xp QcB rfl rfl rfl) rfl (fun b11 _=>?_)
   refine o_h (QK _ rfl rfl rfl Xp Tryz.underlying28 QcB rfl aPk (Xa aPk) rfl (by intro u hu;simp only [List.mem_cons,List.mem_nil_iff,or_false] at hu;subst hu;rfl) (by omega) (by simp only [maxLen];omega)) rfl (fun b12 _=>?_)
   refine aT5 ?_
   refine aU2 ?_
   exact Qu (k + 1,b12.1,b12.2) (by (try simp only []);omega) (by simp only [];omega) (by dsimp only;rw [hnx,List.length_append];exact aSx) (fun w h=>by dsimp only;rw [hnx,List.length_append,Qcg];exact h.ent aEt)
  have hnx:=QmH (s:=s) (k:=k) (Bool.eq_false_iff.2 fun h9=>by have hq:=h10;rw [h40] at hq;have h8:=(QgB hs5 hk).1 h9;simp at hq;rcases h8 with h8 | h8;exact hq.1 h8;exact h8 hq.2)
  refine aT4 ?_
  refine aU2 ?_
  exact Qu (k + 1,ga,gc) (by (try simp only []);omega) (by simp only [];omega) (by dsimp only;rw [hnx];exact aSx) (fun w h=>by dsimp only;rw [hnx];exact h.ent aEt)
 obtain rfl : k = 8:=by omega
 refine Qh rfl ?_
 refine aU5 ?_
 exact rT rfl rfl (fun w' h'=>⟨(ga,gc),rfl,trivial,h'.ent aEt⟩)
instance : TFn Tryz.prog 193:=⟨by kernel_rfl⟩
def Qhm (s : List UInt8) : List UInt8 × Int × Int:=if s.length = 512 then if Xr s then ([],0,31) else (QE s,((ub2 s 40 : Nat) : Int),0) else ([],0,10)
theorem Qnh {s : List UInt8} (h : ¬ s.length = 512) : Qhm s = ([],0,10):=by unfold Qhm;rw [if_neg h]
theorem Qgj {s : List UInt8} (h : s.length = 512) (ht : Xr s = true) : Qhm s = ([],0,31):=by unfold Qhm;rw [if_pos h,if_pos ht]
theorem Qhz {s : List UInt8} (h : s.length = 512) (ht : Xr s = false) : Qhm s = (QE s,((ub2 s 40 : Nat) : Int),0):=by unfold Qhm;rw [if_pos h,ht];rfl
theorem c130 (w : World) (s : List UInt8) (hsl : s.length ≤ 1000000) : Calls Tryz.prog 130 #[.string (bs s)] w fun en w'=>en = .returned (.tuple #[.string (bs (Qhm s).1),.int .i64 (Qhm s).2.1,.int .i64 (Qhm s).2.2]) ∧ Below w.heap.size w w':=by
 refine eN1 Tryz.func130 Tryz.ntmps130 ?_
 refine QaP ?_
 refine oCq rfl (fun w1 h1=>QuT w1 _) ?_
 refine aU7 ?_
 refine sCd rfl (fun h1=>?_) fun h1=>?_
 ·have hn5 : ¬ s.length = 512:=fun h9=>by have hq:=h1;simp [h9] at hq
  have hV:=Qnh hn5
  have hd9 : decide ((s.length : Int) = 512) = false:=decide_eq_false (by omega)
  refine aU7 ?_
  exact Qs (rs:=[.tmp 2,.tmp 3,.tmp 4]) rfl (.tmp rfl (.tmp rfl (.tmp rfl (.nil)))) (fun w' h'=>⟨by rw [hV,hd9];rfl,h'.below⟩)
 have hs5 : s.length = 512:=by have hq:=h1;cases hd9 : decide ((s.length : Int) = 512);rw [hd9] at hq;cases hq;have:=of_decide_eq_true hd9;omega
 refine aU5 ?_
 refine oCh rfl (fun w1 h1=>c193 w1 s hs5) (fun ⟨ga,gc⟩ _=>?_)
 refine aU3 ?_
 refine sCd rfl (fun h2=>?_) fun h2=>?_
 ·have hV:=Qgj hs5 (Qgv.1 (by have hq:=h2;omega))
  refine aU6 ?_
  exact Qs (rs:=[.tmp 2,.tmp 3,.tmp 4]) rfl (.tmp rfl (.tmp rfl (.tmp rfl (.nil)))) (fun w' h'=>⟨by rw [hV];rfl,h'.below⟩)
 have ht : Xr s = false:=Bool.eq_false_iff.2 fun h9=>by have hq:=h2;have:=Qgv.2 h9;omega
 have hV:=Qhz hs5 ht
 refine aU4 ?_
 refine o_h (Z8 rfl rfl Tryz.underlying9 Tryz.underlying236 Tryz.underlying5 rfl (by simp only [maxLen];omega)) rfl (fun ⟨b3,c4⟩ ⟨h5,k6⟩=>?_)
 refine aU5 ?_
 refine oCq rfl (fun w1 h1=>Qmn w1 (some ⟨b3,0,none⟩) c4 s.length 40 s (h1.vl_blk aPk) rfl (by omega) (by omega) (by simp only [maxLen] at *;omega)) ?_
 refine oCq rfl (fun w1 h1=>by have h9:=c194 w1 (Ql s 40 2) (by rw [QI (by omega)];exact Nat.le_refl _);rw [Qhj (by omega)] at h9;exact h9) ?_
 refine aU8 ?_
 refine Qk (L':=[(2,_),(3,_),(4,_),(6,_),(7,_),(23,_)]) aSx (fun _ h=>h) ?_
 refine Qo (α:=Nat) [8,23,24,25,26,27,28,29,30,31,32,33,34,35] (fun k=>[(23,.int .i64 (k : Int))]) (fun k=>HS w [] [.blk b3 u8T c4 ((opI s k).map bv)]) (fun k=>k ≤ 8) (fun k=>8 - k) 0 (Nat.zero_le _) aSx (fun w h=>h.ent aEt) (fun k hk8=>?_)
 refine aU5 ?_
 refine sCd rfl (fun h7=>?_) fun h7=>?_
 ·have hk : k < 8:=by omega
  have hpl : (opI s k).length = s.length:=by rw [ZE hs5 k (by omega),hs5]
  have hxl : (Ql (opI s k) (42 + 2 * k) 2).length = 2:=QI (by rw [hpl];omega)
  have htl : tlA k = 64 * k + 62:=rfl
  refine QiV ?_
  refine oCq rfl (fun w1 h1=>QqS w1 k (by omega)) ?_
  refine aT3 ?_
  refine aT ?_
  refine Qf (show _ = Value.int .i64 ((42 + 2 * k : Nat) : Int) from by congr 1) ?_
  refine oCq rfl (fun w1 h1=>Qmn w1 (some ⟨b3,0,none⟩) c4 s.length (42 + 2 * k) (opI s k) (h1.vl_blk aPk) hpl (by omega) (by omega) (by simp only [maxLen] at *;omega)) ?_
  refine o_h (QH (Cs:=[.blk b3 u8T c4 (((opI s k)).map bv)]) rfl Qhv rfl aPs (fun w1 h1 hf=>Qrj w1 b3 c4 s.length c4 (tlA k) (opI s k) (Ql (opI s k) (42 + 2 * k) 2) hf hpl (by omega) (by omega) (by omega) (by simp only [maxLen] at *;omega))) rfl (fun _ _=>?_)
  refine aT4 ?_
  refine aU2 ?_
  exact sBk (k + 1)
 obtain rfl : k = 8:=by omega
 have hpl : (opI s 8).length = s.length:=by rw [ZE hs5 8 (by omega),hs5]
 have hop : (QE s).length = s.length:=by rw [YU hs5,hs5]
 have hpu:=QlG (x:=(opI s 8)) (l:=List.replicate 18 (0 : UInt8)) (i:=40) (by rw [hpl,List.length_replicate];omega)
 have hcl : Qe ((opI s 8).map bv) 40 (Xv [.int .u8 0] (18 * 1)) = (QE s).map bv:=by rw [Qi0];exact hpu
 refine Qh rfl ?_
 refine aU3 ?_
 refine o_p (Qp _ _ 40 58 rfl rfl QfK ⟨_,_,rfl,rfl⟩ ⟨_,_,rfl,rfl⟩ (by omega) (by omega)) rfl ?_
 refine Qjq (Qel (b:=b3) (i:=40) rfl rfl QfK Qa9 rfl rfl (by simp) aPt (fun _=>by rw [Xk (by omega)] <;> (congr 2 <;> omega)) (by rw [List.length_map,hpl];omega)) (fun _ _=>?_)
 refine aU4 ?_
 refine YN (L:=_) (C':=HS w [] [.blk b3 u8T c4 ((QE s).map bv)]) (fun w9 h=>by have h9 : HS w [] [.blk b3 u8T c4 (Qe ((opI s 8).map bv) 40 (Xv [.int .u8 0] (18 * 1)))] w9:=h;rwa [hcl] at h9) ?_
 refine o_q (Yr rfl rfl Tryz.underlying236 Tryz.underlying9 Tryz.underlying5 aPk (by simp [hop]) (QaU _)) rfl ?_
 refine aU5 ?_
 exact Qs (rs:=[.tmp 2,.tmp 3,.tmp 4]) rfl (.tmp rfl (.tmp rfl (.tmp rfl (.nil)))) (fun w' h'=>⟨by rw [hV,ZK];rfl,h'.below⟩)
theorem Qt3 (w : World) (g m cap tot p : Nat) (l : List UInt8) (u : Int) (hw : HS w (fps [.blk g u8T tot ((l).map bv)]) [.blk g u8T tot ((l).map bv)] w) (hp : p + m ≤ l.length) (hm : 2 ≤ m) (hu : 0 ≤ u ∧ u < 65536) : Calls Tryz.prog 147 #[.slice (some ⟨g,p,none⟩) m cap,.int .u16 u] w fun en w'=>∃ _ : Unit,en = .returned (.tuple #[]) ∧ True ∧ HS w (fps [.blk g u8T tot ((l).map bv)]) [.blk g u8T tot ((QC l p (le2 u)).map bv)] w':=by
 refine eW2 Tryz.func147 Tryz.ntmps147 hw ?_
 refine aU4 ?_
 refine o_p (Qg rfl rfl XW Zm) rfl ?_
 refine Qf (show _ = bv (by8 u) from YO _) ?_
 refine aU ?_
 refine o_p (Qam rfl rfl rfl (by decide) 8 rfl) rfl ?_
 refine o_p (Qg rfl rfl XW Zm) rfl ?_
 refine Qf (show _ = bv (by8 (u / 256)) from YO _) ?_
 refine o_p (Qc rfl rfl rfl Qy 0 rfl (by omega) rfl) rfl ?_
 refine aU ?_
 refine o_p (Qc rfl rfl rfl Qy 1 rfl (by omega) rfl) rfl ?_
 refine aU2 ?_
 exact YY rfl (fun w' h'=>⟨(),rfl,trivial,by have h9:=QlG (x:=l) (l:=le2 u) (i:=p) (by simp only [le2,List.length_cons,List.length_nil];omega);rw [← h9];exact h'.ent aEt⟩)
end Go.Proofs
namespace Gx
open Go Go.RowKit
section
variable {w0 w : World} {M : List Nat} {As As' : List HA}
theorem HS.byz_full {g cap : Nat} {l : List UInt8} (hp : QD As (.byz (some ⟨g,0,none⟩) cap l) As') (h : HS w0 M As w) (h0 : 0 < cap) : HS w0 M (.blk g u8T cap ((l ++ List.replicate (cap - l.length) 0).map bv) :: As') w:=by
 obtain ⟨g',e,_,_,h1⟩:=HS.blk_byz hp h h0;injection e with e
 injection e with e
 subst e
 rwa [List.map_append,List.map_replicate]
theorem QsY {cap : Nat} {l : List UInt8} (n : Nat) (h : n = cap - l.length) : (l ++ List.replicate n 0).map bv = Qd9 cap l:=by
 subst h;rw [List.map_append,List.map_replicate];rfl
end
theorem Qgk {l x y : List UInt8} {p q : Nat} (hq : q = p + x.length) (h : p + x.length + y.length ≤ l.length) : QC (QC l p x) q y = QC l p (x ++ y):=by
 subst hq;apply List.ext_getElem?
 grind [Yh,Xw]
theorem Qu8 (num lsn : Int) (c : Nat) : QC (QC (QC (QC (List.replicate 512 0) 0 Qc4) 8 (le4 lsn)) 12 (le4 num)) 16 (le2 c) = hdB num lsn c ++ List.replicate 448 0:=by
 have e0 : (List.replicate 512 (0 : UInt8)) = List.replicate 64 0 ++ List.replicate 448 0:=by rw [List.replicate_append_replicate]
 have hp : ∀ (A B x : List UInt8) (p : Nat),p + x.length ≤ A.length → QC (A ++ B) p x = QC A p x ++ B:=fun A B x p h=>by
  unfold QC;rw [List.take_append_of_le_length (by omega),List.drop_append_of_le_length (by omega)];simp only [List.append_assoc]
 rw [e0,hp _ _ _ _ (by decide),hp _ _ _ _ (by show 8 + 4 ≤ 64;decide),hp _ _ _ _ (by show 12 + 4 ≤ 64;decide),hp _ _ _ _ (by show 16 + 2 ≤ 64;decide)];rfl
end Gx
namespace Go.Proofs
open Go Go.RowKit Gx
attribute [local irreducible] Go.Calls Gx.S Gx.O Gx.D Gx.OpP Gx.OpQ Gx.OpH
set_option maxRecDepth 20000
theorem Qj4 : QM Tryz.prog 147 = true:=by kernel_rfl
instance : TFd Tryz.prog 118 1 3 3:=⟨by kernel_rfl⟩
theorem Qno : QM Tryz.prog 146 = true:=by kernel_rfl
instance : TFd Tryz.prog 118 0 0 69:=⟨by kernel_rfl⟩
instance : TFd Tryz.prog 118 2 4 3:=⟨by kernel_rfl⟩
theorem Qtj : QM Tryz.prog 149 = true:=by kernel_rfl
theorem QvF (w : World) (g m cap tot p : Nat) (l : List UInt8) (u : Int) (hw : HS w (fps [.blk g u8T tot ((l).map bv)]) [.blk g u8T tot ((l).map bv)] w) (hp : p + m ≤ l.length) (hm : 2 ≤ m) : Calls Tryz.prog 147 #[.slice (some ⟨g,p,none⟩) m cap,.int .u16 (u % 65536)] w fun en w'=>∃ _ : Unit,en = .returned (.tuple #[]) ∧ True ∧ HS w (fps [.blk g u8T tot ((l).map bv)]) [.blk g u8T tot ((QC l p (le2 u)).map bv)] w':=by
  have h9:=Qt3 w g m cap tot p l (u % 65536) hw hp hm (by omega);rw [QpS] at h9;exact h9
theorem c146 (w : World) (g m cap tot p : Nat) (l : List UInt8) (u : Int) (hw : HS w (fps [.blk g u8T tot ((l).map bv)]) [.blk g u8T tot ((l).map bv)] w) (hp : p + m ≤ l.length) (hm : 4 ≤ m) (hmc : m ≤ cap) (hc9 : cap ≤ 9223372036854775807) (hu : 0 ≤ u ∧ u < 4294967296) : Calls Tryz.prog 146 #[.slice (some ⟨g,p,none⟩) m cap,.int .u32 u] w fun en w'=>∃ _ : Unit,en = .returned (.tuple #[]) ∧ True ∧ HS w (fps [.blk g u8T tot ((l).map bv)]) [.blk g u8T tot ((QC l p (le4 u)).map bv)] w':=by
 have hl1 : (QC l p (le2 u)).length = l.length:=Xw (by show p + 2 ≤ _;omega)
 have he9 : QC (QC l p (le2 u)) (p + 2) (le2 (u / 65536)) = QC l p (le4 u):=by rw [Qgk (l:=l) (p:=p) (q:=p + 2) (x:=le2 u) rfl (by show p + 2 + 2 ≤ _;omega),show le2 (u / 65536) = [by8 (u / 65536),by8 (u / 16777216)] from by unfold le2;rw [show u / 65536 / 256 = u / 16777216 from by omega]];rfl
 refine eW2 Tryz.func146 Tryz.ntmps146 hw ?_
 refine aU4 ?_
 refine o_p (Qg rfl rfl YA XW) rfl ?_
 refine Qf (show _ = Value.int .u16 (u % 65536) from by rw [Qh5]) ?_
 refine o_h (QH (Cs:=[.blk g u8T tot ((l).map bv)]) rfl Qj4 rfl aPs (fun w1 h1 hf=>QvF w1 g m cap tot p l u hf hp (by omega))) rfl (fun _ _=>?_)
 refine aU3 ?_
 refine o_p (Qp _ _ 2 m rfl rfl Qy ⟨_,_,rfl,rfl⟩ rfl (by omega) (by omega)) rfl ?_
 refine Qf (show _ = Value.slice (some ⟨g,p + 2,none⟩) (m - 2) (cap - 2) from by rw [QiF rfl (by omega)]) ?_
 refine aU ?_
 refine o_p (Qam rfl rfl rfl (by decide) 16 rfl) rfl ?_
 refine o_p (Qg rfl rfl YA XW) rfl ?_
 refine Qf (show _ = Value.int .u16 (u / 65536) from by rw [Qh5];congr 1;omega) ?_
 refine o_h (QH (Cs:=[.blk g u8T tot (((QC l p (le2 u))).map bv)]) rfl Qj4 rfl aPs (fun w1 h1 hf=>Qt3 w1 g (m - 2) (cap - 2) tot (p + 2) (QC l p (le2 u)) (u / 65536) hf (by omega) (by omega) (by omega))) rfl (fun _ _=>?_)
 refine aU ?_
 exact YY rfl (fun w' h'=>⟨(),rfl,trivial,by rw [← he9];exact h'.ent aEt⟩)
theorem c79 (w : World) (n : LNd) (num lsn usn : Int) (hes : Rw TEnt.vals 2 w [] n.ea n.es) (hcs : Rw inV 1 w [] n.ca n.cs) (hp : NdP n.pl) (hcb : (YG n.pl).length ≤ 448) (hnum : 0 ≤ num ∧ num < 4294967296) (hlsn : 0 ≤ lsn ∧ lsn < 4294967296) (hu : 1 ≤ usn ∧ usn ≤ 65535) : Calls Tryz.prog 79 #[.agg #[.bool n.us,.slice n.ea n.es.length n.ec,.slice n.ca n.cs.length n.cc,.int .i64 lsn,.int .i64 usn],.int .i64 num] w fun en w'=>en = .returned (.string (bs (Qf1 n.pl num lsn usn))) ∧ Below w.heap.size w w':=by
 have hel : n.es.length ≤ 1000:=hp.el
 have z0 : (List.replicate 512 (0 : UInt8)).length = 512:=List.length_replicate
 have z1 : (QC (List.replicate 512 (0 : UInt8)) 0 Qc4).length = 512:=by rw [Xw (by rw [z0];decide),z0]
 have z2 : (QC (QC (List.replicate 512 (0 : UInt8)) 0 Qc4) 8 (le4 lsn)).length = 512:=by rw [Xw (by rw [z1];show 8 + 4 ≤ 512;decide),z1]
 have z3 : (QC (QC (QC (List.replicate 512 (0 : UInt8)) 0 Qc4) 8 (le4 lsn)) 12 (le4 num)).length = 512:=by rw [Xw (by rw [z2];show 12 + 4 ≤ 512;decide),z2]
 have hd9:=Qu8 num lsn n.es.length
 have hfu : ((hdB num lsn n.es.length) ++ YG n.pl) ++ List.replicate (512 - ((hdB num lsn n.es.length) ++ YG n.pl).length) 0 = Qch n.pl num lsn:=by rw [List.length_append,QaA,show 512 - (64 + (YG n.pl).length) = 448 - (YG n.pl).length by omega];rfl
 have hnl:=Qji (num:=num) (lsn:=lsn) hcb
 refine eN2 Tryz.func79 Tryz.ntmps79 ?_
 refine aU2 ?_
 refine oBx fun b1 _=>?_
 refine aU4 ?_
 refine o_h (Ev.h_make2 (k:=64) (n:=512) rfl rfl rfl Qy Qa9 (by decide) (by decide) (by decide)) rfl (fun b2 _=>?_)
 refine YN (C':=HS w [] [.blk b1 118 5 _,.blk b2 u8T 512 (((List.replicate 512 (0 : UInt8))).map bv)]) (fun w9 h=>by have h9:=h.ent (Bs:=[.blk b1 118 5 _,.blk b2 u8T 512 (Xv [.int .u8 0] (512 * 1))]) aEt;rwa [Qi0] at h9) ?_
 refine aU5 ?_
 refine o_h (Qfz (b:=b2) (i:=0) (l:=Qc4) (x:=(List.replicate 512 (0 : UInt8))) rfl rfl (fun _=>rfl) rfl Qy aPt (by decide) (by decide) (by rw [z0];decide)) rfl (fun _ _=>?_)
 refine aU2 ?_
 refine QF [5] QV ?_
 refine dP 0 ?_
 refine dV 1 rfl (Qp _ _ 8 64 rfl rfl Qy ⟨_,_,rfl,rfl⟩ rfl (by omega) (by omega)) ?_
 refine Q5 (show _ = Value.slice (some ⟨b2,8,none⟩) 56 504 from by rw [Xk (by decide)]) ?_
 refine dFa 2 ?_
 refine dLd 3 [[4]] ?_
 refine dV 4 rfl (Qg rfl rfl Yf YA) ?_
 refine Q5 (show _ = Value.int .u32 lsn from by rw [QdW];congr 1;omega) ?_
 refine dH 5 rfl (QH (Cs:=[.blk b2 u8T 512 (((QC (List.replicate 512 (0 : UInt8)) 0 Qc4)).map bv)]) rfl Qno rfl aPs (fun w1 h1 hf=>c146 w1 b2 56 504 512 8 (QC (List.replicate 512 (0 : UInt8)) 0 Qc4) lsn hf (by rw [z1];decide) (by decide) (by decide) (by decide) hlsn)) (fun _ _=>?_)
 refine dTu [] ?_
 refine dNi ?_
 refine aU3 ?_
 refine o_p (Qp _ _ 12 64 rfl rfl Qy ⟨_,_,rfl,rfl⟩ rfl (by omega) (by omega)) rfl ?_
 refine Qf (show _ = Value.slice (some ⟨b2,12,none⟩) 52 500 from by rw [Xk (by decide)]) ?_
 refine aU ?_
 refine o_p (Qg rfl rfl Yf YA) rfl ?_
 refine Qf (show _ = Value.int .u32 num from by rw [QdW];congr 1;omega) ?_
 refine o_h (QH (Cs:=[.blk b2 u8T 512 (((QC (QC (List.replicate 512 (0 : UInt8)) 0 Qc4) 8 (le4 lsn))).map bv)]) rfl Qno rfl aPs (fun w1 h1 hf=>c146 w1 b2 52 500 512 12 (QC (QC (List.replicate 512 (0 : UInt8)) 0 Qc4) 8 (le4 lsn)) num hf (by rw [z2];decide) (by decide) (by decide) (by decide) hnum)) rfl (fun _ _=>?_)
 refine aU2 ?_
 refine QF [7] QV ?_
 refine dP 0 ?_
 refine dV 1 rfl (Qp _ _ 16 64 rfl rfl Qy ⟨_,_,rfl,rfl⟩ rfl (by omega) (by omega)) ?_
 refine Q5 (show _ = Value.slice (some ⟨b2,16,none⟩) 48 496 from by rw [Xk (by decide)]) ?_
 refine dFa 2 ?_
 refine dFa 3 ?_
 refine dLd 4 [[6,5]] ?_
 refine dV 5 rfl (Y4 rfl rfl Tryz.underlying67) ?_
 refine dV 6 rfl (Qg rfl rfl Yf XW) ?_
 refine Q5 (show _ = Value.int .u16 (n.es.length : Int) from by rw [Qh5];congr 1;omega) ?_
 refine dH 7 rfl (QH (Cs:=[.blk b2 u8T 512 (((QC (QC (QC (List.replicate 512 (0 : UInt8)) 0 Qc4) 8 (le4 lsn)) 12 (le4 num))).map bv)]) rfl Qj4 rfl aPs (fun w1 h1 hf=>Qt3 w1 b2 48 496 512 16 (QC (QC (QC (List.replicate 512 (0 : UInt8)) 0 Qc4) 8 (le4 lsn)) 12 (le4 num)) (n.es.length : Int) hf (by rw [z3];decide) (by decide) (by omega))) (fun _ _=>?_)
 refine dTu [] ?_
 refine dNi ?_
 refine aU3 ?_
 refine YN (fun w9 h=>(HS.byz_blk (l:=(hdB num lsn n.es.length)) (cap:=512) (g:=b2) (cs:=(QC (QC (QC (QC (List.replicate 512 (0 : UInt8)) 0 Qc4) 8 (le4 lsn)) 12 (le4 num)) 16 (le2 (n.es.length : Int))).map bv) aPk h (by rw [QaA];decide) (by decide) (by rw [hd9,QsY (cap:=512) 448 (by rw [QaA])]))) ?_
 refine aU2 ?_
 refine o_h (QH (Cs:=[.byz (some ⟨b2,0,none⟩) 512 ((hdB num lsn n.es.length))]) rfl QtL rfl aPs (fun w1 h1 hf=>c148 w1 (some ⟨b2,0,none⟩) 512 (hdB num lsn n.es.length) n hf (by rw [QaA];decide) (by rw [QaA]) ((hes.keep h1).mono (Qiz aPs)) ((hcs.keep h1).mono (Qiz aPs)) hp)) rfl (fun ⟨b3,c4⟩ hz5=>?_)
 obtain ⟨hB9,hC9⟩:=hz5 (by rw [List.length_append,QaA];omega)
 simp only [] at hB9 hC9
 subst hB9 hC9
 refine YN (C':=HS w [] [.blk b2 u8T 512 (((Qch n.pl num lsn)).map bv),.blk b1 118 5 _]) (fun w9 h=>by have h8:=HS.byz_full (l:=(hdB num lsn n.es.length) ++ YG n.pl) (cap:=512) (g:=b2) aPk h (by decide);rw [hfu] at h8;exact h8) ?_
 refine aU3 ?_
 refine Qk (L':=[(2,_),(4,_),(5,_)]) aSx (fun _ h=>h) ?_
 refine QF [] QV ?_
 refine dP 0 ?_
 refine dV 1 rfl (Qp _ _ 0 512 rfl rfl Qy rfl ⟨_,_,rfl,rfl⟩ (by omega) (by omega)) ?_
 refine Q5 (show _ = Value.slice (some ⟨b2,0,none⟩) 512 512 from by first | (simp only [Yq];done) | (simp only [Yq];rfl)) ?_
 refine dQ 2 [] rfl (Yr rfl rfl Tryz.underlying139 Tryz.underlying9 Tryz.underlying5 aPk (by simp [hnl]) (QaU (Qch n.pl num lsn))) ?_
 refine Q5 (show _ = Value.string (bs (Qch n.pl num lsn)) from by rw [ZK]) ?_
 refine dFa 3 ?_
 refine dLd 4 [] ?_
 refine dQ 5 [] rfl (Q1 rfl Qtj rfl (fun w1 h1=>c149 w1 (Qch n.pl num lsn) usn hnl Qgy hu)) ?_
 refine dP 6 ?_
 refine dP 7 ?_
 refine dP 8 ?_
 refine dP 9 ?_
 refine dP 10 ?_
 refine dNi ?_
 refine aU5 ?_
 exact rT rfl rfl (fun w' h'=>⟨by rfl,h'.below⟩)
end Go.Proofs
namespace Gx
open Go Go.RowKit
section
variable {b : List UInt8} {num : Int} {n : Nd} {last : Nat}
theorem QgM (h : ¬ b.length = 512) : XD b num = ndE 10:=by unfold XD;rw [if_neg h]
theorem Qhd (h : b.length = 512) (hn : ¬ (1 ≤ num ∧ num ≤ 120)) : XD b num = ndE 2:=by unfold XD;rw [if_pos h,if_neg hn]
theorem Qew (h : b.length = 512) (hn : 1 ≤ num ∧ num ≤ 120) (ht : Xr b = true) : XD b num = ndE 31:=by unfold XD;rw [if_pos h,if_pos hn,if_pos ht]
theorem Qdh (h : b.length = 512) (hn : 1 ≤ num ∧ num ≤ 120) (ht : Xr b = false) (hr : rdB (QE b) = none) : XD b num = ndE 3:=by grind [XD]
theorem QbB (h : b.length = 512) (hn : 1 ≤ num ∧ num ≤ 120) (ht : Xr b = false) (hr : rdB (QE b) = some (n,last)) :
  XD b num = if QfW (QE b) num && zer ((QE b).drop last) then ⟨n,(ub4 (QE b) 8 : Int),(ub2 b 40 : Int),0⟩ else ndE 3:=by
 grind [XD]
theorem Qti {s : List UInt8} (h : QfW s num = true) : ub4 s 8 ≤ 2147483647:=by grind [QfW]
theorem QsX (h : b.length = 512) (hn : 1 ≤ num ∧ num ≤ 120) (ht : Xr b = false) (hr : rdB (QE b) = some (n,last)) (hx : ¬ (ub4 (QE b) 8 ≤ 2147483647 ∧ Qf1 n num (ub4 (QE b) 8 : Int) (ub2 b 40 : Int) = b)) : XD b num = ndE 3:=by
 rw [QbB h hn ht hr,if_neg]
 grind [ub4,QE,Qti,Qlm]
theorem Qvp (h : b.length = 512) (hn : 1 ≤ num ∧ num ≤ 120) (ht : Xr b = false) (hr : rdB (QE b) = some (n,last)) (hl : ub4 (QE b) 8 ≤ 2147483647) (hx : Qf1 n num (ub4 (QE b) 8 : Int) (ub2 b 40 : Int) = b) : XD b num = ⟨n,(ub4 (QE b) 8 : Int),(ub2 b 40 : Int),0⟩:=by
 rw [QbB h hn ht hr,if_pos ((Qlm h ht (by omega) hr hl).1 hx)]
theorem QoP {u v : Bool} (hu : u = true ↔ b.length = 512) (hv : v = true ↔ 1 ≤ num ∧ num ≤ 120) :
  (Xx [.int .i64 (bif u then 0 else 10),.int .i64 (bif v then 0 else 2)] = 0 → b.length = 512 ∧ (1 ≤ num ∧ num ≤ 120)) ∧
  (¬ Xx [.int .i64 (bif u then 0 else 10),.int .i64 (bif v then 0 else 2)] = 0 → XD b num = ndE (Xx [.int .i64 (bif u then 0 else 10),.int .i64 (bif v then 0 else 2)])):=by
 cases u with
 | false=>exact ⟨fun h=>absurd (show (10 : Int) = 0 from h) (by decide),fun _=>QgM fun h9=>by cases hu.2 h9⟩
 | true=>
  cases v with
  | false=>exact ⟨fun h=>absurd h (by decide),fun _=>Qhd (hu.1 rfl) fun h9=>by cases hv.2 h9⟩
  | true=>exact ⟨fun _=>⟨hu.1 rfl,hv.1 rfl⟩,fun h=>absurd rfl h⟩
theorem QtF (h : ¬ (XD b num).e = 0) : XD b num = ndE (XD b num).e:=by
 by_cases h1 : b.length = 512
 ·by_cases h2 : 1 ≤ num ∧ num ≤ 120
  ·cases h3 : Xr b with
   | true=>rw [Qew h1 h2 h3];rfl
   | false=>
    cases h4 : rdB (QE b) with
    | none=>rw [Qdh h1 h2 h3 h4];rfl
    | some q=>
     obtain ⟨n,last⟩:=q;have e:=QbB h1 h2 h3 h4;rw [e] at h ⊢;split
     ·grind
     ·rfl
  ·rw [Qhd h1 h2];rfl
 ·rw [QgM h1];rfl
theorem Qnq {s : List UInt8} (h : 1 ≤ ub2 s 16 ∧ ub2 s 16 ≤ 4) : rdB s = rdN s 64 (ub2 s 16):=by unfold rdB;rw [if_pos h]
theorem Qnp {s : List UInt8} (h : ¬ (1 ≤ ub2 s 16 ∧ ub2 s 16 ≤ 4)) : rdB s = none:=by unfold rdB;rw [if_neg h]
end
def nbE (t : Tre) (num lsn usn : Int) : Int:=if Qmj t = 0 then if (1 ≤ num ∧ num ≤ (t.ns.length : Int) - 1) ∧ (nth t.ns num.toNat).us = true then if (0 ≤ lsn ∧ lsn ≤ 2147483647) ∧ 1 ≤ usn ∧ usn ≤ 65535 then 0 else 2 else 6 else Qmj t
section
variable {t : Tre} {num lsn usn : Int}
end
end Gx
namespace Go.Proofs
open Go Go.RowKit Gx
attribute [local irreducible] Go.Calls Gx.S Gx.O Gx.D Gx.OpP Gx.OpQ Gx.OpH
set_option maxRecDepth 20000
theorem QfH : Y3 Tryz.prog 118 = some [(0,3),(3,1),(4,1)]:=by kernel_rfl
theorem QaH : QL Tryz.prog 118 = some [.bool false,.slice none 0 0,.slice none 0 0,.int .i64 0,.int .i64 0]:=by kernel_rfl
instance : TFn Tryz.prog 79:=⟨by kernel_rfl⟩
theorem Qdo : tsz Tryz.prog 118 = some (5,true):=by kernel_rfl
instance : TSz Tryz.prog 118 5 true:=⟨Qdo⟩
instance : TFn Tryz.prog 130:=⟨by kernel_rfl⟩
theorem c63 (w : World) (s : List UInt8) (num : Int) (hsl : s.length ≤ 1000000) : Calls Tryz.prog 63 #[.string (bs s),.int .i64 num] w fun en w'=>∃ g : LNd,en = .returned (.tuple #[.agg #[.bool g.us,.slice g.ea g.es.length g.ec,.slice g.ca g.cs.length g.cc,.int .i64 (XD s num).lsn,.int .i64 (XD s num).usn],.int .i64 (XD s num).e]) ∧ g.pl = (XD s num).n ∧ HS w [] [.ents 27 g.ea g.ec g.es,.kids g.ca g.cc g.cs] w':=by
 have hF:=QoP (b:=s) (num:=num) (u:=decide ((s.length : Int) = 512)) (v:=decide (1 ≤ num) && decide (num ≤ 120)) (by rw [decide_eq_true_eq];omega) (by simp only [Bool.and_eq_true,decide_eq_true_eq])
 refine eN2 Tryz.func63 Tryz.ntmps63 ?_
 refine aU2 ?_
 refine oAl (fun b1 _=>?_) QaH
 refine aU6 ?_
 refine oCq rfl (fun w1 h1=>QuT w1 _) ?_
 refine aU ?_
 refine oCq rfl (fun w1 h1=>c87 w1 _ _ _) ?_
 refine oCq rfl (fun w1 h1=>c60 w1 _ _) ?_
 refine o_h (Qm (cs:=[_,_]) rfl rfl Zp QcS rfl rfl rfl) rfl (fun b2 _=>?_)
 refine oCq rfl (fun w1 h1=>f59 h1 aPk (by rfl) (by rfl) (by decide)) ?_
 refine aU7 ?_
 refine sCd rfl (fun h3=>?_) fun h3=>?_
 ·have hR:=hF.2 h3
  refine aU2 ?_
  refine o_p (Q7 (cs:=[_,_,_,_,_]) rfl rfl QfH QaH rfl) rfl ?_
  refine aU4 ?_
  exact Qs (rs:=[.cell 4 118,.tmp 5]) rfl (.cell rfl Qdo aPk rfl (.tmp rfl (.nil))) (fun w' h'=>⟨⟨false,none,0,[],none,0,[]⟩,by rw [hR];rfl,by rw [hR];rfl,((h'.nil.own_nil 3 1).own_nil 27 2).ent aEt⟩)
 obtain ⟨hs5,hn5⟩:=hF.1 h3
 refine aU4 ?_
 refine oCq rfl (fun w1 h1=>c130 w1 s hsl) ?_
 refine QgI ?_
 refine sCd rfl (fun h4=>?_) fun h4=>?_
 ·have ht : Xr s = true:=by cases ht : Xr s;have hq:=h4;rw [Qhz hs5 ht] at hq;exact absurd rfl hq;rfl
  have hR:=Qew hs5 hn5 ht
  refine aU2 ?_
  refine o_p (Q7 (cs:=[_,_,_,_,_]) rfl rfl QfH QaH rfl) rfl ?_
  refine aU3 ?_
  exact Qs (rs:=[.cell 4 118,.tmp 5]) rfl (.cell rfl Qdo aPk rfl (.tmp rfl (.nil))) (fun w' h'=>⟨⟨false,none,0,[],none,0,[]⟩,by rw [hR];rfl,by rw [hR];rfl,((h'.nil.own_nil 3 1).own_nil 27 2).ent aEt⟩)
 have ht : Xr s = false:=by cases ht : Xr s;rfl;have hq:=h4;rw [Qgj hs5 ht] at hq;cases hq
 rw [Qhz hs5 ht]
 dsimp only
 have hol9:=YU hs5
 obtain ⟨o,ho⟩ : ∃ o,o = QE s:=⟨_,rfl⟩
 rw [← ho]
 rw [← ho] at hol9
 have hol : o.length = 512:=hol9
 have hdl : ∀ k,k ≤ 512 → (o.drop k).length = 512 - k:=fun k hk=>by rw [List.length_drop,hol]
 have hb4:=QlQ o 8
 have hb2:=QcW o 16
 have hu40:=QcW s 40
 have hu0 : 1 ≤ ub2 s 40:=by have:=(QiA.1 ht).1;omega
 refine aU4 ?_
 refine o_h (Z8 rfl rfl Tryz.underlying9 Tryz.underlying139 Tryz.underlying5 rfl (by simp only [maxLen];omega)) rfl (fun ⟨b5,c6⟩ ⟨h7,k8⟩=>?_)
 refine aU5 ?_
 refine o_p (Qp _ _ 16 o.length rfl rfl Qy ⟨_,_,rfl,rfl⟩ rfl (by omega) (by omega)) rfl ?_
 refine Qf (show _ = Value.slice (Xy (some ⟨b5,0,none⟩) c6 16 1) (512 - 16) (c6 - 16) from by rw [hol]) ?_
 refine oCq rfl (fun w1 h1=>Qrs w1 (Xy (some ⟨b5,0,none⟩) c6 16 1) (512 - 16) (c6 - 16) (o.drop 16) (by have h9:=(h1.vl_blk (cs:=o.map bv) aPk).dropA (k:=16) (cap:=c6) (by rw [List.length_map];omega) (by rw [List.length_map];omega);rw [← List.map_drop] at h9;exact h9) (hdl 16 (by omega)) (by omega) (by omega) (by simp only [maxLen] at *;omega)) ?_
 refine Qf (show _ = Value.int .u16 ((ub2 o 16 : Nat) : Int) from by rw [Qap,Nat.add_zero,Qb3]) ?_
 refine o_p (Qg rfl rfl XW Yf) rfl ?_
 try refine oWr ?_
 refine aU4 ?_
 refine Qk (L':=[(0,_),(1,_),(4,_),(5,_),(8,_),(10,_),(11,_)]) aSx (fun _ h=>h) ?_
 refine aU2 ?_
 refine oCq rfl (fun w1 h1=>c87 w1 _ _ _) ?_
 refine aU2 ?_
 refine sCd rfl (fun h9=>?_) fun h9=>?_
 ·have hR:=Qdh hs5 hn5 ht (by rw [← ho];exact Qnp (by have hq:=h9;intro h9;simp at hq;omega))
  refine aU2 ?_
  refine o_p (Q7 (cs:=[_,_,_,_,_]) rfl rfl QfH QaH rfl) rfl ?_
  refine aU3 ?_
  exact Qs (rs:=[.cell 4 118,.tmp 5]) rfl (.cell rfl Qdo aPk rfl (.tmp rfl (.nil))) (fun w' h'=>⟨⟨false,none,0,[],none,0,[]⟩,by rw [hR];rfl,by rw [hR];rfl,((h'.nil.own_nil 3 1).own_nil 27 2).ent aEt⟩)
 have hct : 1 ≤ ub2 o 16 ∧ ub2 o 16 ≤ 4:=by have hq:=h9;omega
 have hrb:=Qnq hct
 refine aU4 ?_
 refine o_p (Qp _ _ 64 o.length rfl rfl Qy ⟨_,_,rfl,rfl⟩ rfl (by omega) (by omega)) rfl ?_
 refine aU ?_
 refine oCh rfl (fun w1 h1=>c92 w1 o 64 (ub2 o 16) (Xy (some ⟨b5,0,none⟩) c6 64 1) (c6 - 64) (by have h9:=(h1.vl_blk (cs:=o.map bv) aPk).dropA (k:=64) (cap:=c6) (by rw [List.length_map];omega) (by rw [List.length_map];omega);rw [← List.map_drop] at h9;exact h9) (by rw [hol];decide) (by rw [hol];decide) (by rw [hol];omega) (by simp only [maxLen] at *;omega) (by omega)) (fun ⟨gn,gr,gl,gc⟩ hgn=>?_)
 refine aU4 ?_
 refine oAl (fun b10 _=>?_) Y6
 refine aU5 ?_
 refine QF [8] QV ?_
 refine dLn 0 [[]] ?_
 refine dP 1 ?_
 refine dV 2 rfl (Qp _ _ 8 o.length rfl rfl Qy ⟨_,_,rfl,rfl⟩ rfl (by omega) (by omega)) ?_
 refine Q5 (show _ = Value.slice (Xy (some ⟨b5,0,none⟩) c6 8 1) (512 - 8) (c6 - 8) from by rw [hol]) ?_
 refine dQ 3 [[]] rfl (Q1 rfl QoF rfl (fun w1 h1=>c132 w1 (Xy (some ⟨b5,0,none⟩) c6 8 1) (512 - 8) (c6 - 8) (o.drop 8) (by have h9:=(h1.vl_blk (cs:=o.map bv) aPk).dropA (k:=8) (cap:=c6) (by rw [List.length_map];omega) (by rw [List.length_map];omega);rw [← List.map_drop] at h9;exact h9) (hdl 8 (by omega)) (by omega) (by omega) (by simp only [maxLen] at *;omega))) ?_
 refine Q5 (show _ = Value.int .u32 ((ub4 o 8 : Nat) : Int) from by rw [QfM,Nat.add_zero,QfA]) ?_
 refine dV 4 rfl (Qg rfl rfl YA Yf) ?_
 try refine dWr ?_
 refine dP 5 ?_
 refine dV 6 rfl (Q7 (cs:=[_,_,_,_,_]) rfl rfl QfH QaH rfl) ?_
 refine dH 7 rfl (QbP rfl QaH) (fun b11 _=>?_)
 refine dBa ?_
 refine dSt 8 ?_ (hl:=(by simp only [Qd,List.length_set,List.length_cons,List.length_nil,List.length_map];omega))
 refine dTu [] ?_
 refine dNi ?_
 refine aU6 ?_
 refine oOr 4 63 67 rfl
  (fun hg12 _=>by
   refine aU6 ?_
   exact oJf 4 67)
  (fun hg14 _=>by
   refine aU3 ?_
   exact oJt 4 67) ?_
 refine aU ?_
 refine oOr 6 68 74 rfl
  (fun hg16 _=>by
   refine aU4 ?_
   have hq9:=hg16
   obtain ⟨⟨n9,e9⟩,hrd⟩ : ∃ q,rdN o 64 (ub2 o 16) = some q:=Option.isSome_iff_exists.1 (by grind)
   have hls : ub4 o 8 ≤ 2147483647:=by grind
   obtain ⟨hpl9,_⟩:=hgn.1 _ _ hrd
   obtain ⟨_,q2,q3,q4,q5,q6⟩:=QcO hol (hrb.trans hrd)
   have hcb : (YG gn.pl).length ≤ 448:=by rw [hpl9,QiG hol (hrb.trans hrd)];omega
   have hnp : NdP gn.pl:=by rw [hpl9];exact q6.ndp (by omega)
   refine aU ?_
   refine oCq rfl (fun w1 h1=>c79 w1 gn num ((ub4 o 8 : Nat) : Int) ((ub2 s 40 : Nat) : Int) (h1.rw_own ev2 aPk rfl) (h1.rw_own iv1 aPk rfl) hnp hcb (by omega) (by omega) (by omega)) ?_
   refine aU4 ?_
   exact oJf 6 74)
  (fun hg18 _=>by
   refine aU5 ?_
   exact oJt 6 74) ?_
 refine aU ?_
 refine sCd rfl (fun h20=>?_) fun h20=>?_
 ·have hR : XD s num = ndE 3:=by cases hr : rdN o 64 (ub2 o 16) with | none=>exact Qdh hs5 hn5 ht (by rw [← ho];exact hrb.trans hr) | some q=>(obtain ⟨n9,e9⟩:=q;have hp9:=(hgn.1 _ _ hr).1;refine QsX hs5 hn5 ht (by rw [← ho];exact hrb.trans hr) (fun h9=>?_);rw [← ho] at h9;have hq:=h20;rw [hr,hp9] at hq;have h91:=h9.1;have h92:=h9.2;simp [h92] at hq;omega)
  refine aU ?_
  refine Qk (L':=[(4,_),(5,_),(15,_)]) aSx (fun _ h=>h) ?_
  refine aU ?_
  refine o_p (Q7 (cs:=[_,_,_,_,_]) rfl rfl QfH QaH rfl) rfl ?_
  refine aU3 ?_
  exact Qs (rs:=[.cell 4 118,.tmp 5]) rfl (.cell rfl Qdo aPk rfl (.tmp rfl (.nil))) (fun w' h'=>⟨⟨false,none,0,[],none,0,[]⟩,by rw [hR];rfl,by rw [hR];rfl,((h'.nil.own_nil 3 1).own_nil 27 2).ent aEt⟩)
 obtain ⟨⟨n9,e9⟩,hrd⟩ : ∃ q,rdN o 64 (ub2 o 16) = some q:=Option.isSome_iff_exists.1 (by have hq:=h20;grind)
 obtain ⟨hpl9,_⟩:=hgn.1 _ _ hrd
 have hR:=Qvp hs5 hn5 ht (by rw [← ho];exact hrb.trans hrd) (by rw [← ho];have hq:=h20;grind) (by rw [← ho,← hpl9];have hq:=h20;grind)
 rw [← ho] at hR
 refine aU2 ?_
 refine Qk (L':=[(4,_),(5,_),(15,_)]) aSx (fun _ h=>h) ?_
 refine aU5 ?_
 exact Qs (rs:=[.cell 4 118,.tmp 5]) rfl (.cell rfl Qdo aPk rfl (.tmp rfl (.nil))) (fun w' h'=>⟨gn,by rw [hR];rfl,by rw [hR];exact hpl9,h'.ent aEt⟩)
instance : TFn Tryz.prog 63:=⟨by kernel_rfl⟩
def rpT (s : List UInt8) (u : Int) : Nat → List UInt8
  | 0=>le2 u
  | i + 1=>rpT s u i ++ Ql s (tlA i) 2
def rpS (s : List UInt8) (u : Int) : Nat → List UInt8
  | 0=>s
  | i + 1=>QC (rpS s u i) (tlA i) (le2 u)
theorem Qc9 {s : List UInt8} {u : Int} (h : s.length = 512) : ∀ i,i ≤ 8 → (rpS s u i).length = 512
  | 0,_=>h
  | i + 1,hi=>by
    have h1:=Qc9 (u:=u) h i (by omega);show (QC _ _ _).length = 512;rw [Xw (by rw [h1];show tlA i + 2 ≤ 512;unfold tlA;omega),h1]
theorem Qha {s : List UInt8} {u : Int} (h : s.length = 512) : ∀ i,i ≤ 8 → ∀ j,i ≤ j → j < 8 → Ql (rpS s u i) (tlA j) 2 = Ql s (tlA j) 2
  | 0,_,_,_,_=>rfl
  | i + 1,hi,j,hj,h8=>by
    have h1:=Qc9 (u:=u) h i (by omega);show Ql (QC _ _ _) _ _ = _;rw [QaG (by rw [h1];show tlA i + 2 ≤ 512;unfold tlA;omega) (.inr (by show tlA i + 2 ≤ tlA j;unfold tlA;omega))];exact Qha h i (by omega) j (by omega) h8
theorem Qet {s : List UInt8} {u : Int} (h : s.length = 512) : ∀ i,i ≤ 8 → (rpT s u i).length = 2 + 2 * i
  | 0,_=>rfl
  | i + 1,hi=>by
    show (rpT s u i ++ Ql s (tlA i) 2).length = _;rw [List.length_append,Qet h i (by omega),QI (by unfold tlA;omega)];omega
theorem Qgr {l x y : List UInt8} {p q : Nat} (hp : p + x.length ≤ l.length) (hq : q + y.length ≤ l.length) (hd : p + x.length ≤ q ∨ q + y.length ≤ p) : QC (QC l p x) q y = QC (QC l q y) p x:=by
  apply List.ext_getElem?;intro j;rw [Yh (by rw [Xw hp];exact hq),Yh hp,Yh (by rw [Xw hq];exact hp),Yh hq]
  by_cases h1 : j < p <;> by_cases h2 : j < q <;> by_cases h3 : j < p + x.length <;> by_cases h4 : j < q + y.length <;> simp only [h1,h2,h3,h4,if_true,if_false] <;> omega
theorem Qpc {s : List UInt8} {u : Int} (h : s.length = 512) : ∀ i,i ≤ 8 → prI s u i = QC (rpS s u i) 40 (rpT s u i)
  | 0,_=>rfl
  | i + 1,hi=>by
    have ih:=Qpc (u:=u) h i (by omega);have hS:=Qc9 (u:=u) h i (by omega);have hT:=Qet (u:=u) h i (by omega)
    have hsub : Ql (prI s u i) (tlA i) 2 = Ql s (tlA i) 2:=by
      rw [ih,QaG (by rw [hS,hT];omega) (.inr (by rw [hT];unfold tlA;omega)),Qha h i (by omega) i (Nat.le_refl _) (by omega)]
    have h2 : (Ql s (tlA i) 2).length = 2:=QI (by unfold tlA;omega);show QC (QC (prI s u i) (42 + 2 * i) (Ql (prI s u i) (tlA i) 2)) (tlA i) (le2 u) = QC (QC (rpS s u i) (tlA i) (le2 u)) 40 (rpT s u i ++ Ql s (tlA i) 2);have e9:=Qgk (l:=rpS s u i) (p:=40) (q:=42 + 2 * i) (x:=rpT s u i) (y:=Ql s (tlA i) 2) (by rw [hT];omega) (by rw [hT,hS,h2];omega);rw [hsub,ih,e9];have hx : (rpT s u i ++ Ql s (tlA i) 2).length = 4 + 2 * i:=by rw [List.length_append,hT,h2];omega
    exact Qgr (by rw [hx,hS];omega) (by rw [hS];show tlA i + 2 ≤ 512;unfold tlA;omega) (.inl (by rw [hx];unfold tlA;omega))
theorem Qre {s : List UInt8} {u : Int} (h : s.length = 512) : Qa1 s u = QC (rpS s u 8) 40 (rpT s u 8):=Qpc h 8 (Nat.le_refl _)
instance : TFn Tryz.prog 54:=⟨by kernel_rfl⟩
theorem c103 (w : World) (s : List UInt8) (u : Int) (h5 : s.length = 512) (hu : 0 ≤ u ∧ u < 65536) : Calls Tryz.prog 103 #[.string (bs s),.int .i64 u] w fun en w'=>en = .returned (.string (bs (Qa1 s u))) ∧ Below w.heap.size w w':=by
 refine eN2 Tryz.func103 Tryz.ntmps103 ?_
 refine aU7 ?_
 refine oCq rfl (fun w1 h1=>by have h9:=c94 w1 (u) 2 (by omega) (by omega);rw [Qqn] at h9;exact h9) ?_
 refine aU8 ?_
 refine Qo (α:=Nat) [0,5,6,7,10,11,12,13,14,15,16,17,18,19,20,21,22,23,24,25,26,27,28] (fun k=>[(6,.int .i64 ((k : Int) + 1)),(0,.string (bs (rpS s u k))),(5,.string (bs (rpT s u k)))]) (fun _=>HS w [] []) (fun k=>k ≤ 8) (fun k=>8 - k) 0 (Nat.zero_le _) aSx (fun w h=>h.ent aEt) (fun k hk8=>?_)
 refine aU6 ?_
 refine sCd rfl (fun h1=>?_) fun h1=>?_
 ·have hk : k < 8:=by omega
  have hsl:=Qc9 (u:=u) h5 k hk8
  have htl:=Qet (u:=u) h5 k hk8
  have hsb:=Qha (u:=u) h5 k hk8 k (Nat.le_refl _) hk
  have ht9 : tlA k = 64 * k + 62:=rfl
  have hxl : (Ql (rpS s u k) (tlA k) 2).length = 2:=QI (by omega)
  refine aT7 ?_
  refine aT ?_
  refine Qf (show _ = Value.int .i64 ((tlA k : Nat) : Int) from congrArg (Value.int .i64) (by unfold tlA;omega)) ?_
  refine aT9 ?_
  refine o_p (QZ _ _ (tlA k) (tlA k + 2) rfl rfl Tryz.underlying9 ⟨_,_,rfl,rfl⟩ ⟨_,_,rfl,(by omega)⟩ (by omega) (by omega)) rfl ?_
  refine Qf (show _ = Value.string (bs (Ql (rpS s u k) (tlA k) 2)) from by rw [Z7 (n:=2) rfl]) ?_
  refine o_p (QbS rfl rfl rfl (by (try simp only [List.length_append,List.length_cons,List.length_nil,List.length_replicate,List.length_take,List.length_drop]);omega)) rfl ?_
  refine aU6 ?_
  refine oCq rfl (fun w1 h1=>by have h9:=c94 w1 (u) 2 (by omega) (by omega);rw [Qqn] at h9;exact h9) ?_
  refine oCq rfl (fun w1 h1=>c54 w1 (rpS s u k) (tlA k) (le2 u) (by show tlA k + 2 ≤ _;omega) (by omega)) ?_
  refine aT6 ?_
  refine Qf (show _ = Value.int .i64 (((k + 1 : Nat) : Int) + 1) from congrArg (Value.int .i64) (by omega)) ?_
  refine aU2 ?_
  exact sBk (k + 1) (by omega) (by omega) (by rw [show (rpT s u (k + 1)) = rpT s u k ++ Ql s (tlA k) 2 from rfl,← hsb];exact aSx)
 obtain rfl : k = 8:=by omega
 have hsl:=Qc9 (u:=u) h5 8 hk8
 have htl:=Qet (u:=u) h5 8 hk8
 refine Qh rfl ?_
 refine aU4 ?_
 refine oCq rfl (fun w1 h1=>c54 w1 (rpS s u 8) 40 (rpT s u 8) (by omega) (by omega)) ?_
 refine aU2 ?_
 exact rT rfl rfl (fun w' h'=>⟨by rw [Qre h5];rfl,h'.below⟩)
def roI (s : List UInt8) : Nat → List UInt8
  | 0=>QC s 40 (List.replicate 18 0)
  | i + 1=>QC (roI s i) (tlA i) (Ql s (42 + 2 * i) 2)
theorem QlR {s : List UInt8} (h : s.length = 512) : ∀ i,i ≤ 8 → (roI s i).length = 512
  | 0,_=>by
    show (QC _ _ _).length = 512;rw [Xw (by rw [h];decide),h]
  | i + 1,hi=>by
    have h1:=QlR h i (by omega);have h2 : (Ql s (42 + 2 * i) 2).length = 2:=QI (by omega);show (QC _ _ _).length = 512;rw [Xw (by rw [h1,h2];unfold tlA;omega),h1]
theorem QkM {s : List UInt8} (h : s.length = 512) : ∀ i,i ≤ 8 → ∀ j,j < 8 → Ql (opI s i) (42 + 2 * j) 2 = Ql s (42 + 2 * j) 2
  | 0,_,_,_=>rfl
  | i + 1,hi,j,h8=>by
    have h1:=ZE h i (by omega);have h2 : (Ql (opI s i) (42 + 2 * i) 2).length = 2:=QI (by omega);show Ql (QC _ _ _) _ _ = _;rw [QaG (by rw [h1,h2];unfold tlA;omega) (.inl (by unfold tlA;omega))];exact QkM h i (by omega) j h8
theorem QnN {s : List UInt8} (h : s.length = 512) : ∀ i,i ≤ 8 → roI s i = QC (opI s i) 40 (List.replicate 18 0)
  | 0,_=>rfl
  | i + 1,hi=>by
    have ih:=QnN h i (by omega);have h1:=ZE h i (by omega);have h2 : (Ql s (42 + 2 * i) 2).length = 2:=QI (by omega);show QC (roI s i) (tlA i) (Ql s (42 + 2 * i) 2) = QC (QC (opI s i) (tlA i) (Ql (opI s i) (42 + 2 * i) 2)) 40 (List.replicate 18 0);rw [ih,QkM h i (by omega) i (by omega)];exact Qgr (by rw [h1];decide) (by rw [h1,h2];unfold tlA;omega) (.inl (by show 40 + 18 ≤ tlA i;unfold tlA;omega))
theorem QqJ {s : List UInt8} (h : s.length = 512) : QE s = roI s 8:=(QnN h 8 (Nat.le_refl _)).symm
theorem QpT {s : List UInt8} (h : ∀ i,i < 8 → Qat s i = false) : Xr s = false:=by
  cases hb : Xr s with
  | false=>rfl
  | true=>
    obtain ⟨i,hi,h1⟩:=List.any_eq_true.1 hb;rw [h i (List.mem_range.1 hi)] at h1;cases h1
theorem Qoi {s : List UInt8} {i : Nat} (hi : i < 8) (h : Qat s i = true) : Xr s = true:=List.any_eq_true.2 ⟨i,List.mem_range.2 hi,h⟩
theorem c102 (w : World) (s : List UInt8) (h5 : s.length = 512) : Calls Tryz.prog 102 #[.string (bs s)] w fun en w'=>en = .returned (.tuple #[.string (bs (if Xr s = true then [] else QE s)),.bool (!Xr s)]) ∧ Below w.heap.size w w':=by
 refine eN1 Tryz.func102 Tryz.ntmps102 ?_
 refine aU8 ?_
 refine oCq rfl (fun w1 h1=>by have h9:=c72 w1 s (40) 2 (by omega) (by omega) (by omega);rw [Qcu,Qb3] at h9;exact h9) ?_
 refine aU5 ?_
 refine oCq rfl (fun w1 h1=>c86 w1 18 (by omega)) ?_
 refine oCq rfl (fun w1 h1=>c54 w1 s 40 (List.replicate 18 0) (by rw [List.length_replicate];omega) (by omega)) ?_
 refine aU8 ?_
 refine Qo (α:=Nat) [2,3,5,6,7,13,14,15,16,17,18,19,20,21,22,23,24,25,26,27,28,29,30,31,32,33,34,35,36,37,38,39,40] (fun k=>[(6,.int .i64 ((k : Int) + 1)),(5,.string (bs (roI s k)))]) (fun _=>HS w [] []) (fun k=>k ≤ 8 ∧ ∀ i,i < k → Qat s i = false) (fun k=>8 - k) 0 ⟨Nat.zero_le _,fun i h=>absurd h (Nat.not_lt_zero _)⟩ aSx (fun w h=>h.ent aEt) (fun k hkk=>?_)
 obtain ⟨hk8,hkt⟩:=hkk
 refine aU6 ?_
 refine sCd rfl (fun h1=>?_) fun h1=>?_
 ·have hk : k < 8:=by omega
  have hol:=QlR h5 k hk8
  have ht9 : tlA k = 64 * k + 62:=rfl
  have hxl : (Ql s (42 + 2 * k) 2).length = 2:=QI (by omega)
  refine aT7 ?_
  refine aT ?_
  refine Qf (show _ = Value.int .i64 ((tlA k : Nat) : Int) from congrArg (Value.int .i64) (by unfold tlA;omega)) ?_
  refine aU8 ?_
  refine oOr 6 22 28 rfl
   (fun hg2 _=>by
    refine aU5 ?_
    refine oCq rfl (fun w1 h1=>by have h9:=c72 w1 s (tlA k) 2 (by omega) (by omega) (by omega);rw [Qcu,Qb3] at h9;exact h9) ?_
    refine aU4 ?_
    exact oJf 6 28)
   (fun hg4 _=>by
    refine aU5 ?_
    exact oJt 6 28) ?_
  refine aU ?_
  refine sCd rfl (fun h6=>?_) fun h6=>?_
  ·have hTB : Xr s = true:=Qoi hk (decide_eq_true (by have hq:=h6;omega))
   refine aU5 ?_
   exact Qs (rs:=[.tmp 2,.tmp 3]) rfl (.tmp rfl (.tmp rfl (.nil))) (fun w' h'=>⟨by rw [hTB];rfl,h'.below⟩)
  have hT : Qat s k = false:=decide_eq_false (by have hq:=h6;omega)
  refine aT7 ?_
  refine aT ?_
  refine aT2 ?_
  refine aT ?_
  refine aT ?_
  refine o_p (QZ _ _ (42 + 2 * k) (42 + 2 * k + 2) rfl rfl Tryz.underlying9 ⟨_,_,rfl,(by omega)⟩ ⟨_,_,rfl,(by omega)⟩ (by omega) (by omega)) rfl ?_
  refine Qf (show _ = Value.string (bs (Ql s (42 + 2 * k) 2)) from by rw [Z7 (n:=2) rfl]) ?_
  refine oCq rfl (fun w1 h1=>c54 w1 (roI s k) (tlA k) (Ql s (42 + 2 * k) 2) (by omega) (by omega)) ?_
  refine aU3 ?_
  refine Qk (L':=[(0,_),(4,_),(5,_),(6,_),(8,_),(9,_),(10,_),(11,_),(12,_)]) aSx (fun _ h=>h) ?_
  refine aT3 ?_
  refine Qf (show _ = Value.int .i64 (((k + 1 : Nat) : Int) + 1) from congrArg (Value.int .i64) (by omega)) ?_
  refine aU2 ?_
  exact sBk (k + 1) (by omega) ⟨by omega,fun i hi=>(Nat.lt_or_ge i k).elim (hkt i) (fun h=>by obtain rfl : i = k:=(by omega);exact hT)⟩
 obtain rfl : k = 8:=by omega
 have hTB:=QpT hkt
 refine Qh rfl ?_
 refine aU6 ?_
 exact Qs (rs:=[.tmp 2,.tmp 3]) rfl (.tmp rfl (.tmp rfl (.nil))) (fun w' h'=>⟨by rw [hTB,QqJ h5];rfl,h'.below⟩)
instance : TFn Tryz.prog 102:=⟨by kernel_rfl⟩
theorem c39 (w : World) (s : List UInt8) (num : Int) (hsl : s.length ≤ 1000000) : Calls Tryz.prog 39 #[.string (bs s),.int .i64 num] w fun en w'=>∃ g : LNd,en = .returned (.tuple #[.agg #[.bool g.us,.slice g.ea g.es.length g.ec,.slice g.ca g.cs.length g.cc],.int .i64 (XD s num).lsn,.int .i64 (XD s num).usn,.int .i64 (XD s num).e]) ∧ g.pl = (XD s num).n ∧ HS w [] [.ents 27 g.ea g.ec g.es,.kids g.ca g.cc g.cs] w':=by
 refine eN2 Tryz.func39 Tryz.ntmps39 ?_
 refine aU2 ?_
 refine oAl (fun b1 _=>?_) Y6
 refine aU6 ?_
 refine o_p (Q7 (cs:=[_,_,_]) rfl rfl QkY Y6 rfl) rfl ?_
 refine oAl (fun b2 _=>?_) Y6
 refine aU6 ?_
 refine o_p (Qj rfl rfl Tryz.underlying9) rfl ?_
 refine aU2 ?_
 refine sCd rfl (fun h3=>?_) fun h3=>?_
 ·have hR : XD s num = ndE 10:=QgM (by have hq:=h3;omega)
  refine aU8 ?_
  exact Qs (rs:=[.cell 4 69,.tmp 5,.tmp 6,.tmp 7]) rfl (.cell rfl YB aPk rfl (.tmp rfl (.tmp rfl (.tmp rfl (.nil))))) (fun w' h'=>⟨⟨false,none,0,[],none,0,[]⟩,by rw [hR];rfl,by rw [hR];rfl,((h'.nil.own_nil 3 1).own_nil 27 2).ent aEt⟩)
 have hs5 : s.length = 512:=by have hq:=h3;omega
 refine aU5 ?_
 refine oCq rfl (fun w1 h1=>c40 w1 _ _ _) ?_
 refine aU2 ?_
 refine sCd rfl (fun h4=>?_) fun h4=>?_
 ·have hR : XD s num = ndE 2:=Qhd hs5 (by have hq:=h4;grind)
  refine aU8 ?_
  exact Qs (rs:=[.cell 4 69,.tmp 5,.tmp 6,.tmp 7]) rfl (.cell rfl YB aPk rfl (.tmp rfl (.tmp rfl (.tmp rfl (.nil))))) (fun w' h'=>⟨⟨false,none,0,[],none,0,[]⟩,by rw [hR];rfl,by rw [hR];rfl,((h'.nil.own_nil 3 1).own_nil 27 2).ent aEt⟩)
 have hn5 : 1 ≤ num ∧ num ≤ 120:=by have hq:=h4;grind
 refine aU4 ?_
 refine oCq rfl (fun w1 h1=>c102 w1 s hs5) ?_
 refine QaE ?_
 refine sCd rfl (fun h5=>?_) fun h5=>?_
 ·have ht : Xr s = true:=by have hq:=h5;grind
  have hR:=Qew hs5 hn5 ht
  refine aU8 ?_
  exact Qs (rs:=[.cell 4 69,.tmp 5,.tmp 6,.tmp 7]) rfl (.cell rfl YB aPk rfl (.tmp rfl (.tmp rfl (.tmp rfl (.nil))))) (fun w' h'=>⟨⟨false,none,0,[],none,0,[]⟩,by rw [hR];rfl,by rw [hR];rfl,((h'.nil.own_nil 3 1).own_nil 27 2).ent aEt⟩)
 have ht : Xr s = false:=by have hq:=h5;grind
 rw [ht]
 rw [if_neg Bool.false_ne_true]
 have hol9:=YU hs5
 obtain ⟨o,ho⟩ : ∃ o,o = QE s:=⟨_,rfl⟩
 rw [← ho]
 rw [← ho] at hol9
 have hol : o.length = 512:=hol9
 have hb2:=QcW o 16
 refine aU4 ?_
 refine oCq rfl (fun w1 h1=>by have h9:=c72 w1 o (8) 4 (by omega) (by omega) (by omega);rw [YP,QfA] at h9;exact h9) ?_
 refine aU ?_
 refine oCq rfl (fun w1 h1=>by have h9:=c72 w1 o (16) 2 (by omega) (by omega) (by omega);rw [Qcu,Qb3] at h9;exact h9) ?_
 refine aU5 ?_
 refine o_p (Q7 (cs:=[_,_,_]) rfl rfl QkY Y6 rfl) rfl ?_
 refine oAl (fun b6 _=>?_) Y6
 refine aU6 ?_
 refine Qk (L':=[(0,_),(1,_),(4,_),(5,_),(6,_),(7,_),(8,_),(9,_),(11,_),(12,_),(13,_),(14,_),(15,_)]) aSx (fun _ h=>h) ?_
 refine aU2 ?_
 refine oCq rfl (fun w1 h1=>c40 w1 _ _ _) ?_
 refine aU ?_
 refine Zq (α:=LNd × Nat × Bool) [14,15,40,41,42,43,44,45,46] (fun x=>[(14,.int .i64 (x.2.1 : Int)),(15,.bool x.2.2)]) (fun x=>HS w [] [.blk b6 69 3 (LNd.vals x.1),.ents 27 x.1.ea x.1.ec x.1.es,.kids x.1.ca x.1.cc x.1.cs,.blk b2 69 3 [.bool false,.slice none 0 0,.slice none 0 0],.blk b1 69 3 [.bool false,.slice none 0 0,.slice none 0 0]]) (fun x=>x.2.2 = (rdB o).isSome ∧ (∀ nd e,rdB o = some (nd,e) → x.1.pl = nd ∧ x.2.1 = e)) ?_ ?_
 ·skip
  refine sCd rfl (fun h7=>?_) fun h7=>?_
  ·have hct : 1 ≤ ub2 o 16 ∧ ub2 o 16 ≤ 4:=by have hq:=h7;omega
   have hrb:=Qnq hct
   refine aU3 ?_
   refine oCh rfl (fun w1 h1=>c98 w1 o 64 (ub2 o 16) (by omega) (by omega) (by omega)) (fun ⟨gn,gl⟩ hgn=>?_)
   refine aU8 ?_
   exact QA (gn,gl,(rdN o 64 (ub2 o 16)).isSome) ⟨by rw [hrb],fun nd e h9=>hgn.1 nd e (by rw [← hrb];exact h9)⟩ aSx (fun w h=>h.ent aEt)
  have hrb : rdB o = none:=Qnp (by have hq:=h7;omega)
  refine aU ?_
  exact QA (⟨false,none,0,[],none,0,[]⟩,0,false) ⟨by rw [hrb];rfl,fun nd e h9=>(by rw [hrb] at h9;cases h9)⟩ aSx (fun w h=>((h.own_nil 3 1).own_nil 27 2).ent aEt)
 intro ⟨gn,gl,gk⟩ ⟨hg8,hg9⟩
 dsimp only
 simp only [] at hg8 hg9
 refine aU6 ?_
 refine oOr 4 49 53 rfl
  (fun hg8 _=>by
   refine aU3 ?_
   refine o_p (YQ 4 rfl rfl rfl Tryz.underlying9 rfl (by omega)) rfl ?_
   refine Qf (show _ = Value.string (bs (o.take 4)) from rfl) ?_
   refine aU2 ?_
   exact oJf 4 53)
  (fun hg10 _=>by
   refine aU3 ?_
   exact oJt 4 53) ?_
 refine aU ?_
 refine oOr 5 54 59 rfl
  (fun hg12 _=>by
   refine aU3 ?_
   refine o_p (QZ _ _ 4 8 rfl rfl Tryz.underlying9 ⟨_,_,rfl,rfl⟩ ⟨_,_,rfl,rfl⟩ (by omega) (by omega)) rfl ?_
   refine Qf (show _ = Value.string (bs (Ql o 4 4)) from by rw [Z7 (n:=4) rfl]) ?_
   refine aU ?_
   refine oCq rfl (fun w1 h1=>c53 w1 (Ql o 4 4) (by rw [QI (by omega)];omega)) ?_
   refine aU2 ?_
   exact oJf 5 59)
  (fun hg14 _=>by
   refine aU4 ?_
   exact oJt 5 59) ?_
 refine aU ?_
 refine oOr 4 60 64 rfl
  (fun hg16 _=>by
   refine aU3 ?_
   refine oCq rfl (fun w1 h1=>c35 w1 _) ?_
   refine aU2 ?_
   exact oJf 4 64)
  (fun hg18 _=>by
   refine aU3 ?_
   exact oJt 4 64) ?_
 refine aU ?_
 refine oOr 5 65 70 rfl
  (fun hg20 _=>by
   refine aU3 ?_
   refine oCq rfl (fun w1 h1=>by have h9:=c72 w1 o (12) 4 (by omega) (by omega) (by omega);rw [YP,QfA] at h9;exact h9) ?_
   refine aU4 ?_
   exact oJf 5 70)
  (fun hg22 _=>by
   refine aU4 ?_
   exact oJt 5 70) ?_
 refine aU ?_
 refine oOr 5 71 76 rfl
  (fun hg24 _=>by
   refine aU3 ?_
   refine o_p (QZ _ _ 18 40 rfl rfl Tryz.underlying9 ⟨_,_,rfl,rfl⟩ ⟨_,_,rfl,rfl⟩ (by omega) (by omega)) rfl ?_
   refine Qf (show _ = Value.string (bs (Ql o 18 22)) from by rw [Z7 (n:=22) rfl]) ?_
   refine aU ?_
   refine oCq rfl (fun w1 h1=>c53 w1 (Ql o 18 22) (by rw [QI (by omega)];omega)) ?_
   refine aU2 ?_
   exact oJf 5 76)
  (fun hg26 _=>by
   refine aU4 ?_
   exact oJt 5 76) ?_
 refine aU ?_
 refine oOr 5 77 82 rfl
  (fun hg28 _=>by
   refine aU3 ?_
   refine o_p (QZ _ _ 58 64 rfl rfl Tryz.underlying9 ⟨_,_,rfl,rfl⟩ ⟨_,_,rfl,rfl⟩ (by omega) (by omega)) rfl ?_
   refine Qf (show _ = Value.string (bs (Ql o 58 6)) from by rw [Z7 (n:=6) rfl]) ?_
   refine aU ?_
   refine oCq rfl (fun w1 h1=>c53 w1 (Ql o 58 6) (by rw [QI (by omega)];omega)) ?_
   refine aU2 ?_
   exact oJf 5 82)
  (fun hg30 _=>by
   refine aU4 ?_
   exact oJt 5 82) ?_
 refine aU ?_
 refine oOr 6 83 89 rfl
  (fun hg32 _=>by
   refine aU4 ?_
   have hq9:=hg32
   have hgl : gl ≤ 512:=by have hgk : gk = true:=(by grind);rw [hg8] at hgk;obtain ⟨⟨n9,e9⟩,hrd⟩:=Option.isSome_iff_exists.1 hgk;obtain ⟨_,e⟩:=hg9 _ _ hrd;have h3:=(QcO hol hrd).2.2.1;omega
   refine aU ?_
   refine o_p (Yo gl rfl rfl rfl Tryz.underlying9 rfl (by omega)) rfl ?_
   refine aU ?_
   refine oCq rfl (fun w1 h1=>c53 w1 (o.drop gl) (by rw [List.length_drop];omega)) ?_
   refine aU2 ?_
   exact oJf 6 89)
  (fun hg34 _=>by
   refine aU5 ?_
   exact oJt 6 89) ?_
 refine aU ?_
 refine sCd rfl (fun h36=>?_) fun h36=>?_
 ·have hR : XD s num = ndE 3:=by cases hr : rdB o with | none=>exact Qdh hs5 hn5 ht (by rw [← ho];exact hr) | some q=>(obtain ⟨n9,e9⟩:=q;obtain ⟨_,hp9⟩:=hg9 _ _ hr;rw [QbB hs5 hn5 ht (by rw [← ho];exact hr),if_neg];rw [← ho];intro h9;have hq:=h36;rw [hg8,hr] at hq;simp only [QfW,Bool.and_eq_true,decide_eq_true_eq] at h9;obtain ⟨⟨a1,a2,a3,a4,a5,a6⟩,a7⟩:=h9;rw [hp9] at hq;have a0 : List.take 4 o = [73,78,68,88]:=a1;simp [a0,a2,a4,a5,a6,a7] at hq;omega)
  refine aU ?_
  refine Qk (L':=[(0,_),(4,_),(5,_),(6,_),(7,_),(8,_),(11,_),(13,_)]) aSx (fun _ h=>h) ?_
  refine aU7 ?_
  exact Qs (rs:=[.cell 4 69,.tmp 5,.tmp 6,.tmp 7]) rfl (.cell rfl YB aPk rfl (.tmp rfl (.tmp rfl (.tmp rfl (.nil))))) (fun w' h'=>⟨⟨false,none,0,[],none,0,[]⟩,by rw [hR];rfl,by rw [hR];rfl,((h'.nil.own_nil 3 1).own_nil 27 2).ent aEt⟩)
 obtain ⟨⟨n9,e9⟩,hrd⟩ : ∃ q,rdB o = some q:=Option.isSome_iff_exists.1 (by rw [← hg8];have hq:=h36;grind)
 obtain ⟨hpl9,hl9⟩:=hg9 _ _ hrd
 have hR : XD s num = ⟨n9,(ub4 o 8 : Int),(ub2 s 40 : Int),0⟩:=by rw [QbB hs5 hn5 ht (by rw [← ho];exact hrd),if_pos];(rw [← ho]);rw [← ho];have hq:=h36;rw [hl9] at hq;simp only [QfW,Bool.and_eq_true,decide_eq_true_eq];obtain ⟨⟨⟨⟨⟨⟨⟨q1,q2⟩,q3⟩,q4⟩,q5⟩,q6⟩,q7⟩,q8⟩:=hq;exact ⟨⟨q2,q3,by omega,q5,q6,q7⟩,q8⟩
 refine aU2 ?_
 refine Qk (L':=[(0,_),(4,_),(5,_),(6,_),(7,_),(11,_),(13,_)]) aSx (fun _ h=>h) ?_
 refine QF [4] QV ?_
 refine dLn 0 [[]] ?_
 refine dP 1 ?_
 refine dP 2 ?_
 refine dQ 3 [[]] rfl (Q1 rfl QsL rfl (fun w1 h1=>by have h9:=c72 w1 s (40) 2 (by omega) (by omega) (by omega);rw [Qcu,Qb3] at h9;exact h9)) ?_
 refine dSt 4 ?_ (hl:=(by simp only [Qd,List.length_set,List.length_cons,List.length_nil,List.length_map];omega))
 refine dTu [] ?_
 refine dP 5 ?_
 refine dP 6 ?_
 refine dP 7 ?_
 refine dNi ?_
 exact Qs (rs:=[.cell 4 69,.tmp 5,.tmp 6,.tmp 7]) rfl (.cell rfl YB aPk rfl (.tmp rfl (.tmp rfl (.tmp rfl (.nil))))) (fun w' h'=>⟨gn,by rw [hR];rfl,by rw [hR];exact hpl9,h'.ent aEt⟩)
instance : TFn Tryz.prog 39:=⟨by kernel_rfl⟩
end Go.Proofs
namespace Gx
open Go Go.RowKit
theorem QtP (n : Nat) (h : n < 256) : bits .and .u8 (n : Int) 1 = ((n % 2 : Nat) : Int):=by
 have : ∀ k < 256,bits .and .u8 ((k : Nat) : Int) 1 = ((k % 2 : Nat) : Int):=by decide +kernel
 exact this n h
theorem Qq4 (n m : Nat) : (n : Int) / 2 ^ m = ((n / 2 ^ m : Nat) : Int):=by grind
theorem QfE (bm : List UInt8) (j : Nat) : decide (bits .and .u8 (((ub1 bm (j / 8) : Nat) : Int) / 2 ^ (j % 8)) 1 = 1) = ZH bm j:=by
 have hb:=XV bm (j / 8);have hd : ub1 bm (j / 8) / 2 ^ (j % 8) < 256:=Nat.lt_of_le_of_lt (Nat.div_le_self _ _) hb;rw [Qq4,QtP _ hd];unfold ZH;exact decide_eq_decide.2 (by omega)
theorem QrH (bm : List UInt8) (j : Nat) : decide (((ub1 bm (j / 8) : Nat) : Int) / ((2 ^ (j % 8) : Nat) : Int) % 2 = 1) = ZH bm j:=by grind [ZH]
theorem Qp6 {bm : List UInt8} {j : Nat} (h : bm.length ≤ j / 8) : ZH bm j = false:=by simp_all [ZH,ub1]
end Gx
namespace Go.Proofs
open Go Go.RowKit Gx
attribute [local irreducible] Go.Calls Gx.S Gx.O Gx.D Gx.OpP Gx.OpQ Gx.OpH
set_option maxRecDepth 20000
instance : TFd Tryz.prog 108 0 0 23:=⟨by kernel_rfl⟩
theorem Qsb : tsz Tryz.prog 23 = some (3,true):=by kernel_rfl
instance : TSz Tryz.prog 23 3 true:=⟨Qsb⟩
instance : TFd Tryz.prog 23 1 1 9:=⟨by kernel_rfl⟩
theorem Qcl : tsz Tryz.prog 108 = some (7,true):=by kernel_rfl
instance : TSz Tryz.prog 108 7 true:=⟨Qcl⟩
instance : TFn Tryz.prog 113:=⟨by kernel_rfl⟩
instance : TFd Tryz.prog 23 2 2 9:=⟨by kernel_rfl⟩
theorem Qrc (w : World) (x : Ixs) (co mo rm : Int) (ra : Option Addr) (rn rc : Nat) (hl : x.al.length ≤ 1000000000) : Calls Tryz.prog 113 #[.agg #[.string (bs x.ro),.string (bs x.al),.string (bs x.bm),.int .i64 co,.int .i64 mo,.int .i64 rm,.slice ra rn rc]] w fun en w'=>en = .returned (.int .i64 ((x.n : Nat) : Int)) ∧ Below w.heap.size w w':=by
 refine eN1 Tryz.func113 Tryz.ntmps113 ?_
 refine aU2 ?_
 refine oBx fun b1 _=>?_
 refine aU7 ?_
 refine o_p (Qj rfl rfl Tryz.underlying9) rfl ?_
 refine o_p (XL rfl rfl rfl (by omega) (by omega) (by omega)) rfl ?_
 refine aU2 ?_
 exact rT rfl rfl (fun w' h'=>⟨by rfl,h'.below⟩)
theorem c64 (w : World) (x : Ixs) (co mo rm : Int) (ra : Option Addr) (rn rc : Nat) (i : Nat) (hl : x.al.length ≤ 1000000000) (hi : 1 ≤ i ∧ i * 512 ≤ x.al.length) : Calls Tryz.prog 64 #[.agg #[.string (bs x.ro),.string (bs x.al),.string (bs x.bm),.int .i64 co,.int .i64 mo,.int .i64 rm,.slice ra rn rc],.int .i64 (i : Int)] w fun en w'=>en = .returned (.string (bs (x.blk i))) ∧ Below w.heap.size w w':=by
 refine eN2 Tryz.func64 Tryz.ntmps64 ?_
 refine aU2 ?_
 refine oBx fun b1 _=>?_
 refine aT9 ?_
 refine aT ?_
 refine aT2 ?_
 refine o_p (QZ _ _ ((i - 1) * 512) (i * 512) rfl rfl Tryz.underlying9 ⟨_,_,rfl,(by omega)⟩ ⟨_,_,rfl,(by omega)⟩ (by omega) (by omega)) rfl ?_
 refine aU2 ?_
 exact rT rfl rfl (fun w' h'=>⟨by rw [Z7 (n:=512) (by omega)];rfl,h'.below⟩)
theorem c66 (w : World) (x : Ixs) (hl : x.al.length ≤ 1000000000) : Calls Tryz.prog 66 #[.agg #[.string (bs x.ro),.string (bs x.al),.string (bs x.bm)]] w fun en w'=>en = .returned (.int .i64 ((x.n : Nat) : Int)) ∧ Below w.heap.size w w':=by
 refine eN1 Tryz.func66 Tryz.ntmps66 ?_
 refine aU2 ?_
 refine oBx fun b1 _=>?_
 refine aU6 ?_
 refine o_p (Qj rfl rfl Tryz.underlying9) rfl ?_
 refine o_p (XL rfl rfl rfl (by omega) (by omega) (by omega)) rfl ?_
 refine aU2 ?_
 exact rT rfl rfl (fun w' h'=>⟨by rfl,h'.below⟩)
theorem c69 (w : World) (x : Ixs) (i : Nat) (hl : x.al.length ≤ 1000000000) (hi : 1 ≤ i ∧ i * 512 ≤ x.al.length) : Calls Tryz.prog 69 #[.agg #[.string (bs x.ro),.string (bs x.al),.string (bs x.bm)],.int .i64 (i : Int)] w fun en w'=>en = .returned (.string (bs (x.blk i))) ∧ Below w.heap.size w w':=by
 refine eN2 Tryz.func69 Tryz.ntmps69 ?_
 refine aU2 ?_
 refine oBx fun b1 _=>?_
 refine aT8 ?_
 refine aT ?_
 refine aT2 ?_
 refine o_p (QZ _ _ ((i - 1) * 512) (i * 512) rfl rfl Tryz.underlying9 ⟨_,_,rfl,(by omega)⟩ ⟨_,_,rfl,(by omega)⟩ (by omega) (by omega)) rfl ?_
 refine aU2 ?_
 exact rT rfl rfl (fun w' h'=>⟨by rw [Z7 (n:=512) (by omega)];rfl,h'.below⟩)
theorem c135 (w : World) (m : Nat) (hm : m ≤ 8) : Calls Tryz.prog 135 #[.int .i64 (m : Int)] w fun en w'=>en = .returned (.int .i64 ((2 ^ m : Nat) : Int)) ∧ Below w.heap.size w w':=by
 refine eN1 Tryz.func135 Tryz.ntmps135 ?_
 refine aU7 ?_
 refine o_p (QfG rfl rfl rfl (by omega) m (by show min _ 64 = _;omega)) rfl ?_
 refine aU2 ?_
 exact rT rfl rfl (fun w' h'=>⟨by have h9 : m = 0 ∨ m = 1 ∨ m = 2 ∨ m = 3 ∨ m = 4 ∨ m = 5 ∨ m = 6 ∨ m = 7 ∨ m = 8:=(by omega);rcases h9 with rfl | rfl | rfl | rfl | rfl | rfl | rfl | rfl | rfl <;> rfl,h'.below⟩)
theorem c61 (w : World) (x : Ixs) (co mo rm : Int) (ra : Option Addr) (rn rc : Nat) (i : Nat) (hl : x.al.length ≤ 1000000000) (hb : x.n ≤ 8 * x.bm.length) : Calls Tryz.prog 61 #[.agg #[.string (bs x.ro),.string (bs x.al),.string (bs x.bm),.int .i64 co,.int .i64 mo,.int .i64 rm,.slice ra rn rc],.int .i64 (i : Int)] w fun en w'=>en = .returned (.bool (Y7 x i)) ∧ Below w.heap.size w w':=by
 have hn9 : x.n ≤ x.al.length:=Nat.div_le_self _ _
 refine eN2 Tryz.func61 Tryz.ntmps61 ?_
 refine aU2 ?_
 refine oBx fun b1 _=>?_
 refine aU6 ?_
 refine oCq rfl (fun w1 h1=>Qrc w1 x co mo rm ra rn rc hl) ?_
 refine oCq rfl (fun w1 h1=>c87 w1 _ _ _) ?_
 refine aU ?_
 refine YH 14 9 23 rfl
  (fun hg2 _=>by
   refine Qj6 ?_
   refine aU ?_
   refine o_p (XL rfl rfl rfl (by omega) (by omega) (by omega)) rfl ?_
   refine aU ?_
   refine o_p (Q0 rfl rfl rfl Tryz.underlying9 ((i - 1) / 8) (by omega) (by omega)) rfl ?_
   refine Qf (show _ = Value.int .u8 ((ub1 x.bm ((i - 1) / 8) : Nat) : Int) from rfl) ?_
   refine aT4 ?_
   refine aU ?_
   refine o_p (Zc rfl rfl rfl (by omega) (by omega)) rfl ?_
   refine aU ?_
   refine o_p (Qam rfl rfl rfl (by omega) ((i - 1) % 8) (by show min _ 8 = _;omega)) rfl ?_
   refine aU4 ?_
   exact oJt 14 23)
  (fun hg4 _=>by
   refine Qfq ?_
   exact oJf 14 23) ?_
 refine aU2 ?_
 exact rT rfl rfl (fun w' h'=>⟨by simp only [Xd,Y7];rw [QfE];congr 3;rw [← Bool.decide_and];exact decide_eq_decide.2 (by omega),h'.below⟩)
instance : TFn Tryz.prog 135:=⟨by kernel_rfl⟩
theorem Qum (i : Nat) : 1 ≤ 2 ^ (i % 8) ∧ 2 ^ (i % 8) ≤ 128:=by
  have h : i % 8 = 0 ∨ i % 8 = 1 ∨ i % 8 = 2 ∨ i % 8 = 3 ∨ i % 8 = 4 ∨ i % 8 = 5 ∨ i % 8 = 6 ∨ i % 8 = 7:=by omega
  rcases h with h | h | h | h | h | h | h | h <;> rw [h] <;> decide
theorem c67 (w : World) (x : Ixs) (i : Nat) (hi : 1 ≤ i ∧ i ≤ 1000000) (hb : x.bm.length ≤ 1000000) : Calls Tryz.prog 67 #[.agg #[.string (bs x.ro),.string (bs x.al),.string (bs x.bm)],.int .i64 (i : Int)] w fun en w'=>en = .returned (.bool (ZH x.bm (i - 1))) ∧ Below w.heap.size w w':=by
 have hpw:=Qum (i - 1)
 have hbl:=XV x.bm ((i - 1) / 8)
 have hdv : ub1 x.bm ((i - 1) / 8) / 2 ^ ((i - 1) % 8) ≤ ub1 x.bm ((i - 1) / 8):=Nat.div_le_self _ _
 refine eN2 Tryz.func67 Tryz.ntmps67 ?_
 refine aU2 ?_
 refine oBx fun b1 _=>?_
 refine aT6 ?_
 refine Qf (show _ = Value.int .i64 ((i - 1 : Nat) : Int) from congrArg (Value.int .i64) (by omega)) ?_
 refine aU5 ?_
 refine o_p (XL rfl rfl rfl (by omega) (by omega) (by omega)) rfl ?_
 refine Qf (show _ = Value.int .i64 (((i - 1) / 8 : Nat) : Int) from congrArg (Value.int .i64) (by omega)) ?_
 refine aU2 ?_
 refine o_p (Qj rfl rfl Tryz.underlying9) rfl ?_
 refine aU2 ?_
 refine YH 12 14 26 rfl
  (fun hg2 _=>by
   refine aU7 ?_
   refine o_p (XL rfl rfl rfl (by omega) (by omega) (by omega)) rfl ?_
   refine Qf (show _ = Value.int .i64 (((i - 1) / 8 : Nat) : Int) from congrArg (Value.int .i64) (by omega)) ?_
   refine aU ?_
   refine oCq rfl (fun w1 h1=>by have h9:=c72 w1 x.bm ((i - 1) / 8) 1 (by omega) (by omega) (by omega);rw [Qce,QlV] at h9;exact h9) ?_
   refine aU3 ?_
   refine o_p (Zc rfl rfl rfl (by omega) (by omega)) rfl ?_
   refine Qf (show _ = Value.int .i64 (((i - 1) % 8 : Nat) : Int) from congrArg (Value.int .i64) (by omega)) ?_
   refine aU ?_
   refine oCq rfl (fun w1 h1=>c135 w1 ((i - 1) % 8) (by omega)) ?_
   refine aU ?_
   refine o_p (XL rfl rfl rfl (by omega) (by omega) (by omega)) rfl ?_
   refine Qf (show _ = Value.int .i64 ((ub1 x.bm ((i - 1) / 8) / 2 ^ ((i - 1) % 8) : Nat) : Int) from congrArg (Value.int .i64) (Int.natCast_ediv _ _).symm) ?_
   refine aU ?_
   refine o_p (Ql2 rfl rfl rfl (by decide)) rfl ?_
   refine aU2 ?_
   exact oJt 12 26)
  (fun hg4 _=>by
   refine QiV ?_
   exact oJf 12 26) ?_
 refine aU2 ?_
 exact rT rfl rfl (fun w' h'=>⟨by simp only [Xd];congr 2;by_cases hq9 : (i - 1) / 8 < x.bm.length;rw [show decide ((((i - 1) / 8 : Nat) : Int) < (x.bm.length : Int)) = true from decide_eq_true (by omega),Bool.true_and,← QrH];rfl;rw [show decide ((((i - 1) / 8 : Nat) : Int) < (x.bm.length : Int)) = false from decide_eq_false (by omega),Bool.false_and,Qp6 (by omega)],h'.below⟩)
end Go.Proofs
namespace Gx
open Go Go.RowKit
section
variable {x : Ixs}
theorem QiW (h : ¬ (x.al.length ≤ 61440 ∧ x.ro.length ≤ 200000)) : ixE x = 8:=by unfold ixE;rw [if_neg h]
theorem Qi5 (h : x.al.length ≤ 61440 ∧ x.ro.length ≤ 200000) (h2 : ¬ (x.al.length % 512 = 0 ∧ x.bm.length = QT ((x.n + 7) / 8))) : ixE x = 10:=by unfold ixE;rw [if_pos h,if_neg h2]
theorem Qlo (h : x.al.length ≤ 61440 ∧ x.ro.length ≤ 200000) (h2 : x.al.length % 512 = 0 ∧ x.bm.length = QT ((x.n + 7) / 8)) (h3 : ¬ (Qa x.ro).2 = 0) : ixE x = (Qa x.ro).2:=by unfold ixE;rw [if_pos h,if_pos h2,if_neg h3]
theorem Qlq (h : x.al.length ≤ 61440 ∧ x.ro.length ≤ 200000) (h2 : x.al.length % 512 = 0 ∧ x.bm.length = QT ((x.n + 7) / 8)) (h3 : (Qa x.ro).2 = 0) (h4 : QdP x = true) : ixE x = 3:=by unfold ixE;rw [if_pos h,if_pos h2,if_pos h3,if_pos h4]
theorem Qlh (h : x.al.length ≤ 61440 ∧ x.ro.length ≤ 200000) (h2 : x.al.length % 512 = 0 ∧ x.bm.length = QT ((x.n + 7) / 8)) (h3 : (Qa x.ro).2 = 0) (h4 : QdP x = false) : ixE x = if x.n = 0 ∨ ZH x.bm (x.n - 1) = true then 0 else 3:=by grind [ixE]
theorem Qip {j : Nat} (h : x.n ≤ j) (h2 : j < 8 * x.bm.length) (h3 : ZH x.bm j = true) : QdP x = true:=by grind [QdP]
theorem Qk6 (h : ∀ j,x.n ≤ j → j < 8 * x.bm.length → ZH x.bm j = false) : QdP x = false:=by grind [QdP]
end
end Gx
