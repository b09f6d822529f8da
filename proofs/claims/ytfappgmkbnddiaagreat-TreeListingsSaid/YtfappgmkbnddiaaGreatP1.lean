/- Contracts of the program's functions, proved by walking them with the rules of the Gx texts; without conditions beyond those that each contract names. -/
import Derived.WalkKit
import Derived.Deep.Draws
import Derived.TacticsIn
import Derived.OrdersIn
import Derived.RangeFuncLeaves
import Derived.Lib.Strings
import Derived.Laws.BytesArg
import Derived.Laws.IdiomStrings
import Derived.Deep.Quiet
import Derived.ProofKit
import Derived.OpenShut
import Derived.Laws.StructEq
import Derived.ChangeKeysEq
import Derived.Laws.Externs
import Derived.Lib.Overlaps
import Derived.Carry
import Derived.Laws.Small
import Derived.Lib.Bytealg
import Derived.Test.YtfappgmkbnddiaaGreatProg
import Derived.KernelRfl
import Derived.Lib.Builder
import Derived.Laws.Pointers
import Derived.RangeFuncRecord
import Derived.Test.YtfappgmkbnddiaaGreatP0
set_option linter.unusedSimpArgs false
set_option linter.unusedVariables false
set_option linter.unusedSectionVars false
namespace Gx
open Go Go.RowKit
structure TEnt where
 key : List UInt8
 val : List UInt8
deriving DecidableEq,Inhabited
structure Nd where
 us : Bool
 es : List TEnt
 cs : List Int
deriving DecidableEq,Inhabited
structure Tre where
 co : Int
 mo : Int
 rm : Int
 ns : List Nd
deriving DecidableEq,Inhabited
structure LNd where
 us : Bool
 ea : Option Addr
 ec : Nat
 es : List TEnt
 ca : Option Addr
 cc : Nat
 cs : List Int
deriving Inhabited
def LNd.pl (n : LNd) : Nd:=⟨n.us,n.es,n.cs⟩
abbrev pln (L : List LNd) : List Nd:=L.map LNd.pl
def TEnt.vals (x : TEnt) : List Value:=[.string (bs x.key),.string (bs x.val)]
def inV (x : Int) : List Value:=[.int .i64 x]
def LNd.vals (n : LNd) : List Value:=[.bool n.us,.slice n.ea n.es.length n.ec,.slice n.ca n.cs.length n.cc]
theorem ev2 (x : TEnt) : x.vals.length = 2:=rfl
theorem iv1 (x : Int) : (inV x).length = 1:=rfl
theorem nv3 (n : LNd) : n.vals.length = 3:=rfl
theorem ev1 (x : TEnt) : ∀ u ∈ x.vals,u.oneCell' = true:=by
 intro u hu;simp only [TEnt.vals,List.mem_cons,List.mem_nil_iff,or_false] at hu;rcases hu with rfl | rfl <;> rfl
theorem QbX (x : Int) : ∀ u ∈ inV x,u.oneCell' = true:=by
 intro u hu;simp only [inV,List.mem_cons,List.mem_nil_iff,or_false] at hu;subst hu;rfl
theorem nv1 (n : LNd) : ∀ u ∈ n.vals,u.oneCell' = true:=by
 intro u hu;simp only [LNd.vals,List.mem_cons,List.mem_nil_iff,or_false] at hu;rcases hu with rfl | rfl | rfl <;> rfl
def Nt (w : World) (M : List Nat) (a : Option Addr) (L : List LNd) : Prop:=Rw LNd.vals 3 w M a L ∧ ∀ n ∈ L,Rw TEnt.vals 2 w M n.ea n.es ∧ Rw inV 1 w M n.ca n.cs
section
variable {w w' : World} {M M' : List Nat} {As : List HA} {a : Option Addr} {L : List LNd}
theorem Nt.later (h : Nt w M a L) (hs : HS w M As w') : Nt w' [] a L:=⟨Rw.later h.1 hs,fun n hn=>⟨(h.2 n hn).1.later hs,(h.2 n hn).2.later hs⟩⟩
theorem Nt.keep (h : Nt w M a L) (hs : HS w M As w') : Nt w' (fps As) a L:=⟨Rw.keep h.1 hs,fun n hn=>⟨(h.2 n hn).1.keep hs,(h.2 n hn).2.keep hs⟩⟩
theorem Nt.mono (h : Nt w M a L) (hM : ∀ b ∈ M',b ∈ M) : Nt w M' a L:=⟨Rw.mono h.1 hM,fun n hn=>⟨(h.2 n hn).1.mono hM,(h.2 n hn).2.mono hM⟩⟩
theorem Nt.es (h : Nt w M a L) {k : Nat} (hk : k < L.length) : Rw TEnt.vals 2 w M (nth L k).ea (nth L k).es:=(h.2 _ (Q1 hk)).1
theorem Nt.cs (h : Nt w M a L) {k : Nat} (hk : k < L.length) : Rw inV 1 w M (nth L k).ca (nth L k).cs:=(h.2 _ (Q1 hk)).2
end
def HA.ents (et : Nat) (a : Option Addr) (cap : Nat) (l : List TEnt) : HA:=.own (.slice a l.length cap) et 2 l.length (l.flatMap TEnt.vals)
def HA.kids (a : Option Addr) (cap : Nat) (l : List Int) : HA:=.own (.slice a l.length cap) 3 1 l.length (l.flatMap inV)
def Qk (et : Nat) (n : LNd) : HA:=.star [.ents et n.ea n.ec n.es,.kids n.ca n.cc n.cs]
def HA.nodes (et nt : Nat) (a : Option Addr) (cap : Nat) (L : List LNd) : HA:=.row nt 3 LNd.vals (Qk et) a cap L
section
variable {w0 w : World} {M : List Nat} {As As' : List HA} {a : Option Addr} {cap et nt' : Nat} {L : List LNd}
theorem HS.nt (h : HS w0 M As w) (hp : QG As (.nodes et nt' a cap L) As') : Nt w [] a L:=by
 have h1:=HS.row_open (h.pick hp);refine ⟨h1.rw_own nv3 .here rfl,fun n hn=>?_⟩;obtain ⟨i,hi,e⟩:=List.getElem_of_mem hn;have e2 : nth L i = n:=Q3 (by rw [List.getElem?_eq_getElem hi,e]);have h2:=h1.tail.sub_open hi;rw [e2] at h2;have h3:=HS.star_open h2;exact ⟨h3.rw_own ev2 .here rfl,h3.rw_own iv1 (.there .here) rfl⟩
end
def X2 : List UInt8 → List UInt8 → Int
 | [],[]=>0
 | [],_ :: _=>-1
 | _ :: _,[]=>1
 | a :: x,b :: y=>if a < b then -1 else if b < a then 1 else X2 x y
theorem Qld : ∀ a b,X2 a b = -1 ∨ X2 a b = 0 ∨ X2 a b = 1
 | [],[]=>Or.inr (Or.inl rfl)
 | [],_ :: _=>Or.inl rfl
 | _ :: _,[]=>Or.inr (Or.inr rfl)
 | a :: x,b :: y=>by
  unfold X2;split
  ·exact Or.inl rfl
  ·split
   ·exact Or.inr (Or.inr rfl)
   ·exact Qld x y
theorem Qdo {a b : UInt8} (h : a < b) : ¬ b < a:=fun h2=>by
 rw [UInt8.lt_iff_toNat_lt] at h h2;omega
theorem Qfn : ∀ a b,X2 b a = - X2 a b
 | [],[]=>rfl
 | [],_ :: _=>rfl
 | _ :: _,[]=>rfl
 | a :: x,b :: y=>by
  unfold X2
  by_cases h : a < b
  ·rw [if_neg (Qdo h),if_pos h,if_pos h];rfl
  ·by_cases h2 : b < a
   ·rw [if_pos h2,if_neg h,if_pos h2]
   ·rw [if_neg h,if_neg h2,if_neg h2,if_neg h];exact Qfn x y
theorem Qjf : ∀ {a b},X2 a b = 0 ↔ a = b
 | [],[]=>by simp [X2]
 | [],_ :: _=>by simp [X2]
 | _ :: _,[]=>by simp [X2]
 | a :: x,b :: y=>by
  unfold X2
  by_cases h : a < b
  ·rw [if_pos h]
   have : a ≠ b:=fun e=>by
    subst e;rw [UInt8.lt_iff_toNat_lt] at h;omega
   simp [this]
  ·by_cases h2 : b < a
   ·rw [if_neg h,if_pos h2]
    have : a ≠ b:=fun e=>by
     subst e;rw [UInt8.lt_iff_toNat_lt] at h2;omega
    simp [this]
   ·rw [if_neg h,if_neg h2,Qjf]
    have : a = b:=by
     rw [UInt8.lt_iff_toNat_lt] at h h2;exact UInt8.toNat_inj.1 (by omega)
    simp [this]
theorem QeE : ∀ {a b c},X2 a b < 0 → X2 b c < 0 → X2 a c < 0
 | [],[],_,h,_=>by simp [X2] at h
 | _ :: _,[],_,h,_=>by simp [X2] at h
 | [],_ :: _,[],_,h=>by simp [X2] at h
 | [],_ :: _,_ :: _,_,_=>by simp [X2]
 | _ :: _,_ :: _,[],_,h=>by simp [X2] at h
 | a :: x,b :: y,c :: z,h,h2=>by
  unfold X2 at h h2 ⊢
  by_cases e : a < b
  ·by_cases e2 : c < b
   ·rw [if_neg (Qdo e2),if_pos e2] at h2;omega
   ·rw [if_pos (by
     rw [UInt8.lt_iff_toNat_lt] at e e2 ⊢;omega)]
    decide
  ·rw [if_neg e] at h
   by_cases e3 : b < a
   ·rw [if_pos e3] at h;omega
   ·rw [if_neg e3] at h
    have hab : a = b:=by
     rw [UInt8.lt_iff_toNat_lt] at e e3;exact UInt8.toNat_inj.1 (by omega)
    subst hab
    by_cases e4 : a < c
    ·rw [if_pos e4];decide
    ·rw [if_neg e4] at h2 ⊢
     by_cases e5 : c < a
     ·rw [if_pos e5] at h2;omega
     ·rw [if_neg e5] at h2 ⊢;exact QeE h h2
def Qa2 (c : UInt8) : UInt8:=if 97 ≤ c ∧ c ≤ 122 then c - 32 else c
def XZ (a b : Int) : Int:=if a < b then -1 else if b < a then 1 else 0
def QO (co : Int) (a b : List UInt8) : Int:=
 if co = 2 then XZ (at4 a 0) (at4 b 0)
 else if co = 3 then if XZ (at4 a 0) (at4 b 0) ≠ 0 then XZ (at4 a 0) (at4 b 0) else XZ (at4 a 4) (at4 b 4)
 else if co = 1 then X2 (a.map Qa2) (b.map Qa2) else X2 a b
def Qdf (s : List UInt8) (p : Nat) : Bool:=decide (at4 s p ≤ 2147483647)
def QW (co : Int) (k : List UInt8) : Bool:=
 if co = 0 then decide (1 ≤ k.length ∧ k.length ≤ 40)
 else if co = 1 then decide (1 ≤ k.length ∧ k.length ≤ 32)
 else if co = 2 then decide (k.length = 4) && Qdf k 0
 else decide (k.length = 8) && (Qdf k 0 && Qdf k 4)
def XM (co : Int) (k : List UInt8) : Int:=if QW co k then 0 else 3
def X7 (co : Int) (x : TEnt) : Int:=if XM co x.key = 0 then if x.val.length ≤ 64 then 0 else 8 else 3
def Q5 (co : Int) : Int:=if 0 ≤ co ∧ co ≤ 3 then 0 else 15
def Yl (mo rm : Int) : Int:=if (3 ≤ mo ∧ mo ≤ 8) ∧ (mo / 2 ≤ rm ∧ rm ≤ mo) then 0 else 2
def Qkn (s : List UInt8) (p : Nat) : List UInt8:=[s.getD (p + 3) 0,s.getD (p + 2) 0,s.getD (p + 1) 0,s.getD p 0]
def Qll (co : Int) (k : List UInt8) : List UInt8:=if co = 2 then Qkn k 0 else if co = 3 then Qkn k 0 ++ Qkn k 4 else if co = 1 then k.map Qa2 else k
theorem QfO (a b : List UInt8) (p : Nat) (x y : List UInt8) : X2 (Qkn a p ++ x) (Qkn b p ++ y) = if XZ (at4 a p) (at4 b p) ≠ 0 then XZ (at4 a p) (at4 b p) else X2 x y:=by
 have h : ∀ (s : List UInt8) i,(s.getD i 0).toNat < 256:=fun s i=>UInt8.toNat_lt _;have a0:=h a p;have a1:=h a (p + 1);have a2:=h a (p + 2);have a3:=h a (p + 3);have b0:=h b p;have b1:=h b (p + 1);have b2:=h b (p + 2);have b3:=h b (p + 3);unfold Qkn;simp only [List.cons_append,List.nil_append,X2,XZ,at4,at2,at1,UInt8.lt_iff_toNat_lt,Nat.add_assoc,Nat.reduceAdd];generalize (a.getD p 0).toNat = A0 at *;generalize (a.getD (p + 1) 0).toNat = A1 at *;generalize (a.getD (p + 2) 0).toNat = A2 at *;generalize (a.getD (p + 3) 0).toNat = A3 at *;generalize (b.getD p 0).toNat = B0 at *;generalize (b.getD (p + 1) 0).toNat = B1 at *;generalize (b.getD (p + 2) 0).toNat = B2 at *;generalize (b.getD (p + 3) 0).toNat = B3 at *;split <;> (try (split <;> (try (split <;> (try (split <;> (try (split <;> (try (split <;> (try (split <;> (try (split)))))))))))))) <;> first | rfl | omega | (simp_all;omega) | (exfalso;omega)
theorem YJ (co : Int) (a b : List UInt8) : QO co a b = X2 (Qll co a) (Qll co b):=by
 unfold QO Qll;split
 ·have h:=QfO a b 0 [] [];rw [List.append_nil,List.append_nil] at h;rw [h];split
  ·rfl
  ·rename_i h2;rw [show X2 ([] : List UInt8) [] = 0 from rfl];omega
 ·split
  ·rw [QfO];congr 1;have h:=QfO a b 4 [] [];rw [List.append_nil,List.append_nil] at h;rw [h];split
   ·rfl
   ·rename_i h2;rw [show X2 ([] : List UInt8) [] = 0 from rfl];omega
  ·split <;> rfl
theorem X1 (co : Int) (a b : List UInt8) : QO co b a = - QO co a b:=by rw [YJ,YJ];exact Qfn _ _
theorem Qax {co : Int} {a b : List UInt8} : QO co a b = 0 ↔ Qll co a = Qll co b:=by rw [YJ];exact Qjf
theorem XU {co : Int} {a b c : List UInt8} (h : QO co a b < 0) (h2 : QO co b c < 0) : QO co a c < 0:=by rw [YJ] at h h2 ⊢;exact QeE h h2
def Asc (co : Int) (es : List TEnt) : Prop:=∀ k,k + 1 < es.length → QO co (nth es k).key (nth es (k + 1)).key < 0
theorem Asc.lt {co : Int} {es : List TEnt} (h : Asc co es) : ∀ {i j : Nat},i < j → j < es.length → QO co (nth es i).key (nth es j).key < 0
 | i,0,hij,_=>absurd hij (Nat.not_lt_zero _)
 | i,j + 1,hij,hj=>by
  rcases Nat.lt_or_ge i j with h1 | h1
  ·exact XU (Asc.lt h h1 (by omega)) (h j hj)
  ·obtain rfl : i = j:=by omega
   exact h i hj
def QeO (co : Int) (es : List TEnt) (key : List UInt8) : List Int:=es.map fun x=>QO co x.key key
theorem QbF (co : Int) (es : List TEnt) (key : List UInt8) : (QeO co es key).length = es.length:=by simp [QeO]
theorem QbH {co : Int} {es : List TEnt} {key : List UInt8} {i : Nat} (h : i < es.length) : (QeO co es key).getD i 0 = QO co (nth es i).key key:=by
 unfold QeO;rw [Y4 (d:=default) h];rfl
def plc (co : Int) : List TEnt → List UInt8 → Nat
 | [],_=>0
 | x :: es,key=>if QO co x.key key < 0 then plc co es key + 1 else 0
def fnd (co : Int) (es : List TEnt) (key : List UInt8) : Bool:=decide (plc co es key < es.length) && decide (QO co (nth es (plc co es key)).key key = 0)
theorem Qac (co : Int) (key : List UInt8) : ∀ es,plc co es key ≤ es.length
 | []=>Nat.le_refl _
 | x :: es=>by
  unfold plc;split
  ·have:=Qac co key es;simp only [List.length_cons];omega
  ·exact Nat.zero_le _
theorem Qe5 {α : Type} [Inhabited α] (x : α) (l : List α) (i : Nat) : nth (x :: l) (i + 1) = nth l i:=rfl
theorem QaI (co : Int) (key : List UInt8) : ∀ es i,i < plc co es key → QO co (nth es i).key key < 0
 | [],i,h=>absurd h (Nat.not_lt_zero _)
 | x :: es,i,h=>by
  unfold plc at h;split at h
  ·rename_i h1;cases i with
   | zero=>exact h1
   | succ i=>
    rw [Qe5];exact QaI co key es i (by omega)
  ·exact absurd h (Nat.not_lt_zero _)
theorem QfU (co : Int) (key : List UInt8) : ∀ es,plc co es key < es.length → ¬ QO co (nth es (plc co es key)).key key < 0
 | [],h=>absurd h (Nat.not_lt_zero _)
 | x :: es,h=>by
  unfold plc at h ⊢;split at h
  ·rename_i h1;rw [if_pos h1,Qe5];exact QfU co key es (by simpa using h)
  ·rename_i h1;rw [if_neg h1];exact h1
theorem Qkh {co : Int} {es : List TEnt} (hs : Asc co es) {key : List UInt8} {i : Nat} (h : plc co es key ≤ i) (hi : i < es.length) : ¬ QO co (nth es i).key key < 0:=by
 have h1:=QfU co key es (by omega);rcases Nat.lt_or_ge (plc co es key) i with h2 | h2
 ·intro h3;exact h1 (XU (hs.lt h2 hi) h3)
 ·obtain rfl : i = plc co es key:=by omega
  exact h1
theorem Qnp {co : Int} {es : List TEnt} (hs : Asc co es) (key : List UInt8) : bsL (QeO co es key) = plc co es key:=by
 refine Qm5 (by rw [QbF];exact Qac co key es) (fun i hi=>?_) (fun i h1 h2=>?_)
 ·rw [QbH (by have:=Qac co key es;omega)];exact QaI co key es i hi
 ·rw [QbF] at h2;rw [QbH h2];exact Qkh hs h1 h2
theorem QqW {co : Int} {es : List TEnt} (hs : Asc co es) (key : List UInt8) : Qoe (QeO co es key) = fnd co es key:=by
 unfold Qoe fnd;rw [Qnp hs,QbF]
 by_cases h : plc co es key < es.length
 ·rw [QbH h]
 ·simp [h]
def Qaa (co : Int) (es : List TEnt) (k : Nat) : Int:=if k = 0 ∨ QO co (nth es (k - 1)).key (nth es k).key < 0 then 0 else 9
def ZE (co : Int) (es : List TEnt) : Int:=(XQ ((List.range es.length).map (Qaa co es)) 0).2
theorem Qnd {co : Int} {es : List TEnt} (h : ZE co es = 0) : Asc co es:=fun k hk=>by
 unfold ZE at h;have h1:=QcR.1 h (Qaa co es (k + 1)) (List.mem_map.2 ⟨k + 1,List.mem_range.2 hk,rfl⟩);unfold Qaa at h1;split at h1
 ·rename_i h2;rcases h2 with h2 | h2
  ·cases h2
  ·exact h2
 ·exact absurd h1 (by decide)
def XT (ns : List Nd) : List Int → List Int → Int × List Int
 | [],seen=>(0,seen)
 | c :: cs,seen=>if (1 ≤ c ∧ c ≤ (ns.length : Int) - 1) ∧ (nth ns c.toNat).us = true then if c ∈ seen then (23,c :: seen) else XT ns cs (c :: seen) else (6,seen)
def Y0 (co : Int) (es : List TEnt) : Int:=(XQ (es.map (X7 co)) 0).2
def Yh (mo rm : Int) (i : Nat) : Int:=if i = 0 then rm else mo
def XV (t : Tre) (i : Nat) (seen : List Int) : Int × List Int:=
 let n:=nth t.ns i
 if n.us = true then
  if (n.es.length : Int) ≤ Yh t.mo t.rm i then
   if n.cs.length = 0 ∨ n.cs.length = n.es.length + 1 then
    if Y0 t.co n.es = 0 then
     if (XT t.ns n.cs seen).1 = 0 then (ZE t.co n.es,(XT t.ns n.cs seen).2) else XT t.ns n.cs seen
    else (Y0 t.co n.es,seen)
   else (10,seen)
  else (16,seen)
 else if (0 < i ∧ i + 1 < t.ns.length) ∧ n.es.length + n.cs.length = 0 then (0,seen) else (3,seen)
def XR (t : Tre) : Nat → Nat → List Int → Int × Int
 | 0,_,_=>(0,0)
 | f + 1,i,seen=>if (XV t i seen).1 = 0 then XR t f (i + 1) (XV t i seen).2 else ((i : Int),(XV t i seen).1)
structure Vis where
 i : Nat
 d : Int
 lo : Option (List UInt8)
 hi : Option (List UInt8)
deriving Inhabited
def loK (es : List TEnt) (k : Nat) (lo : Option (List UInt8)) : Option (List UInt8):=if 0 < k then some (nth es (k - 1)).key else lo
def hiK (es : List TEnt) (k : Nat) (hi : Option (List UInt8)) : Option (List UInt8):=if k < es.length then some (nth es k).key else hi
def vis (ns : List Nd) : Nat → Vis → List Vis
 | 0,_=>[]
 | f + 1,v=>v :: (List.range (nth ns v.i).cs.length).flatMap fun k=>vis ns f ⟨((nth ns v.i).cs.getD k 0).toNat,v.d + 1,loK (nth ns v.i).es k v.lo,hiK (nth ns v.i).es k v.hi⟩
def YV : Vis:=⟨0,1,none,none⟩
def Yx (ns : List Nd) : List Vis:=vis ns ns.length YV
def X3 (ns : List Nd) : Nat → Nat → Int
 | 0,_=>0
 | f + 1,i=>if (nth ns i).cs.length = 0 then 0 else X3 ns f ((nth ns i).cs.getD 0 0).toNat + 1
def QaS (t : Tre) (deep : Int) (v : Vis) : Int:=
 let n:=nth t.ns v.i
 if 0 < v.i ∧ ((n.es.length : Int) < t.mo / 2 ∨ ((nth t.ns 0).es.length = 0 ∧ (v.i : Int) ∈ (nth t.ns 0).cs) ∧ (n.es.length : Int) ≤ t.rm) then 14
 else if (n.es.any fun x=>(v.lo.any fun b=>decide (0 ≤ QO t.co b x.key)) || (v.hi.any fun b=>decide (0 ≤ QO t.co x.key b))) = true then 9
 else if n.cs.length = 0 ∧ v.d ≠ deep + 1 then 22 else 0
def Zq (ns : List Nd) (below : List Nat) : Nat → Nat → Option Nat
 | 0,_=>none
 | f + 1,i=>if (nth ns i).us = true ∧ i ∉ below then some i else Zq ns below f (i + 1)
def X4 (t : Tre) (deep : Int) : List Vis → Int × Int
 | []=>(0,0)
 | v :: vs=>if QaS t deep v = 0 then X4 t deep vs else ((v.i : Int),QaS t deep v)
def XP (t : Tre) : Int × Int:=
 if Q5 t.co = 0 then
  if Yl t.mo t.rm = 0 then
   if 0 < t.ns.length then
    if t.ns.length ≤ 120 then
     if (XR t t.ns.length 0 []).2 = 0 then
      match Zq t.ns ((Yx t.ns).map Vis.i) t.ns.length 0 with
      | some i=>((i : Int),21)
      | none=>X4 t (X3 t.ns t.ns.length 0) (Yx t.ns)
     else XR t t.ns.length 0 []
    else (0,8)
   else (0,10)
  else (0,2)
 else (0,15)
structure TOk (co : Int) (ns : List Nd) : Prop where
 kid : ∀ i,i < ns.length → ∀ c ∈ (nth ns i).cs,(1 ≤ c ∧ c ≤ (ns.length : Int) - 1) ∧ (nth ns c.toNat).us = true
 once : (ns.flatMap Nd.cs).Nodup
 shape : ∀ i,i < ns.length → (nth ns i).cs.length = 0 ∨ (nth ns i).cs.length = (nth ns i).es.length + 1
 free : ∀ i,i < ns.length → (nth ns i).us = false → (0 < i ∧ i + 1 < ns.length) ∧ (nth ns i).es = [] ∧ (nth ns i).cs = []
 asc : ∀ i,i < ns.length → Asc co (nth ns i).es
 ents : ∀ i,i < ns.length → ∀ x ∈ (nth ns i).es,X7 co x = 0
theorem Qgu {ns : List Nd} : ∀ {cs seen : List Int},(XT ns cs seen).1 = 0 → (∀ c ∈ cs,(1 ≤ c ∧ c ≤ (ns.length : Int) - 1) ∧ (nth ns c.toNat).us = true) ∧ (XT ns cs seen).2 = cs.reverse ++ seen ∧ (seen.Nodup → (cs.reverse ++ seen).Nodup)
 | [],seen,_=>⟨fun c hc=>(nomatch hc),rfl,fun h=>h⟩
 | c :: cs,seen,h=>by
  unfold XT at h ⊢;split at h
  ·rename_i h1;split at h
   ·cases h
   ·rename_i h2;rw [if_pos h1,if_neg h2];obtain ⟨h3,h4,h5⟩:=Qgu h;refine ⟨fun x hx=>?_,?_,fun hs=>?_⟩
    ·rcases List.mem_cons.1 hx with rfl | hx
     ·exact h1
     ·exact h3 x hx
    ·rw [h4,List.reverse_cons,List.append_assoc];rfl
    ·have:=h5 (List.nodup_cons.2 ⟨h2,hs⟩);rw [List.reverse_cons,List.append_assoc];exact this
  ·cases h
theorem Qja {t : Tre} {i : Nat} {seen : List Int} (h : (XV t i seen).1 = 0) :
  ((nth t.ns i).us = true → (∀ c ∈ (nth t.ns i).cs,(1 ≤ c ∧ c ≤ (t.ns.length : Int) - 1) ∧ (nth t.ns c.toNat).us = true) ∧ ((nth t.ns i).es.length : Int) ≤ Yh t.mo t.rm i ∧ ((nth t.ns i).cs.length = 0 ∨ (nth t.ns i).cs.length = (nth t.ns i).es.length + 1) ∧ Y0 t.co (nth t.ns i).es = 0 ∧ ZE t.co (nth t.ns i).es = 0) ∧
  ((nth t.ns i).us = false → (0 < i ∧ i + 1 < t.ns.length) ∧ (nth t.ns i).es = [] ∧ (nth t.ns i).cs = []) ∧
  (XV t i seen).2 = (nth t.ns i).cs.reverse ++ seen ∧ (seen.Nodup → ((nth t.ns i).cs.reverse ++ seen).Nodup):=by
 unfold XV at h ⊢;simp only [] at h ⊢;split at h
 ·rename_i hu;split at h
  ·rename_i h1;split at h
   ·rename_i h2;split at h
    ·rename_i h3;split at h
     ·rename_i h4;obtain ⟨k1,k2,k3⟩:=Qgu h4;rw [if_pos hu,if_pos h1,if_pos h2,if_pos h3,if_pos h4];exact ⟨fun _=>⟨k1,h1,h2,h3,h⟩,fun hf=>absurd (hu.symm.trans hf) (by decide),k2,k3⟩
     ·rename_i h4;exact absurd h h4
    ·rename_i h3;exact absurd h h3
   ·cases h
  ·cases h
 ·rename_i hu;split at h
  ·rename_i h1;obtain ⟨h2,h3⟩:=h1;have e1 : (nth t.ns i).es = []:=List.eq_nil_of_length_eq_zero (by omega);have e2 : (nth t.ns i).cs = []:=List.eq_nil_of_length_eq_zero (by omega);rw [if_neg hu,if_pos ⟨h2,h3⟩,e2];exact ⟨fun h9=>absurd h9 hu,fun _=>⟨h2,e1,rfl⟩,rfl,fun h9=>h9⟩
  ·cases h
theorem Qd2 {t : Tre} : ∀ {f i : Nat} {seen : List Int},i + f = t.ns.length → (XR t f i seen).2 = 0 → seen.Nodup → (∀ j,i ≤ j → j < t.ns.length → ∃ s,(XV t j s).1 = 0) ∧ ((seen.reverse ++ (t.ns.drop i).flatMap Nd.cs)).Nodup
 | 0,i,seen,hi,h,hs=>by
  refine ⟨fun j h1 h2=>absurd h2 (by omega),?_⟩;rw [List.drop_of_length_le (by omega),List.flatMap_nil,List.append_nil];exact (List.reverse_perm seen).nodup_iff.2 hs
 | f + 1,i,seen,hi,h,hs=>by
  unfold XR at h;split at h
  ·rename_i h1;obtain ⟨h2,h3,h4,h5⟩:=Qja h1;obtain ⟨h6,h7⟩:=Qd2 (f:=f) (i:=i + 1) (by omega) h (by rw [h4];exact h5 hs);refine ⟨fun j hj1 hj2=>?_,?_⟩
   ·rcases Nat.lt_or_ge i j with h8 | h8
    ·exact h6 j h8 hj2
    ·obtain rfl : i = j:=by omega
     exact ⟨seen,h1⟩
   ·rw [h4,List.reverse_append,List.reverse_reverse,List.append_assoc] at h7;rw [List.drop_eq_getElem_cons (show i < t.ns.length by omega),List.flatMap_cons];have e : t.ns[i] = nth t.ns i:=(Q3 (List.getElem?_eq_getElem (by omega))).symm;rw [e];exact h7
  ·rename_i h1;exact absurd h h1
theorem QiQ {co : Int} {es : List TEnt} (h : Y0 co es = 0) : ∀ x ∈ es,X7 co x = 0:=fun x hx=>QcR.1 h _ (List.mem_map.2 ⟨x,hx,rfl⟩)
theorem Yi {t : Tre} (h : (XR t t.ns.length 0 []).2 = 0) : TOk t.co t.ns:=by
 obtain ⟨h1,h2⟩:=Qd2 (f:=t.ns.length) (i:=0) (by omega) h List.nodup_nil;have key:=fun i (hi : i < t.ns.length)=>Qja (h1 i (Nat.zero_le _) hi).choose_spec;have hF : ∀ i,i < t.ns.length → (nth t.ns i).us = false → (0 < i ∧ i + 1 < t.ns.length) ∧ (nth t.ns i).es = [] ∧ (nth t.ns i).cs = []:=fun i hi=>(key i hi).2.1;refine ⟨fun i hi c hc=>?_,by simpa using h2,fun i hi=>?_,hF,fun i hi=>?_,fun i hi x hx=>?_⟩
 ·cases e : (nth t.ns i).us with
  | true=>exact ((key i hi).1 e).1 c hc
  | false=>rw [(hF i hi e).2.2] at hc;cases hc
 ·cases e : (nth t.ns i).us with
  | true=>exact ((key i hi).1 e).2.2.1
  | false=>exact Or.inl (by rw [(hF i hi e).2.2];rfl)
 ·cases e : (nth t.ns i).us with
  | true=>exact Qnd ((key i hi).1 e).2.2.2.2
  | false=>
   rw [(hF i hi e).2.1];intro k hk;exact absurd hk (Nat.not_lt_zero _)
 ·cases e : (nth t.ns i).us with
  | true=>exact QiQ ((key i hi).1 e).2.2.2.1 x hx
  | false=>rw [(hF i hi e).2.1] at hx;cases hx
theorem Qe9 {α : Type} : ∀ {A B : List α} {x : α},(A ++ B).Nodup → x ∈ A → x ∈ B → False:=fun h h1 h2=>(List.nodup_append.1 h).2.2 _ h1 _ h2 rfl
theorem Qbk {α β : Type} [Inhabited α] {f : α → List β} : ∀ {l : List α},(l.flatMap f).Nodup → ∀ {i j : Nat} {c : β},i < l.length → j < l.length → c ∈ f (nth l i) → c ∈ f (nth l j) → i = j
 | [],_,i,j,c,hi,_,_,_=>absurd hi (Nat.not_lt_zero _)
 | x :: l,h,i,j,c,hi,hj,h1,h2=>by
  rw [List.flatMap_cons] at h;have hm : ∀ k,k < l.length → c ∈ f (nth l k) → c ∈ l.flatMap f:=fun k hk hc=>List.mem_flatMap.2 ⟨_,Q1 hk,hc⟩;cases i with
  | zero=>
   cases j with
   | zero=>rfl
   | succ j=>exact (Qe9 h h1 (hm j (by simpa using hj) h2)).elim
  | succ i=>
   cases j with
   | zero=>exact (Qe9 h h2 (hm i (by simpa using hi) h1)).elim
   | succ j=>rw [Qbk (List.nodup_append.1 h).2.1 (by simpa using hi) (by simpa using hj) h1 h2]
theorem Qej {α β : Type} [Inhabited α] {f : α → List β} : ∀ {l : List α},(l.flatMap f).Nodup → ∀ {i : Nat},i < l.length → (f (nth l i)).Nodup
 | [],_,i,hi=>absurd hi (Nat.not_lt_zero _)
 | x :: l,h,i,hi=>by
  rw [List.flatMap_cons] at h;cases i with
  | zero=>exact (List.nodup_append.1 h).1
  | succ i=>exact Qej (List.nodup_append.1 h).2.1 (by simpa using hi)
def Way (ns : List Nd) : List Nat → Prop
 | []=>False
 | [r]=>r = 0
 | c :: p :: P=>((c : Int) ∈ (nth ns p).cs ∧ p < ns.length) ∧ Way ns (p :: P)
theorem Z9 {co : Int} {ns : List Nd} (ht : TOk co ns) (h0 : 0 < ns.length) : ∀ {P : List Nat},Way ns P → ∀ x ∈ P,x < ns.length
 | [],h,_,_=>h.elim
 | [r],h,x,hx=>by
  rw [List.mem_singleton.1 hx,show r = 0 from h];exact h0
 | c :: p :: P,h,x,hx=>by
  rcases List.mem_cons.1 hx with rfl | hx
  ·have:=(ht.kid p h.1.2 _ h.1.1).1;omega
  ·exact Z9 ht h0 h.2 x hx
theorem QjA {ns : List Nd} : ∀ {P : List Nat},Way ns P → ∀ j,j + 1 < P.length → ((nth P j : Nat) : Int) ∈ (nth ns (nth P (j + 1))).cs ∧ nth P (j + 1) < ns.length
 | [],h,_,_=>h.elim
 | [r],h,j,hj=>absurd hj (by simp)
 | c :: p :: P,h,0,hj=>h.1
 | c :: p :: P,h,j + 1,hj=>QjA h.2 j (by simpa using hj)
theorem Qg8 {ns : List Nd} : ∀ {P : List Nat},Way ns P → nth P (P.length - 1) = 0
 | [],h=>h.elim
 | [r],h=>h
 | c :: p :: P,h=>by
  have h1:=Qg8 h.2;show nth (p :: P) P.length = 0;exact h1
theorem Qfr {co : Int} {ns : List Nd} (ht : TOk co ns) : ∀ {P : List Nat},Way ns P → P.Nodup
 | [],h=>h.elim
 | [r],h=>by simp
 | c :: p :: P,h=>by
  have h1:=Qfr ht h.2;refine List.nodup_cons.2 ⟨fun hc=>?_,h1⟩;obtain ⟨j,hj,e⟩:=List.getElem_of_mem hc;have e2 : nth (p :: P) j = c:=Q3 (by rw [List.getElem?_eq_getElem hj,e]);have hk:=ht.kid p h.1.2 _ h.1.1;rcases Nat.lt_or_ge (j + 1) (p :: P).length with h2 | h2
  ·have h3:=QjA h.2 j h2;rw [e2] at h3;have h4:=Qbk ht.once h.1.2 h3.2 h.1.1 h3.1
   have h5 : (p :: P)[0]? = (p :: P)[j + 1]?:=by
    rw [Q6 h2,← h4];rfl
   have:=(List.getElem?_inj (by simp) h1).1 h5;omega
  ·have h3:=Qg8 h.2;rw [show (p :: P).length - 1 = j by omega,e2] at h3;omega
theorem Qd5 : ∀ (n : Nat) (l : List Nat),l.Nodup → (∀ x ∈ l,x < n) → l.length ≤ n
 | 0,l,_,h=>by
  cases l with
  | nil=>exact Nat.le_refl _
  | cons x l=>exact absurd (h x (List.mem_cons_self ..)) (Nat.not_lt_zero _)
 | n + 1,l,hd,h=>by
  have h1:=Qd5 n (l.erase n) (hd.erase n) (fun x hx=>by
   have h2:=(hd.mem_erase_iff).1 hx;have:=h x h2.2;omega)
  have h2:=List.length_erase_le (a:=n) (l:=l);rw [List.length_erase] at h1;split at h1 <;> omega
theorem X9 {co : Int} {ns : List Nd} (ht : TOk co ns) (h0 : 0 < ns.length) {P : List Nat} (h : Way ns P) : P.length ≤ ns.length:=Qd5 _ _ (Qfr ht h) (Z9 ht h0 h)
end Gx
namespace Gx
open Go Go.RowKit
theorem Qgz : ∀ a b,Lib.compareBytes a b = X2 a b
 | [],[]=>rfl
 | [],_ :: _=>rfl
 | _ :: _,[]=>rfl
 | a :: x,b :: y=>by
  unfold Lib.compareBytes X2;rw [Qgz x y]
section
variable {P : Program} {o : Oper} {L : Qq}
def isCS (P : Program) (f : FuncId) : Prop := ∃ fn, P.funcs[f]? = some fn ∧ (fn.name == "runtime.NumGoroutine") = false ∧ fn.body.isNone = true ∧ Extern.findNext fn = none ∧ Extern.find fn = some Extern.BytealgCompare.compare
theorem QhI {f : FuncId} {x y : Operand} {a b : List UInt8} {at' : Array TypeId} {C : World → Prop} (ho : o.op = .call { callee:=.value (.func f),args:=#[x,y],argTypes:=at' }) (hx : ev L x = some (.string (bs a))) (hy : ev L y = some (.string (bs b))) (hf : isCS P f) : OpQ P o L C (.int .i64 (X2 a b)):=by
 intro ρ w hρ hw;obtain ⟨fn,h1,h2,h3,h4,h5⟩:=hf;have hcall:=run_callFunc_extern h1 h2 h3 h4 h5 #[.string (bs a),.string (bs b)] w;rw [Lib.run_compareString,bs_data,bs_data,Qgz] at hcall
 have : (execOp ρ o).run P w = .ok (.value (.int .i64 (X2 a b))) w:=by
  unfold execOp;simp only [ho,resolve,Sem.run_bind,hρ (.func f) _ rfl,Deferred.ofValue,Sem.run_pure,Result.andThen_ok,invoke,List.map_toArray,List.map_cons,List.map_nil,hρ _ _ hx,hρ _ _ hy,Array.empty_append,Array.append_empty,hcall]
 rw [this];exact ⟨rfl,Below.refl _ _⟩
end
end Gx
namespace Gx
open Go Go.RowKit
class TFd (P : Program) (t f : Nat) (off ft : outParam Nat) : Prop where h : tfd P t f = some (off,ft)
class TSz (P : Program) (t : Nat) (n : outParam Nat) (ag : outParam Bool) : Prop where h : tsz P t = some (n,ag)
class TSe (P : Program) (t : Nat) (e : outParam Nat) : Prop where h : P.underlying t = some (.slice e)
section
variable {X : Ctx} {ops : Array Oper} {rest : List Oper} {k : List KI} {L : Qq} {d ty : Nat} {pos : String} {aft : Array Edge} {C : World → Prop}
theorem oFa {st f x b i off ft sz : Nat} {ag : Bool} [h1 : TFd X.P st f off ft] [h2 : TSz X.P ft sz ag] (next : O X ops rest k ((d,.pointer (some ⟨b,i + off,none⟩)) :: L) C) (hx : Qq.get L x = some (.pointer (some ⟨b,i,none⟩)):=by rfl) (hs : Nat.blt 0 sz = true:=by rfl) (hd : Nat.blt d X.n = true:=by rfl) :
  O X ops (⟨some d,.fieldAddr st (.tmp x) f,ty,pos,aft,none⟩ :: rest) k L C:=o_p (Qbc rfl hx h1.h h2.h hs) hd next
theorem oLs {t e x n cap : Nat} {a : Option Addr} [h1 : TSe X.P t e] (next : O X ops rest k ((d,.int .i64 n) :: L) C) (hx : Qq.get L x = some (.slice a n cap):=by rfl) (hd : Nat.blt d X.n = true:=by rfl) :
  O X ops (⟨some d,.call { callee:=.builtin .len,args:=#[.tmp x],argTypes:=#[t] },ty,pos,aft,none⟩ :: rest) k L C:=o_p (QQ (x:=.tmp x) rfl hx h1.h) hd next
theorem oLd {w0 : World} {M : List Nat} {As As' : List HA} {t x b tot i : Nat} {bt : TypeId} {cs : List Value} {v : Value} [h1 : TSz X.P t 1 false] (next : O X ops rest k ((d,v) :: L) (HS w0 M As)) (hx : Qq.get L x = some (.pointer (some ⟨b,i,none⟩)):=by rfl) (hp : QG As (.blk b bt tot cs) As':=by repeat (first | exact .here | apply QG.there)) (hv : cs[i]? = some v:=by rfl) (hd : Nat.blt d X.n = true:=by rfl) :
  O X ops (⟨some d,.load t (.tmp x),ty,pos,aft,none⟩ :: rest) k L (HS w0 M As):=o_q (XW rfl hx h1.h hp hv) hd next
theorem oLn {w0 : World} {M : List Nat} {As As' : List HA} {t x b tot i n : Nat} {bt : TypeId} {cs : List Value} [h1 : TSz X.P t n true] (next : O X ops rest k ((d,.agg (cut cs i n).toArray) :: L) (HS w0 M As)) (hx : Qq.get L x = some (.pointer (some ⟨b,i,none⟩)):=by rfl) (hp : QG As (.blk b bt tot cs) As':=by repeat (first | exact .here | apply QG.there)) (hl : Nat.ble (i + n) cs.length = true:=by rfl) (hd : Nat.blt d X.n = true:=by rfl) :
  O X ops (⟨some d,.load t (.tmp x),ty,pos,aft,none⟩ :: rest) k L (HS w0 M As):=o_q (QfB rfl hx h1.h hp hl) hd next
theorem oOf {j : Nat} {want b : Bool} {op : Op} (dj : Nat) (hb : b = !want) (next : O X ops rest k ((d,undef) :: L) C) (hj : (ops[j]?).bind (·.dst) = some dj:=by rfl) (hs : Qq.get L dj = some (.bool b):=by rfl) (hd : Nat.blt d X.n = true:=by rfl) : O X ops (⟨some d,op,ty,pos,aft,some (j,want)⟩ :: rest) k L C:=Qrm dj b hj hs hb hd next
theorem oOn {j : Nat} {want b : Bool} {op : Op} {dst : Option Nat} (dj : Nat) (hb : b = want) (next : O X ops (⟨dst,op,ty,pos,aft,none⟩ :: rest) k L C) (hj : (ops[j]?).bind (·.dst) = some dj:=by rfl) (hs : Qq.get L dj = some (.bool b):=by rfl) : O X ops (⟨dst,op,ty,pos,aft,some (j,want)⟩ :: rest) k L C:=o_on dj b hj hs hb next
end
section
variable {X : Ctx} {ops : Array Oper} {F : List Nat} {fuel : Nat} {listed : Array Bool} {k : List KI} {L : Qq} {d ty : Nat} {pos : String} {aft : Array Edge} {C B : World → Prop} {w0 : World} {M : List Nat} {As As' Bs : List HA}
theorem dFa (i : Nat) {st f x b o off ft sz : Nat} {ag : Bool} (next : D X ops F B fuel (listed.setIfInBounds i true) k ((d,.pointer (some ⟨b,o + off,none⟩)) :: L) C) (hi : ops[i]? = some ⟨some d,.fieldAddr st (.tmp x) f,ty,pos,aft,none⟩:=by rfl) (hx : Qq.get L x = some (.pointer (some ⟨b,o,none⟩)):=by rfl) (h1 : TFd X.P st f off ft:=by infer_instance) (h2 : TSz X.P ft sz ag:=by infer_instance) (hs : Nat.blt 0 sz = true:=by rfl) (hok : Xz ops listed i = true:=by kernel_rfl) (hF : F.all (fun f=>!Nat.beq f i) = true:=by rfl) (hd : Nat.blt d X.n = true:=by rfl) : D X ops F B (fuel + 1) listed k L C:=d_p i hi (Qbc rfl hx h1.h h2.h hs) hok hF hd next
theorem dFo {j : Nat} {want c : Bool} (i dj : Nat) {st f x b o off ft sz : Nat} {ag : Bool} (hw : c = want) (next : D X ops F B fuel (listed.setIfInBounds i true) k ((d,.pointer (some ⟨b,o + off,none⟩)) :: L) C) (hi : ops[i]? = some ⟨some d,.fieldAddr st (.tmp x) f,ty,pos,aft,some (j,want)⟩:=by rfl) (hj : (ops[j]?).bind (·.dst) = some dj:=by rfl) (hb : Qq.get L dj = some (.bool c):=by rfl) (hx : Qq.get L x = some (.pointer (some ⟨b,o,none⟩)):=by rfl) (h1 : TFd X.P st f off ft:=by infer_instance) (h2 : TSz X.P ft sz ag:=by infer_instance) (hs : Nat.blt 0 sz = true:=by rfl) (hok : Xz ops listed i = true:=by kernel_rfl) (hF : F.all (fun f=>!Nat.beq f i) = true:=by rfl) (hd : Nat.blt d X.n = true:=by rfl) : D X ops F B (fuel + 1) listed k L C:=Qmr i dj hi hj hb hw (Qbc rfl hx h1.h h2.h hs) hok hF hd next
theorem dPo {j : Nat} {want c : Bool} {op : Op} {v : Value} (i dj : Nat) (hw : c = want) (next : D X ops F B fuel (listed.setIfInBounds i true) k ((d,v) :: L) C) (hi : ops[i]? = some ⟨some d,op,ty,pos,aft,some (j,want)⟩:=by rfl) (hj : (ops[j]?).bind (·.dst) = some dj:=by rfl) (hb : Qq.get L dj = some (.bool c):=by rfl) (h : OpP X.P ⟨some d,op,ty,pos,aft,none⟩ L v:=by exact Qh3 rfl) (hok : Xz ops listed i = true:=by kernel_rfl) (hF : F.all (fun f=>!Nat.beq f i) = true:=by rfl) (hd : Nat.blt d X.n = true:=by rfl) : D X ops F B (fuel + 1) listed k L C:=Qmr i dj hi hj hb hw h hok hF hd next
theorem dOf {j : Nat} {want c : Bool} {op : Op} (i dj : Nat) (hw : c = !want) (next : D X ops F B fuel (listed.setIfInBounds i true) k ((d,undef) :: L) C) (hi : ops[i]? = some ⟨some d,op,ty,pos,aft,some (j,want)⟩:=by rfl) (hj : (ops[j]?).bind (·.dst) = some dj:=by rfl) (hb : Qq.get L dj = some (.bool c):=by rfl) (hok : Xz ops listed i = true:=by kernel_rfl) (hF : F.all (fun f=>!Nat.beq f i) = true:=by rfl) (hd : Nat.blt d X.n = true:=by rfl) : D X ops F B (fuel + 1) listed k L C:=Qrb i dj hi hj hb hw hok hF hd next
theorem dOu {j : Nat} {want : Bool} {op : Op} (i dj : Nat) (next : D X ops F B fuel (listed.setIfInBounds i true) k ((d,undef) :: L) C) (hi : ops[i]? = some ⟨some d,op,ty,pos,aft,some (j,want)⟩:=by rfl) (hj : (ops[j]?).bind (·.dst) = some dj:=by rfl) (hb : Qq.get L dj = some undef:=by rfl) (hok : Xz ops listed i = true:=by kernel_rfl) (hF : F.all (fun f=>!Nat.beq f i) = true:=by rfl) (hd : Nat.blt d X.n = true:=by rfl) : D X ops F B (fuel + 1) listed k L C:=QpD i dj hi hj hb hok hF hd next
theorem dNi (next : S X k L (HS w0 M As)) (hB : ∀ w,HS w0 M As w → B w:=by (intro w h;first | exact h | exact h.ent aEt)) (hr : (Region.ready .any ops listed == []) = true:=by kernel_rfl) : D X ops F B 0 listed k L (HS w0 M As):=QrK hr hB next
theorem dBa (next : D X ops F (HS w0 M As) fuel listed k L (HS w0 M As)) (hB : ∀ w,HS w0 M As w → B w:=by (intro w h;exact h.ent aEt)) : D X ops F B fuel listed k L (HS w0 M As):=Qql hB next
theorem dLd (i : Nat) (ps : List (List Nat)) {t x b tot o : Nat} {bt : TypeId} {cs : List Value} {v : Value} (next : D X ops F (HS w0 M Bs) fuel (listed.setIfInBounds i true) k ((d,v) :: L) C) (hi : ops[i]? = some ⟨some d,.load t (.tmp x),ty,pos,aft,none⟩:=by rfl) (hx : Qq.get L x = some (.pointer (some ⟨b,o,none⟩)):=by rfl) (h1 : TSz X.P t 1 false:=by infer_instance) (hp : QG Bs (.blk b bt tot cs) As':=by repeat (first | exact .here | apply QG.there)) (hv : cs[o]? = some v:=by rfl) (hok : Xz ops listed i = true:=by kernel_rfl) (hF : ZQ ops F i ps = true:=by kernel_rfl) (hn : Qcc F listed = true:=by kernel_rfl) (hd : Nat.blt d X.n = true:=by rfl) : D X ops F (HS w0 M Bs) (fuel + 1) listed k L C:=d_q i ps hi (XW rfl hx h1.h hp hv) hok hF hn hd next
theorem dLn (i : Nat) (ps : List (List Nat)) {t x b tot o n : Nat} {bt : TypeId} {cs : List Value} (next : D X ops F (HS w0 M Bs) fuel (listed.setIfInBounds i true) k ((d,.agg (cut cs o n).toArray) :: L) C) (hi : ops[i]? = some ⟨some d,.load t (.tmp x),ty,pos,aft,none⟩:=by rfl) (hx : Qq.get L x = some (.pointer (some ⟨b,o,none⟩)):=by rfl) (h1 : TSz X.P t n true:=by infer_instance) (hp : QG Bs (.blk b bt tot cs) As':=by repeat (first | exact .here | apply QG.there)) (hl : Nat.ble (o + n) cs.length = true:=by rfl) (hok : Xz ops listed i = true:=by kernel_rfl) (hF : ZQ ops F i ps = true:=by kernel_rfl) (hn : Qcc F listed = true:=by kernel_rfl) (hd : Nat.blt d X.n = true:=by rfl) : D X ops F (HS w0 M Bs) (fuel + 1) listed k L C:=d_q i ps hi (QfB rfl hx h1.h hp hl) hok hF hn hd next
end
section
variable {X : Ctx} {ops : Array Oper} {F : List Nat} {fuel : Nat} {listed : Array Bool} {rest : List Oper} {k : List KI} {L : Qq} {d ty : Nat} {pos : String} {aft : Array Edge} {w0 : World} {M : List Nat} {As As' : List HA}
theorem oSt {t x b tot i n : Nat} {y : Operand} {bt : TypeId} {ag : Bool} {cs : List Value} {v : Value} [hs : TSz X.P t n ag] (next : O X ops rest k L (HS w0 M As')) (hx : Qq.get L x = some (.pointer (some ⟨b,i,none⟩)):=by rfl) (hy : ev L y = some v:=by rfl) (hn : v.cells.toList.length = n:=by rfl)
  (hp : Put As (.blk b bt tot cs) (.blk b bt tot (Qy cs i v.cells.toList)) As':=by repeat (first | exact .here | apply Put.there)) (hl : i + n ≤ cs.length:=by (simp only [Qx,List.length_set,List.length_cons,List.length_nil,List.length_map];omega)) (h1 : v.cells.toList.all (·.oneCell') = true:=by rfl) :
  O X ops (⟨none,.store t (.tmp x) y,ty,pos,aft,none⟩ :: rest) k L (HS w0 M As):=YE (Q9 rfl hx hy hs.h hn hp hl h1) fun _ _=>next
theorem oAl {t : TypeId} {z : List Value} (next : ∀ b,True → O X ops rest k ((d,.pointer (some ⟨b,0,none⟩)) :: L) (HS w0 M (.blk b t z.length z :: As))) (hz : X5 X.P t = some z) (hd : Nat.blt d X.n = true:=by rfl) : O X ops (⟨some d,.alloc t,ty,pos,aft,none⟩ :: rest) k L (HS w0 M As):=o_h (QiM rfl hz) hd next
theorem oBx {t : TypeId} {x : Operand} {v : Value} (next : ∀ b,True → O X ops rest k ((d,.pointer (some ⟨b,0,none⟩)) :: L) (HS w0 M (.blk b t v.cells.toList.length v.cells.toList :: As))) (hx : ev L x = some v:=by rfl) (hd : Nat.blt d X.n = true:=by rfl) : O X ops (⟨some d,.box t x,ty,pos,aft,none⟩ :: rest) k L (HS w0 M As):=o_h (QiH rfl hx) hd next
theorem oWr {v : Int} {C : World → Prop} (next : O X ops rest k ((d,.int .i64 v) :: L) C) (h1 : -9223372036854775808 ≤ v:=by omega) (h2 : v ≤ 9223372036854775807:=by omega) : O X ops rest k ((d,.int .i64 (IntKind.i64.wrap v)) :: L) C:=Qm (i64w h1 h2) next
theorem dWr {v : Int} {C B : World → Prop} (next : D X ops F B fuel listed k ((d,.int .i64 v) :: L) C) (h1 : -9223372036854775808 ≤ v:=by omega) (h2 : v ≤ 9223372036854775807:=by omega) : D X ops F B fuel listed k ((d,.int .i64 (IntKind.i64.wrap v)) :: L) C:=Ql (i64w h1 h2) next
theorem oJn {X : Ctx} {k : List KI} {L : Qq} {LJ : Unit → Qq} {C : World → Prop} {CJ : Unit → World → Prop} (m dp : Nat) {v : Value} (hJ : LJ () = (dp,v) :: L.drop m:=by exact rfl) (hv : Qq.get L dp = some v:=by exact rfl) (hf : QfG L m = true:=by exact rfl) (hC : ∀ w,C w → CJ () w:=by (intro w h;first | exact h | exact h.ent aEt)) : S X (.join (At X.n X.df LJ CJ) :: k) L C:=Qoc m dp v hJ hv hf hC
theorem dSt {B : World → Prop} (i : Nat) {t x b tot o n : Nat} {y : Operand} {bt : TypeId} {ag : Bool} {cs : List Value} {v : Value} (next : D X ops F B fuel (listed.setIfInBounds i true) k L (HS w0 M As')) (hi : ops[i]? = some ⟨none,.store t (.tmp x) y,ty,pos,aft,none⟩:=by rfl) (hx : Qq.get L x = some (.pointer (some ⟨b,o,none⟩)):=by rfl) (hy : ev L y = some v:=by rfl) (hs : TSz X.P t n ag:=by infer_instance) (hn : v.cells.toList.length = n:=by rfl)
  (hp : Put As (.blk b bt tot cs) (.blk b bt tot (Qy cs o v.cells.toList)) As':=by repeat (first | exact .here | apply Put.there)) (hl : o + n ≤ cs.length) (h1 : v.cells.toList.all (·.oneCell') = true:=by rfl) (hr : (Region.ready .any ops listed == [i]) = true:=by kernel_rfl) (hB : ∀ w,HS w0 M As w → B w:=by (intro w h;exact h.ent aEt)) :
  D X ops F B (fuel + 1) listed k L (HS w0 M As):=QiD i hi (Q9 rfl hx hy hs.h hn hp hl h1) hr hB fun _ _=>next
theorem dTu {B : World → Prop} (F' : List Nat) (next : D X ops F' (HS w0 M As) fuel listed k L (HS w0 M As)) (hf : F.any (fun f=>listed.getD f false) = true:=by kernel_rfl) : D X ops F B fuel listed k L (HS w0 M As):=QpZ F' hf next
end
section
variable {X : Ctx} {ops : Array Oper} {F : List Nat} {fuel : Nat} {listed : Array Bool} {k : List KI} {L : Qq} {d ty : Nat} {pos : String} {aft : Array Edge} {op : Op} {w0 : World} {M : List Nat} {As Bs : List HA}
theorem dQ {C : World → Prop} {v : Value} (i : Nat) (ps : List (List Nat)) (hi : ops[i]? = some ⟨some d,op,ty,pos,aft,none⟩) (h : OpQ X.P ⟨some d,op,ty,pos,aft,none⟩ L (HS w0 M Bs) v) (next : D X ops F (HS w0 M Bs) fuel (listed.setIfInBounds i true) k ((d,v) :: L) C) (hok : Xz ops listed i = true:=by kernel_rfl) (hF : ZQ ops F i ps = true:=by kernel_rfl) (hn : Qcc F listed = true:=by kernel_rfl) (hd : Nat.blt d X.n = true:=by rfl) : D X ops F (HS w0 M Bs) (fuel + 1) listed k L C:=d_q i ps hi h hok hF hn hd next
theorem dV {C : World → Prop} {B : World → Prop} {v : Value} (i : Nat) (hi : ops[i]? = some ⟨some d,op,ty,pos,aft,none⟩) (h : OpP X.P ⟨some d,op,ty,pos,aft,none⟩ L v) (next : D X ops F B fuel (listed.setIfInBounds i true) k ((d,v) :: L) C) (hok : Xz ops listed i = true:=by kernel_rfl) (hF : F.all (fun f=>!Nat.beq f i) = true:=by rfl) (hd : Nat.blt d X.n = true:=by rfl) : D X ops F B (fuel + 1) listed k L C:=d_p i hi h hok hF hd next
theorem dH {B : World → Prop} {G : Type} {V : G → Value} {Fg : G → Prop} {C' : G → World → Prop} (i : Nat) (hi : ops[i]? = some ⟨some d,op,ty,pos,aft,none⟩) (h : OpH X.P ⟨some d,op,ty,pos,aft,none⟩ L (HS w0 M As) V Fg C') (next : ∀ g,Fg g → D X ops F B fuel (listed.setIfInBounds i true) k ((d,V g) :: L) (C' g)) (hr : (Region.ready .any ops listed == [i]) = true:=by kernel_rfl) (hB : ∀ w,HS w0 M As w → B w:=by (intro w h;exact h.ent aEt)) (hd : Nat.blt d X.n = true:=by rfl) : D X ops F B (fuel + 1) listed k L (HS w0 M As):=d_h i hi h hr hB hd next
theorem dVo {C : World → Prop} {B : World → Prop} {v : Value} {j : Nat} {want b : Bool} (i dj : Nat) (hw : b = want) (hi : ops[i]? = some ⟨some d,op,ty,pos,aft,some (j,want)⟩) (hj : (ops[j]?).bind (·.dst) = some dj) (hb : Qq.get L dj = some (.bool b)) (h : OpP X.P ⟨some d,op,ty,pos,aft,none⟩ L v) (next : D X ops F B fuel (listed.setIfInBounds i true) k ((d,v) :: L) C) (hok : Xz ops listed i = true:=by kernel_rfl) (hF : F.all (fun f=>!Nat.beq f i) = true:=by rfl) (hd : Nat.blt d X.n = true:=by rfl) : D X ops F B (fuel + 1) listed k L C:=Qmr i dj hi hj hb hw h hok hF hd next
theorem dQo {C : World → Prop} {v : Value} {j : Nat} {want b : Bool} (i dj : Nat) (ps : List (List Nat)) (hw : b = want) (hi : ops[i]? = some ⟨some d,op,ty,pos,aft,some (j,want)⟩) (hj : (ops[j]?).bind (·.dst) = some dj) (hb : Qq.get L dj = some (.bool b)) (h : OpQ X.P ⟨some d,op,ty,pos,aft,none⟩ L (HS w0 M Bs) v) (next : D X ops F (HS w0 M Bs) fuel (listed.setIfInBounds i true) k ((d,v) :: L) C) (hok : Xz ops listed i = true:=by kernel_rfl) (hF : ZQ ops F i ps = true:=by kernel_rfl) (hn : Qcc F listed = true:=by kernel_rfl) (hd : Nat.blt d X.n = true:=by rfl) : D X ops F (HS w0 M Bs) (fuel + 1) listed k L C:=Qr6 i dj ps hi hj hb hw h hok hF hn hd next
theorem rT {t : Nat} {v : Value} (hr : X.fn.results = [ResultVar.tmp t].toArray) (hv : Qq.get L t = some v) (h : ∀ w,HS w0 M As w → X.R (.returned (Xw [v])) w) (hrd : X.rd = none:=by rfl) (hdf : X.df = []:=by rfl) : S X (.c .ret :: k) L (HS w0 M As):=QM hr (.tmp hv .nil) h hrd hdf
end
theorem aS {p q : Prop} (hq : q) (h : q → p:=by (intro hq;first | refine Qrn ?_ | refine Qk1 ?_ | refine QrZ ?_ | refine Qp1 ?_ | refine QnF ?_ | refine Qpb ?_ | refine oP ?_ | refine oFa ?_ | refine oLs ?_ | refine oLd ?_ | refine oLn ?_);exact hq) : p:=h hq
theorem aS2 {p q : Prop} (hq : q) (h : q → p:=by (intro hq;iterate 2 refine aS ?_);exact hq) : p:=h hq
theorem aS3 {p q : Prop} (hq : q) (h : q → p:=by (intro hq;iterate 3 refine aS ?_);exact hq) : p:=h hq
theorem aS4 {p q : Prop} (hq : q) (h : q → p:=by (intro hq;iterate 4 refine aS ?_);exact hq) : p:=h hq
theorem aS5 {p q : Prop} (hq : q) (h : q → p:=by (intro hq;iterate 5 refine aS ?_);exact hq) : p:=h hq
theorem aS6 {p q : Prop} (hq : q) (h : q → p:=by (intro hq;iterate 6 refine aS ?_);exact hq) : p:=h hq
theorem aS7 {p q : Prop} (hq : q) (h : q → p:=by (intro hq;iterate 7 refine aS ?_);exact hq) : p:=h hq
theorem aS8 {p q : Prop} (hq : q) (h : q → p:=by (intro hq;iterate 8 refine aS ?_);exact hq) : p:=h hq
theorem aS9 {p q : Prop} (hq : q) (h : q → p:=by (intro hq;iterate 9 refine aS ?_);exact hq) : p:=h hq
theorem Zf {p q : Prop} (hq : q) (h : q → p:=by (intro hq;iterate 10 refine aS ?_);exact hq) : p:=h hq
theorem QaU {p q : Prop} (hq : q) (h : q → p:=by (intro hq;iterate 11 refine aS ?_);exact hq) : p:=h hq
theorem Zp {p q : Prop} (hq : q) (h : q → p:=by (intro hq;iterate 12 refine aS ?_);exact hq) : p:=h hq
theorem dT {p : Prop} [Decidable p] : (decide p = true) = p:=decide_eq_true_eq
theorem dN {p : Prop} [Decidable p] : decide p = false ↔ ¬p:=decide_eq_false_iff_not
end Gx
namespace Go.Proofs
open Go Go.RowKit Gx
instance : TSe Tryz.prog 22 102:=⟨Tryz.underlying22⟩
instance : TSe Tryz.prog 30 3:=⟨Tryz.underlying30⟩
instance : TSe Tryz.prog 77 26:=⟨Tryz.underlying77⟩
instance : TSe Tryz.prog 82 85:=⟨Tryz.underlying82⟩
instance : TSe Tryz.prog 150 5:=⟨Tryz.underlying150⟩
instance : TSe Tryz.prog 165 31:=⟨Tryz.underlying165⟩
instance : TSe Tryz.prog 199 77:=⟨Tryz.underlying199⟩
instance : TSe Tryz.prog 200 30:=⟨Tryz.underlying200⟩
end Go.Proofs
namespace Go.Proofs
open Go Go.RowKit Gx
attribute [local irreducible] Go.Calls Gx.S Gx.O Gx.D Gx.OpP Gx.OpQ Gx.OpH
set_option maxRecDepth 20000
theorem Qbn : tsl Tryz.prog 165 = some (31,1,8):=by kernel_rfl
theorem QrG : tsz Tryz.prog 31 = some (1,false):=by kernel_rfl
theorem Qdm : QT Tryz.prog 93 = true:=by kernel_rfl
theorem Zt : QT Tryz.prog 81 = true:=by kernel_rfl
theorem Qpi : QT Tryz.prog 74 = true:=by kernel_rfl
theorem QdV : X5 Tryz.prog 31 = some [.int .i64 0]:=by kernel_rfl
theorem Qez : QT Tryz.prog 75 = true:=by kernel_rfl
theorem Qb0 : QT Tryz.prog 46 = true:=by kernel_rfl
theorem c93 (w : World) (n lo hi : Int) : Calls Tryz.prog 93 #[.int .i64 n,.int .i64 lo,.int .i64 hi] w fun en w'=>en = .returned (.bool (decide (lo ≤ n) && decide (n ≤ hi))) ∧ Below w.heap.size w w':=by
 refine enter (args:=[_,_,_]) Tryz.func93 Tryz.ntmps93 rfl rfl (HS.refl w []) ?_
 refine Zf ?_
 refine XD 4 10 14 _ _ rfl
  (by
   intro hg1
   have hs2:=hg1;try simp only [dT] at hs2
   refine oOn 10 hg1 ?_
   refine aS ?_
   refine oOn 10 hg1 ?_
   refine aS ?_
   refine oOn 10 hg1 ?_
   refine aS ?_
   refine o_p (Qw rfl rfl hg1 rfl) rfl ?_
   refine aS ?_
   exact oJn 4 14)
  (by
   intro hg3
   have hs4:=hg3;try simp only [dN] at hs4
   refine oOf 10 hg3 ?_
   refine oOf 10 hg3 ?_
   refine oOf 10 hg3 ?_
   refine o_p (Qs rfl rfl hg3 rfl) rfl ?_
   refine aS ?_
   exact oJn 4 14) ?_
 refine aS2 ?_
 exact rT rfl rfl (fun w' h'=>⟨rfl,h'.below⟩)
theorem c46 (w : World) (n lo hi : Int) : Calls Tryz.prog 46 #[.int .i64 n,.int .i64 lo,.int .i64 hi] w fun en w'=>en = .returned (.bool (decide (lo ≤ n) && decide (n ≤ hi))) ∧ Below w.heap.size w w':=by
 refine enter (args:=[_,_,_]) Tryz.func46 Tryz.ntmps46 rfl rfl (HS.refl w []) ?_
 refine Zf ?_
 refine XD 4 10 14 _ _ rfl
  (by
   intro hg1
   have hs2:=hg1;try simp only [dT] at hs2
   refine oOn 10 hg1 ?_
   refine aS ?_
   refine oOn 10 hg1 ?_
   refine aS ?_
   refine oOn 10 hg1 ?_
   refine aS ?_
   refine o_p (Qw rfl rfl hg1 rfl) rfl ?_
   refine aS ?_
   exact oJn 4 14)
  (by
   intro hg3
   have hs4:=hg3;try simp only [dN] at hs4
   refine oOf 10 hg3 ?_
   refine oOf 10 hg3 ?_
   refine oOf 10 hg3 ?_
   refine o_p (Qs rfl rfl hg3 rfl) rfl ?_
   refine aS ?_
   exact oJn 4 14) ?_
 refine aS2 ?_
 exact rT rfl rfl (fun w' h'=>⟨rfl,h'.below⟩)
theorem c81 (w : World) (ok : Bool) (e : Int) : Calls Tryz.prog 81 #[.bool ok,.int .i64 e] w fun en w'=>en = .returned (.int .i64 (cond ok 0 e)) ∧ Below w.heap.size w w':=by
 refine enter (args:=[_,_]) Tryz.func81 Tryz.ntmps81 rfl rfl (HS.refl w []) ?_
 refine aS9 ?_
 refine Qd rfl (fun h1=>?_) fun h1=>?_
 ·skip
  refine aS4 ?_
  exact rT rfl rfl (fun w' h'=>⟨by simp_all [Xw],h'.below⟩)
 skip
 refine aS6 ?_
 exact rT rfl rfl (fun w' h'=>⟨by simp_all [Xw],h'.below⟩)
theorem c75 (w : World) (a : Option Addr) (cap : Nat) (es : List Int) (hs : Sl w [] a 1 es.length (fun i=>[.int .i64 (es.getD i 0)])) (hm : es.length ≤ 1000) : Calls Tryz.prog 75 #[.slice a es.length cap] w fun en w'=>en = .returned (.int .i64 (ZG es)) ∧ Below w.heap.size w w':=by
 refine enter (args:=[_]) Tryz.func75 Tryz.ntmps75 rfl rfl (HS.refl w []) ?_
 refine Zp ?_
 refine QN (α:=Nat) [2,4,7,8,9,10,11,12,13,14] (fun k=>[(7,.int .i64 (k : Int))]) (fun _=>_) (fun k=>k ≤ es.length ∧ ZG es = ZG (es.drop k)) (fun k=>es.length - k) 0 ⟨by omega,rfl⟩ aSx (fun w h=>h) (fun k hk=>?_)
 obtain ⟨hk1,hk2⟩:=hk
 refine aS5 ?_
 refine Qd rfl (fun h1=>?_) fun h1=>?_
 ·try simp only [dT] at h1
  refine aS5 ?_
  refine o_p (Qa rfl rfl rfl Qbn _ rfl (by omega) (hs.some (by omega))) rfl ?_
  refine o_q (Qe rfl rfl QrG (hs.rd (i:=k) (j:=0) (by omega) rfl)) rfl ?_
  refine aS7 ?_
  refine Qd rfl (fun h2=>?_) fun h2=>?_
  ·try simp only [Bool.not_eq_true',decide_eq_false_iff_not] at h2
   refine aS5 ?_
   exact rT rfl rfl (fun w' h'=>⟨by simp only [Xw];rw [hk2,Qdh (by omega),if_neg (by assumption)],h'.below⟩)
  try simp only [Bool.not_eq_false',decide_eq_true_eq] at h2
  refine aS4 ?_
  try refine oWr ?_
  refine aS2 ?_
  exact QD (k+1) (by omega) ⟨by omega,by rw [hk2,Qdh (by omega),if_pos (by assumption)]⟩ aSx (fun w h=>h)
 try simp only [dN] at h1
 refine Qu rfl ?_
 refine aS4 ?_
 exact rT rfl rfl (fun w' h'=>⟨by simp only [Xw];rw [hk2,Qh6 (by omega)],h'.below⟩)
theorem f75 {w0 w : World} {M : List Nat} {As As' : List HA} {b cap n : Nat} {t : TypeId} {tot : Nat} {cs : List Value} (h : HS w0 M As w) (hp : QG As (.blk b t tot cs) As') (hc : cs.all Qjv = true) (hn : cs.length = n) (hl : n ≤ 1000) :
    Calls Tryz.prog 75 #[.slice (some ⟨b,0,none⟩) n cap] w fun en w'=>en = .returned (.int .i64 (ZH cs)) ∧ Below w.heap.size w w':=by
  subst hn;have:=c75 w (some ⟨b,0,none⟩) cap (cs.map Go.RowKit.intOf) (by simpa using h.sl_ints hp hc) (by simpa using hl);rw [Qfu hc] at this
  simpa using this
theorem c74 (w : World) (n : Int) : Calls Tryz.prog 74 #[.int .i64 n] w fun en w'=>en = .returned (.int .i64 (Q5 n)) ∧ Below w.heap.size w w':=by
 refine enter (args:=[_]) Tryz.func74 Tryz.ntmps74 rfl rfl (HS.refl w []) ?_
 refine aS7 ?_
 refine o_q (Qi rfl Qdm rfl (fun w1 h1=>c93 w1 _ _ _)) rfl ?_
 refine o_q (Qi rfl Zt rfl (fun w1 h1=>c81 w1 _ _)) rfl ?_
 refine aS2 ?_
 exact rT rfl rfl (fun w' h'=>⟨by simp only [Xw,Q5,cond_eq_ite,Bool.and_eq_true,decide_eq_true_eq],h'.below⟩)
theorem Qay {a b : Int} : ZH [.int .i64 a,.int .i64 b] = if a = 0 then b else a:=by
  simp only [ZH]
  grind
theorem c78 (w : World) (co mo rm : Int) : Calls Tryz.prog 78 #[.int .i64 co,.int .i64 mo,.int .i64 rm] w fun en w'=>en = .returned (.int .i64 (if Q5 co = 0 then Yl mo rm else Q5 co)) ∧ Below w.heap.size w w':=by
 refine enter (args:=[_,_,_]) Tryz.func78 Tryz.ntmps78 rfl rfl (HS.refl w []) ?_
 refine aS7 ?_
 refine o_q (Qi rfl Qdm rfl (fun w1 h1=>c93 w1 _ _ _)) rfl ?_
 refine aS ?_
 refine XD 6 10 16 _ _ rfl
  (by
   intro hg1
   have hs2:=hg1;try simp only [Bool.and_eq_true,decide_eq_true_eq] at hs2
   refine oOn 10 hg1 ?_
   refine aS ?_
   refine oOn 10 hg1 ?_
   refine aS ?_
   refine oOn 10 hg1 ?_
   refine o_p (YA rfl rfl rfl (by omega) (by omega) (by omega)) rfl ?_
   refine oOn 10 hg1 ?_
   refine aS ?_
   refine oOn 10 hg1 ?_
   refine o_q (Qi rfl Qdm rfl (fun w1 h1=>c93 w1 _ _ _)) rfl ?_
   refine o_p (Qw rfl rfl hg1 rfl) rfl ?_
   refine aS ?_
   exact oJn 6 16)
  (by
   intro hg3
   have hs4:=hg3;try simp only [Bool.and_eq_false_iff,decide_eq_false_iff_not] at hs4
   refine oOf 10 hg3 ?_
   refine oOf 10 hg3 ?_
   refine oOf 10 hg3 ?_
   refine oOf 10 hg3 ?_
   refine oOf 10 hg3 ?_
   refine o_p (Qs rfl rfl hg3 rfl) rfl ?_
   refine aS ?_
   exact oJn 6 16) ?_
 refine aS5 ?_
 refine o_q (Qi rfl Qpi rfl (fun w1 h1=>c74 w1 _)) rfl ?_
 refine aS ?_
 refine o_q (Qi rfl Zt rfl (fun w1 h1=>c81 w1 _ _)) rfl ?_
 refine o_h (Qr (cs:=[_,_]) rfl rfl Qbn QdV rfl rfl rfl) rfl (fun b5 _=>?_)
 refine o_q (Qi rfl Qez rfl (fun w1 h1=>f75 h1 aPk (by rfl) (by rfl) (by decide))) rfl ?_
 refine aS2 ?_
 exact rT rfl rfl (fun w' h'=>⟨by simp only [Xw];rw [Qay];simp only [Yl,cond_eq_ite,Bool.and_eq_true,decide_eq_true_eq],h'.below⟩)
theorem c30 (w : World) (n : Int) : Calls Tryz.prog 30 #[.int .i64 n] w fun en w'=>en = .returned (.int .i64 (Q5 n)) ∧ Below w.heap.size w w':=by
 refine enter (args:=[_]) Tryz.func30 Tryz.ntmps30 rfl rfl (HS.refl w []) ?_
 refine aS8 ?_
 refine o_q (Qi rfl Qb0 rfl (fun w1 h1=>c46 w1 _ _ _)) rfl ?_
 refine aS2 ?_
 refine Qd rfl (fun h1=>?_) fun h1=>?_
 ·try simp only [Bool.not_eq_true',Bool.and_eq_false_iff,decide_eq_false_iff_not] at h1
  have hz : Q5 n = 15:=by have hq:=h1;unfold Q5;rw [if_neg (by first | omega | (simp at hq;omega))]
  refine aS4 ?_
  exact rT rfl rfl (fun w' h'=>⟨by rw [hz];rfl,h'.below⟩)
 try simp only [Bool.not_eq_false',Bool.and_eq_true,decide_eq_true_eq] at h1
 have hz : Q5 n = 0:=by have hq:=h1;unfold Q5;rw [if_pos (by first | omega | (simp at hq;omega))]
 refine aS5 ?_
 exact rT rfl rfl (fun w' h'=>⟨by rw [hz];rfl,h'.below⟩)
theorem c31 (w : World) (mo rm : Int) : Calls Tryz.prog 31 #[.int .i64 mo,.int .i64 rm] w fun en w'=>en = .returned (.int .i64 (Yl mo rm)) ∧ Below w.heap.size w w':=by
 refine enter (args:=[_,_]) Tryz.func31 Tryz.ntmps31 rfl rfl (HS.refl w []) ?_
 refine aS8 ?_
 refine o_q (Qi rfl Qb0 rfl (fun w1 h1=>c46 w1 _ _ _)) rfl ?_
 refine aS2 ?_
 refine QaT 7 8 15 _ _ rfl
  (by
   intro hg1
   have hs2:=hg1;try simp only [Bool.not_eq_false',Bool.and_eq_true,decide_eq_true_eq] at hs2
   refine oOn 8 hg1 ?_
   refine aS ?_
   refine oOn 8 hg1 ?_
   refine aS ?_
   refine oOn 8 hg1 ?_
   refine o_p (YA rfl rfl rfl (by omega) (by omega) (by omega)) rfl ?_
   refine oOn 8 hg1 ?_
   refine aS ?_
   refine oOn 8 hg1 ?_
   refine o_q (Qi rfl Qb0 rfl (fun w1 h1=>c46 w1 _ _ _)) rfl ?_
   refine oOn 8 hg1 ?_
   refine aS ?_
   refine o_p (Qs rfl rfl hg1 rfl) rfl ?_
   refine aS ?_
   exact oJn 7 15)
  (by
   intro hg3
   have hs4:=hg3;try simp only [Bool.not_eq_true',Bool.and_eq_false_iff,decide_eq_false_iff_not] at hs4
   refine oOf 8 hg3 ?_
   refine oOf 8 hg3 ?_
   refine oOf 8 hg3 ?_
   refine oOf 8 hg3 ?_
   refine oOf 8 hg3 ?_
   refine oOf 8 hg3 ?_
   refine o_p (Qw rfl rfl hg3 rfl) rfl ?_
   refine aS ?_
   exact oJn 7 15) ?_
 refine aS ?_
 refine Qd rfl (fun h5=>?_) fun h5=>?_
 ·try simp only [Bool.or_eq_true,Bool.not_eq_true',Bool.and_eq_false_iff,decide_eq_false_iff_not] at h5
  have hz : Yl mo rm = 2:=by have hq:=h5;unfold Yl;rw [if_neg (by first | omega | (simp at hq;omega))]
  refine aS4 ?_
  exact rT rfl rfl (fun w' h'=>⟨by rw [hz];rfl,h'.below⟩)
 try simp only [Bool.or_eq_false_iff,Bool.not_eq_false',Bool.and_eq_true,decide_eq_true_eq] at h5
 have hz : Yl mo rm = 0:=by have hq:=h5;unfold Yl;rw [if_pos (by first | omega | (simp at hq;omega))]
 refine aS5 ?_
 exact rT rfl rfl (fun w' h'=>⟨by rw [hz];rfl,h'.below⟩)
end Go.Proofs
namespace Go.Proofs
open Go Go.RowKit Gx
theorem QiX {α : Type} [Inhabited α] {vals : α → List Value} {sz n : Nat} {W : World} {a : Option Addr} {cell : Nat → List Value} {Q : α → Prop} (hs : Sl W [] a sz n cell) (hr : ∀ i,i < n → ∃ x,cell i = vals x ∧ Q x) : ∃ l : List α,n = l.length ∧ Rw vals sz W [] a l ∧ (∀ x ∈ l,Q x) ∧ ∀ i,i < n → cell i = vals (nth l i):=by
 have hr2 : ∀ i,∃ x,i < n → cell i = vals x ∧ Q x:=fun i=>by
  by_cases hi : i < n
  ·obtain ⟨x,h⟩:=hr i hi;exact ⟨x,fun _=>h⟩
  ·exact ⟨default,fun h=>absurd h hi⟩
 obtain ⟨f,hf⟩:=Classical.axiomOfChoice hr2
 have hg : ∀ i,i < n → nth ((List.range n).map f) i = f i:=fun i hi=>by
  simp only [nth,List.getD_eq_getElem?_getD,List.getElem?_map,List.getElem?_range hi,Option.map_some,Option.getD_some]
 refine ⟨(List.range n).map f,by simp,⟨fun hn=>?_⟩,fun x hx=>?_,fun i hi=>?_⟩
 ·rw [List.length_map,List.length_range] at hn;obtain ⟨b,o,e,h2⟩:=hs.at_ hn;refine ⟨b,o,e,fun i hi=>?_⟩;rw [List.length_map,List.length_range] at hi;have h3:=h2 i hi;rw [(hf i hi).1] at h3;rw [hg i hi];exact h3
 ·obtain ⟨i,hi,rfl⟩:=List.mem_map.1 hx;exact (hf i (List.mem_range.1 hi)).2
 ·rw [hg i hi];exact (hf i hi).1
theorem Qf9 : Tryz.prog.cellsOf 3 = 1:=by kernel_rfl
theorem Qoi : Tryz.prog.cellsOf 4 = 1:=by kernel_rfl
theorem QoF : Tryz.prog.cellsOf 9 = 1:=by kernel_rfl
theorem QcI : Tryz.prog.cellsOf 26 = 2:=by kernel_rfl
theorem Ql2 : Tryz.prog.cellsOf 30 = 1:=by kernel_rfl
theorem Qms : Tryz.prog.cellsOf 77 = 1:=by kernel_rfl
theorem QkI : Tryz.prog.cellsOf 102 = 3:=by kernel_rfl
section
variable {W : World} {d : Nat}
theorem ln2 {cs : List Value} (h : cs.length = 2) : ∃ x0 x1,cs = [x0,x1]:=by
 match cs,h with
 | [x0,x1],_=>exact ⟨x0,x1,rfl⟩
theorem ln3 {cs : List Value} (h : cs.length = 3) : ∃ x0 x1 x2,cs = [x0,x1,x2]:=by
 match cs,h with
 | [x0,x1,x2],_=>exact ⟨x0,x1,x2,rfl⟩
theorem Qqf {x : Value} (h : okT Tryz.prog W d 3 [x]) : ∃ n,x = .int .i64 n:=by
 obtain ⟨n,e,_⟩:=QbD h Tryz.underlying3;cases e;exact ⟨n,rfl⟩
theorem QnU {x : Value} (h : okT Tryz.prog W d 4 [x]) : ∃ n,x = .bool n:=by
 obtain ⟨n,e⟩:=Qla h Tryz.underlying4;cases e;exact ⟨n,rfl⟩
theorem Qme {x : Value} (h : okT Tryz.prog W d 9 [x]) : ∃ l : List UInt8,x = .string (bs l) ∧ l.length ≤ maxLen:=by
 obtain ⟨l,e,g⟩:=Qob h Tryz.underlying9;cases e;exact ⟨l,rfl,g⟩
theorem Qlr {cs : List Value} (h : okT Tryz.prog W d 26 cs) : ∃ x : TEnt,cs = x.vals ∧ True:=by
 obtain ⟨d2,l,o⟩:=QfD h Tryz.underlying26;rw [QcI] at l;obtain ⟨x0,x1,rfl⟩:=ln2 l;simp only [List.mem_cons,List.mem_nil_iff,or_false,forall_eq_or_imp,forall_eq] at o;rw [QoF] at o;obtain ⟨s,rfl,hs⟩:=Qme (x:=x0) o.1;obtain ⟨t,rfl,ht⟩:=Qme (x:=x1) o.2;exact ⟨⟨s,t⟩,rfl,trivial⟩
theorem QoK {x : Value} (h : okT Tryz.prog W d 77 [x]) : ∃ a c l,x = .slice a (List.length (α:=TEnt) l) c ∧ Rw TEnt.vals 2 W [] a l:=by
 obtain ⟨d2,a,n,cap,cell,e,h1,h2,sl,rows⟩:=Qf8 h Tryz.underlying77 (by rw [QcI];decide);rw [QcI] at sl;cases e;obtain ⟨l,rfl,hl,_⟩:=QiX (vals:=TEnt.vals) (Q:=fun _=>True) sl fun i hi=>Qlr (rows i hi);exact ⟨a,cap,l,rfl,hl⟩
theorem QnS {x : Value} (h : okT Tryz.prog W d 30 [x]) : ∃ a c l,x = .slice a (List.length (α:=Int) l) c ∧ Rw inV 1 W [] a l:=by
 obtain ⟨d2,a,n,cap,cell,e,h1,h2,sl,rows⟩:=Qf8 h Tryz.underlying30 (by rw [Qf9];decide);rw [Qf9] at sl;cases e
 obtain ⟨l,rfl,hl,_⟩:=QiX (vals:=inV) (Q:=fun _=>True) sl fun i hi=>by
  obtain ⟨m,e,g⟩:=QbD (rows i hi) Tryz.underlying3;exact ⟨m,e,trivial⟩
 exact ⟨a,cap,l,rfl,hl⟩
theorem Qrw {cs : List Value} (h : okT Tryz.prog W d 102 cs) : ∃ k : LNd,cs = k.vals ∧ Rw TEnt.vals 2 W [] k.ea k.es ∧ Rw inV 1 W [] k.ca k.cs:=by
 obtain ⟨d2,l,o⟩:=QfD h Tryz.underlying102;rw [QkI] at l;obtain ⟨x0,x1,x2,rfl⟩:=ln3 l;simp only [List.mem_cons,List.mem_nil_iff,or_false,forall_eq_or_imp,forall_eq] at o;rw [Qoi,Qms,Ql2] at o;obtain ⟨n0,rfl⟩:=QnU (x:=x0) o.1;obtain ⟨ea,ec,es,rfl,he⟩:=QoK (x:=x1) o.2.1;obtain ⟨ca,cc,ks,rfl,hk⟩:=QnS (x:=x2) o.2.2;exact ⟨⟨n0,ea,ec,es,ca,cc,ks⟩,rfl,he,hk⟩
theorem Qmp {n : Nat} {a : Option Addr} {cell : Nat → List Value} (sl : Sl W [] a 3 n cell) (rows : ∀ i,i < n → okT Tryz.prog W d 102 (cell i)) : ∃ l : List LNd,n = l.length ∧ Nt W [] a l:=by
 obtain ⟨l,rfl,hl,hk,_⟩:=QiX (vals:=LNd.vals) (Q:=fun k=>Rw TEnt.vals 2 W [] k.ea k.es ∧ Rw inV 1 W [] k.ca k.cs) sl fun i hi=>Qrw (rows i hi);exact ⟨l,rfl,hl,hk⟩
end
end Go.Proofs
namespace Gx
open Go Go.RowKit
theorem HS.own_at {w0 w : World} {M : List Nat} {As As' : List HA} {g n n' cap t sz : Nat} {xs : List Value} (h : HS w0 M As w) (hp : QG As (.own (.slice (some ⟨g,0,none⟩) n' cap) t sz n xs) As') : HS w0 M (.blk g t (cap * sz) xs :: As') w:=by
 have h1:=h.pick hp;refine h1.turn (fun b hb=>by simpa [HA.fp_own,HA.fp_blk,Value.ownBlock] using hb) fun ho=>?_;obtain ⟨_,⟨e,_⟩ | ⟨g',cap',e,_,_,hb⟩⟩:=ho
 ·injection e with e1
  cases e1
 ·injection e with e1 e2 e3
  injection e1 with e1
  injection e1 with e1
  subst e1 e3;exact hb
end Gx
namespace Gx
open Go Go.RowKit
section
variable {S : Type} (st : S → Vis → S) (er : S → Vis → Int × Int)
def XF : S → List Vis → (Int × Int) × S
 | s,[]=>((0,0),s)
 | s,v :: vs=>if (er s v).2 = 0 then XF (st s v) vs else (er s v,st s v)
theorem Qbm : ∀ (A B : List Vis) (s : S),XF st er s (A ++ B) = if (XF st er s A).1.2 = 0 then XF st er (XF st er s A).2 B else XF st er s A
 | [],B,s=>rfl
 | v :: A,B,s=>by
  rw [List.cons_append,XF,XF]
  by_cases h : (er s v).2 = 0
  ·rw [if_pos h,if_pos h];exact Qbm A B _
  ·rw [if_neg h,if_neg h,if_neg h]
theorem Qm2 {A B : List Vis} {s : S} (h : ¬ (XF st er s A).1.2 = 0) : XF st er s (A ++ B) = XF st er s A:=by rw [Qbm,if_neg h]
theorem QiI {A B : List Vis} {s : S} (h : (XF st er s A).1.2 = 0) : XF st er s (A ++ B) = XF st er (XF st er s A).2 B:=by rw [Qbm,if_pos h]
theorem QlK : ∀ {A : List Vis} {s : S},(XF st er s A).1.2 = 0 → (XF st er s A).1 = (0,0)
 | [],s,_=>rfl
 | v :: A,s,h=>by
  rw [XF] at h ⊢;split at h
  ·rename_i h1;rw [if_pos h1];exact QlK h
  ·rename_i h1;exact absurd h h1
end
def XO (ns : List Nd) (v : Vis) (k : Nat) : Vis:=⟨((nth ns v.i).cs.getD k 0).toNat,v.d + 1,loK (nth ns v.i).es k v.lo,hiK (nth ns v.i).es k v.hi⟩
def Qal (ns : List Nd) (f : Nat) (v : Vis) (k : Nat) : List Vis:=v :: (List.range k).flatMap fun k=>vis ns f (XO ns v k)
theorem QhZ (ns : List Nd) (f : Nat) (v : Vis) : Qal ns f v 0 = [v]:=rfl
theorem X0 (ns : List Nd) (f : Nat) (v : Vis) (k : Nat) : Qal ns f v (k + 1) = Qal ns f v k ++ vis ns f (XO ns v k):=by
 unfold Qal;rw [List.range_succ,List.flatMap_append,List.flatMap_singleton];rfl
theorem Y8 (ns : List Nd) (f : Nat) (v : Vis) : vis ns (f + 1) v = Qal ns f v (nth ns v.i).cs.length:=rfl
theorem Qan (ns : List Nd) (f : Nat) (v : Vis) {k m : Nat} (h : k ≤ m) : ∃ B,Qal ns f v m = Qal ns f v k ++ B:=by
 induction m with
 | zero=>
  obtain rfl : k = 0:=by omega
  exact ⟨[],by rw [List.append_nil]⟩
 | succ m ih=>
  rcases Nat.lt_or_ge m k with h1 | h1
  ·obtain rfl : k = m + 1:=by omega
   exact ⟨[],by rw [List.append_nil]⟩
  ·obtain ⟨B,e⟩:=ih h1;exact ⟨B ++ vis ns f (XO ns v m),by rw [X0,e,List.append_assoc]⟩
theorem Z4 {ns : List Nd} {i : Nat} {P : List Nat} (h : Way ns (i :: P)) (hi : i < ns.length) {k : Nat} (hk : k < (nth ns i).cs.length) (hc : 0 ≤ (nth ns i).cs.getD k 0) : Way ns (((nth ns i).cs.getD k 0).toNat :: i :: P):=by
 refine ⟨⟨?_,hi⟩,h⟩;rw [Int.toNat_of_nonneg hc,List.getD_eq_getElem?_getD,List.getElem?_eq_getElem hk];exact List.getElem_mem hk
theorem Qa7 {co : Int} {ns : List Nd} (ht : TOk co ns) {i k : Nat} (hi : i < ns.length) (hk : k < (nth ns i).cs.length) : 1 ≤ (nth ns i).cs.getD k 0 ∧ (nth ns i).cs.getD k 0 ≤ (ns.length : Int) - 1 ∧ (nth ns ((nth ns i).cs.getD k 0).toNat).us = true:=by
 have hm : (nth ns i).cs.getD k 0 ∈ (nth ns i).cs:=by
  rw [List.getD_eq_getElem?_getD,List.getElem?_eq_getElem hk];exact List.getElem_mem hk
 have h:=ht.kid i hi _ hm;exact ⟨h.1.1,h.1.2,h.2⟩
def Zo (co : Int) (ns : List Nd) (key : List UInt8) : Nat → Nat → List Nat × Nat × Bool
 | 0,_=>([],0,false)
 | f + 1,i=>if fnd co (nth ns i).es key = true ∨ (nth ns i).cs.length = 0 then ([i],plc co (nth ns i).es key,fnd co (nth ns i).es key)
   else (i :: (Zo co ns key f ((nth ns i).cs.getD (plc co (nth ns i).es key) 0).toNat).1,(Zo co ns key f ((nth ns i).cs.getD (plc co (nth ns i).es key) 0).toNat).2)
def Qb (co : Int) (ns : List Nd) (key : List UInt8) : List Nat × Nat × Bool:=Zo co ns key ns.length 0
structure Bd (ns : List Nd) : Prop where
 len : ns.length ≤ 1000
 es : ∀ i,i < ns.length → (nth ns i).es.length ≤ 1000
 cs : ∀ i,i < ns.length → (nth ns i).cs.length ≤ 1000
theorem Qc (L : List LNd) : (pln L).length = L.length:=by simp
theorem Qh {L : List LNd} {i : Nat} (h : i < L.length) : nth (pln L) i = (nth L i).pl:=by
 apply Q3;rw [List.getElem?_map,Q6 h];rfl
theorem QbB (L : List LNd) (i : Nat) (n : LNd) : pln (L.set i n) = (pln L).set i n.pl:=by simp [List.map_set]
theorem QfQ (L M : List LNd) : pln (L ++ M) = pln L ++ pln M:=by simp
def ZW (w : World) (M : List Nat) (p : Option Addr) (o : Option (List UInt8)) : Prop:=match o with
 | none=>p = none
 | some k=>∃ b off,p = some ⟨b,off,none⟩ ∧ Rd w M b off (.string (bs k))
theorem ZW.keep {w w' : World} {M : List Nat} {As : List HA} {p : Option Addr} {o : Option (List UInt8)} (h : ZW w M p o) (hs : HS w M As w') : ZW w' (fps As) p o:=by
 cases o with
 | none=>exact h
 | some k=>
  obtain ⟨b,off,e,hr⟩:=h;exact ⟨b,off,e,hs.keep hr⟩
theorem ZW.mono {w : World} {M M' : List Nat} {p : Option Addr} {o : Option (List UInt8)} (h : ZW w M p o) (hM : ∀ b ∈ M',b ∈ M) : ZW w M' p o:=by
 cases o with
 | none=>exact h
 | some k=>
  obtain ⟨b,off,e,hr⟩:=h;exact ⟨b,off,e,hr.mono hM⟩
theorem ZW.of_some {w : World} {M : List Nat} {p : Option Addr} {o : Option (List UInt8)} (h : ZW w M p o) (hp : p.isSome = true) : ∃ k b off,o = some k ∧ p = some ⟨b,off,none⟩ ∧ Rd w M b off (.string (bs k)):=by
 cases o with
 | none=>
  have : p = none:=h;subst this;cases hp
 | some k=>
  obtain ⟨b,off,e,hr⟩:=h;exact ⟨k,b,off,rfl,e,hr⟩
theorem ZW.of_none {w : World} {M : List Nat} {p : Option Addr} {o : Option (List UInt8)} (h : ZW w M p o) (hp : p.isSome = false) : o = none:=by
 cases o with
 | none=>rfl
 | some k=>
  obtain ⟨b,off,e,hr⟩:=h;subst e;cases hp
theorem Xo {As Cs Ds : List HA} (h : Y3 As Cs Ds) : ∀ b ∈ fps Cs,b ∈ fps As:=fun b hb=>by
 obtain ⟨A,hA,hb⟩:=List.mem_flatMap.1 hb;exact List.mem_flatMap.2 ⟨A,(List.Perm.mem_iff h).2 (List.mem_append_left _ hA),hb⟩
theorem HS.rd_blkF {w0 w : World} {M : List Nat} {As Cs Ds Es : List HA} {b i t tot : Nat} {cs : List Value} {v : Value} (h : HS w0 M As w) (hp : Y3 As Cs Ds) (hp2 : QG Ds (.blk b t tot cs) Es) (hv : cs[i]? = some v) : Rd w (fps Cs) b i v:=by
 have h1 : HS w0 M (Cs ++ Ds) w:=h.perm hp;refine ⟨(h1.ok _ (List.mem_append_right _ hp2.mem) |> Xs.lt),fun hb=>?_,Xs.cell (h1.ok _ (List.mem_append_right _ hp2.mem)) hv⟩;obtain ⟨A,hA,hb⟩:=List.mem_flatMap.1 hb;exact (List.pairwise_append.1 h1.sep).2.2 A hA _ hp2.mem b hb (List.mem_singleton.2 rfl)
section
variable (t : Tre) (i : Nat)
def nE1 : Int:=if ((nth t.ns i).es.length : Int) ≤ Yh t.mo t.rm i then if (nth t.ns i).cs.length = 0 ∨ (nth t.ns i).cs.length = (nth t.ns i).es.length + 1 then 0 else 10 else 16
def nE2 : Int:=if nE1 t i = 0 then Y0 t.co (nth t.ns i).es else nE1 t i
def nE3 (seen : List Int) : Int × List Int:=if nE2 t i = 0 then XT t.ns (nth t.ns i).cs seen else (nE2 t i,seen)
def nE4 (seen : List Int) : Int:=if (nE3 t i seen).1 = 0 then ZE t.co (nth t.ns i).es else (nE3 t i seen).1
theorem Qfd {seen : List Int} (h : (nth t.ns i).us = true) : XV t i seen = (nE4 t i seen,(nE3 t i seen).2):=by
 unfold XV nE4 nE3 nE2 nE1;simp only [];rw [if_pos h]
 by_cases h1 : ((nth t.ns i).es.length : Int) ≤ Yh t.mo t.rm i
 ·simp only [if_pos h1]
  by_cases h2 : (nth t.ns i).cs.length = 0 ∨ (nth t.ns i).cs.length = (nth t.ns i).es.length + 1
  ·simp only [if_pos h2,if_true]
   by_cases h3 : Y0 t.co (nth t.ns i).es = 0
   ·simp only [if_pos h3]
    by_cases h4 : (XT t.ns (nth t.ns i).cs seen).1 = 0
    ·simp only [if_pos h4]
    ·simp only [if_neg h4]
   ·simp only [if_neg h3]
  ·simp only [if_neg h2,show ¬ ((10 : Int) = 0) by decide,if_false]
 ·simp only [if_neg h1,show ¬ ((16 : Int) = 0) by decide,if_false]
theorem QrC (h : nE2 t i = 0) : Y0 t.co (nth t.ns i).es = 0:=by
 unfold nE2 at h;split at h
 ·exact h
 ·rename_i h1;exact absurd h h1
theorem Qo8 {seen : List Int} (h : (nE3 t i seen).1 = 0) : nE2 t i = 0:=by
 unfold nE3 at h;split at h
 ·assumption
 ·exact h
end
def Qb1 (ns : List Nd) (c : Int) : Prop:=(1 ≤ c ∧ c ≤ (ns.length : Int) - 1) ∧ (nth ns c.toNat).us = true
instance (ns : List Nd) (c : Int) : Decidable (Qb1 ns c):=inferInstanceAs (Decidable (_ ∧ _))
def Qba (ns : List Nd) (c : Int) (seen : List Int) : Int:=if Qb1 ns c then if c ∈ seen then 23 else 0 else 6
def QcK (ns : List Nd) (c : Int) (seen : List Int) : List Int:=if Qb1 ns c then c :: seen else seen
theorem QaG (ns : List Nd) (c : Int) (cs seen : List Int) : XT ns (c :: cs) seen = if Qba ns c seen = 0 then XT ns cs (QcK ns c seen) else (Qba ns c seen,QcK ns c seen):=by
 unfold Qba QcK;rw [XT]
 by_cases h : Qb1 ns c
 ·rw [if_pos h,if_pos h,if_pos (show (1 ≤ c ∧ c ≤ (ns.length : Int) - 1) ∧ (nth ns c.toNat).us = true from h)]
  by_cases h2 : c ∈ seen
  ·rw [if_pos h2,if_pos h2];rfl
  ·rw [if_neg h2,if_neg h2];rfl
 ·rw [if_neg h,if_neg h,if_neg (show ¬ ((1 ≤ c ∧ c ≤ (ns.length : Int) - 1) ∧ (nth ns c.toNat).us = true) from h)];rfl
theorem QbP {cs : List Int} {k : Nat} (h : k < cs.length) : cs.drop k = cs.getD k 0 :: cs.drop (k + 1):=by
 rw [List.drop_eq_getElem_cons h,List.getD_eq_getElem?_getD,List.getElem?_eq_getElem h];rfl
theorem Qa3 {co : Int} {es : List TEnt} {k : Nat} (h : k < es.length) : (es.map (X7 co)).getD k 0 = X7 co (nth es k):=by
 rw [Y4 (d:=default) h];rfl
theorem Qbs {co : Int} {es : List TEnt} {k : Nat} (h : k < es.length) : ((List.range es.length).map (Qaa co es)).getD k 0 = Qaa co es k:=by
 rw [Y4 (d:=0) (by simpa using h),List.getD_eq_getElem?_getD,List.getElem?_range h];rfl
theorem Yo {co : Int} {x : TEnt} (h : X7 co x = 0) : QW co x.key = true:=by
 unfold X7 at h;split at h
 ·rename_i h1;unfold XM at h1;split at h1
  ·assumption
  ·cases h1
 ·cases h
theorem Zz {co : Int} {k : List UInt8} (h : QW co k = true) : 1 ≤ k.length ∧ k.length ≤ 40:=by
 unfold QW at h;split at h
 ·have:=of_decide_eq_true h;omega
 ·split at h
  ·have:=of_decide_eq_true h;omega
  ·split at h
   ·rw [Bool.and_eq_true] at h;have:=of_decide_eq_true h.1;omega
   ·rw [Bool.and_eq_true] at h;have:=of_decide_eq_true h.1;omega
theorem HS.thenF {w w1 w2 : World} {M : List Nat} {As Bs : List HA} (h : HS w M As w1) (hc : HS w1 (fps As) Bs w2) : HS w M Bs w2:=by
 have h1 : HS w M (As ++ []) w1:=by rw [List.append_nil];exact h
 have h2:=h1.callM (Mc:=fps As) (fun b hb=>by obtain ⟨A,hA,hb⟩:=List.mem_flatMap.1 hb;exact ⟨A,hA,hb⟩) hc;rw [List.append_nil] at h2;exact h2
def Y2 (cs : List Int) (n : Int) : List Bool:=cs.map fun c=>decide (n = c)
theorem Yr (cs : List Int) (n : Int) : (Y2 cs n).length = cs.length:=by simp [Y2]
theorem Qa9 {cs : List Int} {n : Int} {k : Nat} (h : k < cs.length) : (Y2 cs n).getD k false = decide (n = cs.getD k 0):=by
 unfold Y2;rw [Y4 (d:=0) h]
theorem QlN (cs : List Int) (n : Int) : (Y2 cs n).any id = decide (n ∈ cs):=by
 unfold Y2;rw [List.any_map]
 by_cases h : n ∈ cs
 ·rw [decide_eq_true h,List.any_eq_true];exact ⟨n,h,by simp⟩
 ·rw [decide_eq_false h,List.any_eq_false];intro x hx;simp only [Function.comp,id,decide_eq_true_eq];intro e;exact h (e ▸ hx)
def Zh (t : Tre) (v : Vis) : Bool:=decide (0 < v.i) && (decide (((nth t.ns v.i).es.length : Int) < t.mo / 2) || ((decide ((nth t.ns 0).es.length = 0) && decide ((v.i : Int) ∈ (nth t.ns 0).cs)) && decide (((nth t.ns v.i).es.length : Int) ≤ t.rm)))
def Zs (t : Tre) (v : Vis) (x : TEnt) : Bool:=(v.lo.any fun b=>decide (0 ≤ QO t.co b x.key)) || (v.hi.any fun b=>decide (0 ≤ QO t.co x.key b))
def Za (t : Tre) (v : Vis) : Bool:=(nth t.ns v.i).es.any (Zs t v)
def erV (t : Tre) (s : Int) (v : Vis) : Int × Int:=((v.i : Int),if Zh t v = true then 14 else if Za t v = true then 9 else if (nth t.ns v.i).cs.length = 0 then (if (if s = 0 then v.d else s) = v.d then 0 else 22) else 0)
def stV (t : Tre) (s : Int) (v : Vis) : Int:=if Zh t v = true then s else if Za t v = true then s else if (nth t.ns v.i).cs.length = 0 then (if s = 0 then v.d else s) else s
theorem ZZ (t : Tre) (deep : Int) (v : Vis) : QaS t deep v = if Zh t v = true then 14 else if Za t v = true then 9 else if (nth t.ns v.i).cs.length = 0 ∧ v.d ≠ deep + 1 then 22 else 0:=by
 unfold QaS;simp only []
 have h : Zh t v = true ↔ (0 < v.i ∧ (((nth t.ns v.i).es.length : Int) < t.mo / 2 ∨ ((nth t.ns 0).es.length = 0 ∧ (v.i : Int) ∈ (nth t.ns 0).cs) ∧ ((nth t.ns v.i).es.length : Int) ≤ t.rm)):=by
  unfold Zh;simp only [Bool.and_eq_true,Bool.or_eq_true,decide_eq_true_eq]
 by_cases h1 : Zh t v = true
 ·rw [if_pos (h.1 h1),if_pos h1]
 ·rw [if_neg (fun h2=>h1 (h.2 h2)),if_neg h1];rfl
theorem QeZ (t : Tre) : ∀ (vs : List Vis) (s : Int),s ≠ 0 → (XF (stV t) (erV t) s vs).1 = X4 t (s - 1) vs
 | [],s,_=>rfl
 | v :: vs,s,hs=>by
  have he : (erV t s v).2 = QaS t (s - 1) v:=by
   rw [ZZ];unfold erV;simp only [if_neg hs]
   by_cases h1 : Zh t v = true
   ·rw [if_pos h1,if_pos h1]
   ·rw [if_neg h1,if_neg h1]
    by_cases h2 : Za t v = true
    ·rw [if_pos h2,if_pos h2]
    ·rw [if_neg h2,if_neg h2]
     by_cases h3 : (nth t.ns v.i).cs.length = 0
     ·rw [if_pos h3]
      by_cases h4 : s = v.d
      ·rw [if_pos h4,if_neg (fun h5=>h5.2 (by omega))]
      ·rw [if_neg h4,if_pos ⟨h3,by omega⟩]
     ·rw [if_neg h3,if_neg (fun h5=>h3 h5.1)]
  have hst : stV t s v = s:=by
   unfold stV;simp only [if_neg hs,ite_self]
  rw [XF,X4,he,hst];split
  ·exact QeZ t vs s hs
  ·rw [show erV t s v = ((v.i : Int),(erV t s v).2) from rfl,he]
theorem Qfj {t : Tre} (hT : TOk t.co t.ns) (h0 : 0 < t.ns.length) (deep : Int) : ∀ (f : Nat) (v : Vis) (P : List Nat) (rest : List Vis),Gx.Way t.ns (v.i :: P) → P.length + f = t.ns.length → 1 ≤ v.d → deep + 1 = v.d + X3 t.ns f v.i → (XF (stV t) (erV t) 0 (vis t.ns f v ++ rest)).1 = X4 t deep (vis t.ns f v ++ rest)
 | 0,v,P,rest,hw,hf,_,_=>by
  have:=X9 hT h0 hw;simp only [List.length_cons] at this;omega
 | f + 1,v,P,rest,hw,hf,hd,he=>by
  have hi:=Z9 hT h0 hw v.i (List.mem_cons_self ..);rw [X3] at he;rw [vis,List.cons_append,XF,X4,ZZ]
  by_cases h1 : Zh t v = true
  ·have e1 : (erV t 0 v).2 = 14:=by unfold erV;simp only [if_pos h1]
   rw [if_pos h1,e1,if_neg (by decide),if_neg (by decide),show erV t 0 v = ((v.i : Int),(erV t 0 v).2) from rfl,e1]
  ·rw [if_neg h1]
   by_cases h2 : Za t v = true
   ·have e1 : (erV t 0 v).2 = 9:=by unfold erV;simp only [if_neg h1,if_pos h2]
    rw [if_pos h2,e1,if_neg (by decide),if_neg (by decide),show erV t 0 v = ((v.i : Int),(erV t 0 v).2) from rfl,e1]
   ·rw [if_neg h2]
    by_cases h3 : (nth t.ns v.i).cs.length = 0
    ·rw [if_pos h3] at he;have e1 : (erV t 0 v).2 = 0:=by unfold erV;simp only [if_neg h1,if_neg h2,if_pos h3,if_true]
     have e2 : stV t 0 v = v.d:=by unfold stV;rw [if_neg h1,if_neg h2,if_pos h3,if_pos rfl]
     have e3 : (if (nth t.ns v.i).cs.length = 0 ∧ v.d ≠ deep + 1 then (22 : Int) else 0) = 0:=if_neg (fun h5=>h5.2 (by omega));rw [e1,if_pos rfl,e2,e3,if_pos rfl,h3,List.range_zero,List.flatMap_nil,List.nil_append,QeZ t rest v.d (by omega),show v.d - 1 = deep by omega]
    ·rw [if_neg h3] at he;have e1 : (erV t 0 v).2 = 0:=by unfold erV;simp only [if_neg h1,if_neg h2,if_neg h3]
     have e2 : stV t 0 v = 0:=by unfold stV;rw [if_neg h1,if_neg h2,if_neg h3]
     have hk:=Qa7 hT hi (k:=0) (by omega);have e3 : (if (nth t.ns v.i).cs.length = 0 ∧ v.d ≠ deep + 1 then (22 : Int) else 0) = 0:=if_neg (fun h5=>h3 h5.1);rw [e1,if_pos rfl,e2,e3,if_pos rfl];obtain ⟨m,hm⟩ : ∃ m,(nth t.ns v.i).cs.length = m + 1:=⟨(nth t.ns v.i).cs.length - 1,by omega⟩;rw [hm,List.range_succ_eq_map,List.flatMap_cons,List.append_assoc];refine Qfj hT h0 deep f _ (v.i :: P) _ (Z4 hw hi (by omega) (by omega)) (by simp only [List.length_cons];omega) (by show 1 ≤ v.d + 1;omega) ?_;show deep + 1 = v.d + 1 + X3 t.ns f ((nth t.ns v.i).cs.getD 0 0).toNat;omega
theorem run_shape {t : Tre} (hT : TOk t.co t.ns) (h0 : 0 < t.ns.length) : (XF (stV t) (erV t) 0 (Yx t.ns)).1 = X4 t (X3 t.ns t.ns.length 0) (Yx t.ns):=by
 have h:=Qfj hT h0 (X3 t.ns t.ns.length 0) t.ns.length YV [] [] rfl (by simp) (by decide) (by show _ = 1 + _;rw [show YV.i = 0 from rfl];omega);rw [List.append_nil] at h;exact h
def Qdv (s : List Bool) (v : Vis) : List Bool:=s.set v.i true
theorem Qi3 : ∀ (vs : List Vis) (s : List Bool),(XF Qdv (fun _ _=>(0,0)) s vs).1 = (0,0) ∧ (XF Qdv (fun _ _=>(0,0)) s vs).2.length = s.length ∧ ∀ i,i < s.length → (XF Qdv (fun _ _=>(0,0)) s vs).2.getD i false = (s.getD i false || decide (i ∈ vs.map Vis.i))
 | [],s=>⟨rfl,rfl,fun i _=>by simp [XF]⟩
 | v :: vs,s=>by
  obtain ⟨h1,h2,h3⟩:=Qi3 vs (Qdv s v);rw [XF,if_pos rfl];have hl : (Qdv s v).length = s.length:=by simp [Qdv]
  refine ⟨h1,h2.trans hl,fun i hi=>?_⟩;rw [h3 i (by omega)];simp only [Qdv,List.getD_eq_getElem?_getD,List.getElem?_set,List.map_cons,List.mem_cons]
  by_cases e : v.i = i
  ·subst e;rw [if_pos rfl,if_pos hi];simp
  ·rw [if_neg e];simp [Ne.symm e]
theorem Qg7 {S : Type} {st : S → Vis → S} {er : S → Vis → Int × Int} {I : S → Prop} (hI : ∀ s v,I s → I (st s v)) : ∀ (vs : List Vis) (s : S),I s → I (XF st er s vs).2
 | [],s,h=>h
 | v :: vs,s,h=>by
  rw [XF];split
  ·exact Qg7 hI vs _ (hI _ _ h)
  ·exact hI _ _ h
def KOk (co : Int) (o : Option (List UInt8)) : Prop:=∀ k,o = some k → QW co k = true ∧ k.length ≤ 1000000
theorem QcC {co : Int} {ns : List Nd} (hT : TOk co ns) {i : Nat} (hi : i < ns.length) : ∀ x ∈ (nth ns i).es,QW co x.key = true ∧ x.key.length ≤ 1000000:=fun x hx=>by
 have h:=Yo (hT.ents i hi x hx);have:=(Zz h).2;exact ⟨h,by omega⟩
theorem Qeq {co : Int} {ns : List Nd} (hT : TOk co ns) {v : Vis} (hi : v.i < ns.length) {k : Nat} (hk : k ≤ (nth ns v.i).es.length) (h : KOk co v.lo) : KOk co (XO ns v k).lo:=by
 intro x hx;unfold XO loK at hx;simp only [] at hx;split at hx
 ·injection hx with hx
  rw [← hx];exact QcC hT hi _ (Q1 (by omega))
 ·exact h x hx
theorem QeL {co : Int} {ns : List Nd} (hT : TOk co ns) {v : Vis} (hi : v.i < ns.length) {k : Nat} (h : KOk co v.hi) : KOk co (XO ns v k).hi:=by
 intro x hx;unfold XO hiK at hx;simp only [] at hx;split at hx
 ·injection hx with hx
  rw [← hx];exact QcC hT hi _ (Q1 (by assumption))
 ·exact h x hx
def QaO (t : Tre) : Int × Int:=match Zq t.ns ((Yx t.ns).map Vis.i) t.ns.length 0 with
 | some i=>((i : Int),21)
 | none=>X4 t (X3 t.ns t.ns.length 0) (Yx t.ns)
theorem QiC {t : Tre} {deep : Int} : ∀ {vs : List Vis},(X4 t deep vs).2 = 0 → X4 t deep vs = (0,0)
 | [],_=>rfl
 | v :: vs,h=>by
  rw [X4] at h ⊢;split at h
  ·rename_i h1;rw [if_pos h1];exact QiC h
  ·rename_i h1;exact absurd h h1
theorem QjL {t : Tre} (h : (QaO t).2 = 0) : (QaO t).1 = 0:=by
 unfold QaO at h ⊢;split at h
 ·cases h
 ·rw [QiC h]
def Y6 (n : Nat) : Int:=if 0 < n then if n ≤ 120 then 0 else 8 else 10
theorem QbE {t : Tre} (h : ¬ (if Q5 t.co = 0 then Yl t.mo t.rm else Q5 t.co) = 0) : XP t = (0,if Q5 t.co = 0 then Yl t.mo t.rm else Q5 t.co):=by
 unfold XP
 by_cases h1 : Q5 t.co = 0
 ·rw [if_pos h1] at h;rw [if_pos h1,if_pos h1,if_neg h];congr 1;unfold Yl at h ⊢;split at h
  ·exact absurd rfl h
  ·rename_i h2;rw [if_neg h2]
 ·rw [if_neg h1,if_neg h1];congr 1;unfold Q5 at h1 ⊢;split at h1
  ·exact absurd rfl h1
  ·rename_i h2;rw [if_neg h2]
theorem Qf7 {t : Tre} (h : (if Q5 t.co = 0 then Yl t.mo t.rm else Q5 t.co) = 0) : Q5 t.co = 0 ∧ Yl t.mo t.rm = 0:=by
 split at h
 ·rename_i h1;exact ⟨h1,h⟩
 ·rename_i h1;exact absurd h h1
theorem YH {mo rm : Int} (h : Yl mo rm = 0) : (3 ≤ mo ∧ mo ≤ 8) ∧ (mo / 2 ≤ rm ∧ rm ≤ mo):=by
 unfold Yl at h;split at h
 ·assumption
 ·cases h
theorem QcN {t : Tre} (h : (if Q5 t.co = 0 then Yl t.mo t.rm else Q5 t.co) = 0) (h2 : ¬ Y6 t.ns.length = 0) : XP t = (0,Y6 t.ns.length):=by
 obtain ⟨h3,h4⟩:=Qf7 h;unfold XP Y6 at *;rw [if_pos h3,if_pos h4];split at h2
 ·rename_i h5;rw [if_pos h5];split at h2
  ·exact absurd rfl h2
  ·rename_i h6;rw [if_neg h6,if_pos h5,if_neg h6]
 ·rename_i h5;rw [if_neg h5,if_neg h5]
theorem QhS {n : Nat} (h : Y6 n = 0) : 0 < n ∧ n ≤ 120:=by
 unfold Y6 at h;split at h
 ·split at h
  ·exact ⟨by assumption,by assumption⟩
  ·cases h
 ·cases h
theorem QcX {t : Tre} (h : (if Q5 t.co = 0 then Yl t.mo t.rm else Q5 t.co) = 0) (h2 : Y6 t.ns.length = 0) : XP t = if (XR t t.ns.length 0 []).2 = 0 then QaO t else XR t t.ns.length 0 []:=by
 obtain ⟨h3,h4⟩:=Qf7 h;obtain ⟨h5,h6⟩:=QhS h2;unfold XP;rw [if_pos h3,if_pos h4,if_pos h5,if_pos h6];rfl
theorem Ym {t : Tre} (h : (XP t).2 = 0) : Q5 t.co = 0 ∧ Yl t.mo t.rm = 0 ∧ 0 < t.ns.length ∧ t.ns.length ≤ 120 ∧ (XR t t.ns.length 0 []).2 = 0 ∧ (QaO t).2 = 0 ∧ XP t = (0,0):=by
 by_cases h1 : (if Q5 t.co = 0 then Yl t.mo t.rm else Q5 t.co) = 0
 ·by_cases h2 : Y6 t.ns.length = 0
  ·rw [QcX h1 h2] at h ⊢;obtain ⟨h3,h4⟩:=Qf7 h1;obtain ⟨h5,h6⟩:=QhS h2;split at h
   ·rename_i h7;rw [if_pos h7];exact ⟨h3,h4,h5,h6,h7,h,Prod.ext (QjL h) h⟩
   ·rename_i h7;exact absurd h h7
  ·rw [QcN h1 h2] at h;exact absurd h h2
 ·rw [QbE h1] at h;exact absurd h h1
theorem Qk7 {l : List Bool} {k : Nat} (h : k < l.length) : (l.map Value.bool)[k]? = some (.bool (l.getD k false)):=by
 rw [List.getElem?_map,List.getElem?_eq_getElem h,List.getD_eq_getElem?_getD,List.getElem?_eq_getElem h];rfl
theorem Qd7 {t : Tre} {k : Nat} {seen : List Int} (h : k < t.ns.length) : XR t (t.ns.length - k) k seen = if (XV t k seen).1 = 0 then XR t (t.ns.length - (k + 1)) (k + 1) (XV t k seen).2 else ((k : Int),(XV t k seen).1):=by
 rw [show t.ns.length - k = t.ns.length - (k + 1) + 1 by omega,XR]
theorem Qfh {ns : List Nd} {below : List Nat} {k : Nat} (h : k < ns.length) : Zq ns below (ns.length - k) k = if (nth ns k).us = true ∧ k ∉ below then some k else Zq ns below (ns.length - (k + 1)) (k + 1):=by
 rw [show ns.length - k = ns.length - (k + 1) + 1 by omega,Zq]
theorem Qcj {t : Tre} {i : Nat} (h : Zq t.ns ((Yx t.ns).map Vis.i) t.ns.length 0 = some i) : QaO t = ((i : Int),21):=by
 unfold QaO;rw [h]
theorem Qb9 {t : Tre} (h : Zq t.ns ((Yx t.ns).map Vis.i) t.ns.length 0 = none) : QaO t = X4 t (X3 t.ns t.ns.length 0) (Yx t.ns):=by
 unfold QaO;rw [h]
theorem QbJ {l : List LNd} {k : Nat} (hk : k < l.length) (ea : Option Addr) (ec : Nat) (es : List TEnt) : Qy (l.flatMap LNd.vals) (k * 3 + 1) [.slice ea es.length ec] = (l.set k { nth l k with ea:=ea,ec:=ec,es:=es }).flatMap LNd.vals:=
 ZC nv3 l k 1 _ (nth l k) _ (Q6 hk) rfl (by simp)
theorem QdO {l : List LNd} {k : Nat} (hk : k < l.length) (ca : Option Addr) (cc : Nat) (cs : List Int) : Qy (l.flatMap LNd.vals) (k * 3 + 2) [.slice ca cs.length cc] = (l.set k { nth l k with ca:=ca,cc:=cc,cs:=cs }).flatMap LNd.vals:=
 ZC nv3 l k 2 _ (nth l k) _ (Q6 hk) rfl (by simp)
theorem QnK {l : List LNd} {k : Nat} (hk : k < l.length) (us : Bool) : Qy (l.flatMap LNd.vals) (k * 3) [.bool us] = (l.set k { nth l k with us:=us }).flatMap LNd.vals:=by
 have h:=ZC nv3 l k 0 [.bool us] (nth l k) { nth l k with us:=us } (Q6 hk) rfl (by simp);rw [Nat.add_zero] at h;exact h
theorem Qda {l : List LNd} {k : Nat} (hk : k < l.length) (ea : Option Addr) (ec : Nat) (es : List TEnt) (ca : Option Addr) (cc : Nat) (cs : List Int) : Qy (Qy (l.flatMap LNd.vals) (k * 3 + 1) [.slice ea es.length ec]) (k * 3 + 2) [.slice ca cs.length cc] = (l.set k ⟨(nth l k).us,ea,ec,es,ca,cc,cs⟩).flatMap LNd.vals:=by
 rw [QbJ hk,QdO (by rw [List.length_set];exact hk),List.set_set,Qig hk]
theorem QjN {l m : List LNd} {k : Nat} (hl : l.length = k) (hk : k < m.length) : nth (l ++ m.drop k) k = nth m k:=by
 apply Q3;rw [List.getElem?_append_right (by omega),hl,Nat.sub_self,List.getElem?_drop,Nat.add_zero];exact Q6 hk
theorem Qoh {l m : List LNd} {k : Nat} (hl : l.length = k) (hk : k < m.length) (x : LNd) : (l ++ m.drop k).set k x = l ++ [x] ++ m.drop (k + 1):=by
 rw [List.set_append_right _ _ (by omega),hl,Nat.sub_self,List.drop_eq_getElem_cons hk,List.set_cons_zero,List.append_assoc];rfl
theorem QgM {L : List LNd} {k : Nat} (hk : k < L.length) {D : List LNd} (hD : pln D = (pln L).take k) {x : LNd} (hx : x.pl = (nth L k).pl) : pln (D ++ [x]) = (pln L).take (k + 1):=by
 rw [QfQ,hD,List.take_succ_eq_append_getElem (by rw [Qc];exact hk)];congr 1;have e : (pln L)[k]'(by rw [Qc];exact hk) = nth (pln L) k:=(Q3 (List.getElem?_eq_getElem _)).symm;rw [e,Qh hk,← hx];rfl
end Gx
namespace Gx
open Go Go.RowKit
section
variable {P : Program} {o : Oper} {L : Qq} {w0 : World} {M : List Nat} {As As' : List HA}
def Qq2 (P : Program) (t te : TypeId) : Prop:=P.underlying t = some (.pointer te) ∧ ∃ j,P.info? te = some j ∧ j.size ≠ 0
theorem QnT {t te : TypeId} {n : Nat} {b : Bool} (h : P.underlying t = some (.pointer te)) (h2 : tsz P te = some (n,b)) (hn : n ≠ 0) : Qq2 P t te:=by
 refine ⟨h,?_⟩;unfold tsz at h2;cases hi : P.info? te with
 | none=>rw [hi] at h2;cases h2
 | some j=>
  refine ⟨j,rfl,fun h0=>hn ?_⟩;rw [hi] at h2;cases hd : P.underlying te with
  | none=>rw [hd] at h2;cases h2
  | some d=>
   rw [hd] at h2;injection h2 with h2
   injection h2 with h3 h4
   omega
theorem ptee {t te : TypeId} (h : P.underlying t = some (.pointer te)) : P.underlying t = some (.pointer (P.pointee t)):=by
 rw [h];simp [Program.pointee,h]
theorem QeJ {t t' te : TypeId} {x y : Operand} {p : Option Addr} (ho : o.op = .binOp .neq t x y t') (hx : ev L x = some (.pointer p)) (hy : ev L y = some (.pointer none)) (ht : Qq2 P t te) : OpP P o L (.bool p.isSome):=by
 intro ρ w hρ;have hg : (eqGuard .neq t x y (.pointer p) (.pointer none)).run P w = .ok () w:=by unfold eqGuard;simp
 have h:=run_neq_pointer_nil w t p (ptee ht.1);simp only [execOp,ho,hρ _ _ hx,hρ _ _ hy,Sem.run_bind,hg,h,Result.andThen_ok,Sem.run_pure];cases p <;> rfl
end
end Gx
namespace Gx
open Go Go.RowKit
section
variable {P : Program} {o : Oper} {L : Qq} {w0 : World} {M : List Nat} {As As' : List HA}
theorem Qfw {t e sz by' : Nat} {x hi mx : Operand} {a : Option Addr} {n cap : Nat} {k2 k3 : IntKind} {i2 i3 : Int} (j m : Nat) (ho : o.op = .slice t x none (some hi) (some mx)) (hx : ev L x = some (.slice a n cap)) (hh : ev L hi = some (.int k2 i2)) (hm : ev L mx = some (.int k3 i3)) (ht : tsl P t = some (e,sz,by')) (e2 : i2 = (j : Int)) (e3 : i3 = (m : Int)) (hjm : j ≤ m) (hmc : m ≤ cap) :
  OpP P o L (.slice (ZS a m 0 sz) j m):=by
 intro ρ w hρ;obtain ⟨hu,inf,h1,h2,_⟩:=XI ht;subst e2 e3;simp [execOp,ho,hρ _ _ hx,hρ _ _ hh,hρ _ _ hm,Instr.sliceAt,Instr.slice,Instr.sliceBounds,Instr.sliceBound,asIntOf,run_underlying hu,hjm,hmc,Go.sizeOf,typeInfo,h1,h2,ZS]
end
theorem QfS (a : Option Addr) (cap sz : Nat) (ha : ∀ x,a = some x → x.off = 0 ∧ x = ⟨x.block,0,none⟩) : ZS a cap 0 sz = a:=by
 unfold ZS;split
 ·rfl
 ·cases a with
  | none=>rfl
  | some x=>
   rw [(ha x rfl).2];simp [XN]
theorem Rw.cut {α : Type} [Inhabited α] {vals : α → List Value} {sz : Nat} {w : World} {M : List Nat} {a : Option Addr} {l : List α} (h : Rw vals sz w M a l) {cap i : Nat} (hc : l.length ≤ cap) : Rw vals sz w M (ZS a cap i sz) (l.drop i):=
 ⟨fun hn=>by
  rw [List.length_drop] at hn;obtain ⟨b,o,rfl,h2⟩:=h.at_ (by omega);refine ⟨b,o + i * sz,?_,fun j hj=>?_⟩
  ·unfold ZS;rw [if_neg (by omega)];simp [XN]
  ·rw [List.length_drop] at hj;have e : nth (l.drop i) j = nth l (i + j):=Q3 (by rw [List.getElem?_drop];exact Q6 (by omega));have h3:=h2 (i + j) (by omega);simp only [e];refine ⟨h3.1,fun q v hv=>?_⟩;have h4:=h3.2 q v hv;rw [show o + (i + j) * sz + q = o + i * sz + j * sz + q by rw [Nat.add_mul];omega] at h4;exact h4⟩
section
variable {w0 w : World} {M : List Nat} {As As' As'' : List HA} {gn cap et nt' : Nat} {a : Option Addr} {L : List LNd}
theorem Qbp (h0 : 0 < L.length) (h : HS w0 M As w) (hp : QG As (.nodes et nt' a cap L) As') : ∃ gn,a = some ⟨gn,0,none⟩ ∧ L.length ≤ cap ∧ cap ≤ maxLen ∧ HS w0 M (.blk gn nt' (cap * 3) (L.flatMap LNd.vals) :: .star (L.map (Qk et)) :: As') w:=by
 have h1:=HS.row_open (h.pick hp);obtain ⟨gn,e,_,h2,h3,_,h4⟩:=h1.own_blk h0 .here;exact ⟨gn,e,h2,h3,h4⟩
theorem Qau (h : HS w0 M (.blk gn nt' (cap * 3) (L.flatMap LNd.vals) :: .star (L.map (Qk et)) :: As) w) (h1 : L.length ≤ cap) (h2 : cap ≤ maxLen) : HS w0 M (.nodes et nt' (some ⟨gn,0,none⟩) cap L :: As) w:=
 HS.row_shut (l:=L) (sub:=Qk et) (HS.own_shut (n:=L.length) h (Qf nv3 L) h1 h2) rfl rfl
theorem HS.nt_at (h : HS w0 M As w) (hp : QG As (.blk gn nt' (cap * 3) (L.flatMap LNd.vals)) As') (hp2 : QG As' (.star (L.map (Qk et))) As'') : Nt w [] (some ⟨gn,0,none⟩) L:=by
 refine ⟨h.rw_blk nv3 hp,fun n hn=>?_⟩;obtain ⟨i,hi,e⟩:=List.getElem_of_mem hn;have e2 : nth L i = n:=Q3 (by rw [List.getElem?_eq_getElem hi,e]);have h2:=HS.sub_open hi ((h.pick hp).tail.pick hp2);rw [e2] at h2;have h3:=HS.star_open h2;exact ⟨h3.rw_own ev2 .here rfl,h3.rw_own iv1 (.there .here) rfl⟩
theorem HS.node_out {i : Nat} (hi : i < L.length) (h : HS w0 M As w) (hp : QG As (.star (L.map (Qk et))) As') : HS w0 M (.own (.slice (nth L i).ea (nth L i).es.length (nth L i).ec) et 2 (nth L i).es.length ((nth L i).es.flatMap TEnt.vals) :: .own (.slice (nth L i).ca (nth L i).cs.length (nth L i).cc) 3 1 (nth L i).cs.length ((nth L i).cs.flatMap inV) :: .star ((Qt L i).map (Qk et)) :: As') w:=
 HS.star_open (Bs:=[_,_]) (HS.sub_open hi (h.pick hp))
theorem HS.node_in {i : Nat} (hi : i < L.length) (x : LNd) (h : HS w0 M (.own (.slice x.ea x.es.length x.ec) et 2 x.es.length (x.es.flatMap TEnt.vals) :: .own (.slice x.ca x.cs.length x.cc) 3 1 x.cs.length (x.cs.flatMap inV) :: .star ((Qt L i).map (Qk et)) :: As) w) : HS w0 M (.star ((L.set i x).map (Qk et)) :: As) w:=
 HS.sub_shut (sub:=Qk et) hi (HS.star_close (Bs:=[_,_]) h)
theorem QgO {a : Option Addr} {n n' c t sz : Nat} {xs : List Value} {w : World} (h : QiL (.slice a n c) t sz n' xs w) : ∀ x,a = some x → x.off = 0 ∧ x = ⟨x.block,0,none⟩:=by
 obtain ⟨_,⟨e,_⟩ | ⟨g,cap,e,_⟩⟩:=h
 ·injection e with e1
  subst e1;intro x hx;cases hx
 ·injection e with e1
  subst e1;intro x hx;injection hx with hx
  subst hx;exact ⟨rfl,rfl⟩
end
theorem QkO {l : List LNd} {k : Nat} (hk : k < l.length) (us : Bool) : Qy (l.flatMap LNd.vals) (0 + k * 3 + 0) [.bool us] = (l.set k { nth l k with us:=us }).flatMap LNd.vals:=by
 rw [Nat.zero_add,Nat.add_zero];exact QnK hk us
theorem Qof {et : Nat} {L : List LNd} {i : Nat} (hi : i < L.length) (us : Bool) : ((L.set i { nth L i with us:=us }).map (Qk et)) = L.map (Qk et):=by
 rw [List.map_set];have e : Qk et { nth L i with us:=us } = Qk et (nth L i):=rfl;rw [e];apply List.ext_getElem?;intro j;rw [List.getElem?_set];split
 ·rename_i h;subst h;rw [List.length_map,if_pos hi,List.getElem?_map,Q6 hi];rfl
 ·rfl
def usN (ns : List Nd) (i : Nat) (us : Bool) : List Nd:=ns.set i { nth ns i with us:=us }
def esN (ns : List Nd) (i : Nat) (es : List TEnt) : List Nd:=ns.set i { nth ns i with es:=es }
def csN (ns : List Nd) (i : Nat) (cs : List Int) : List Nd:=ns.set i { nth ns i with cs:=cs }
theorem XX (ns : List Nd) (i : Nat) (es : List TEnt) : (esN ns i es).length = ns.length:=by simp [esN]
theorem Zw (ns : List Nd) (i : Nat) (cs : List Int) : (csN ns i cs).length = ns.length:=by simp [csN]
theorem Qf5 (ns : List Nd) (i : Nat) (us : Bool) : (usN ns i us).length = ns.length:=by simp [usN]
theorem Qjo {ns : List Nd} {i k : Nat} (hk : k < ns.length) (es : List TEnt) : nth (esN ns i es) k = if i = k then { nth ns k with es:=es } else nth ns k:=by
 unfold esN;apply Q3;rw [List.getElem?_set];split
 ·rename_i h;subst h;rw [if_pos hk]
 ·exact Q6 hk
theorem Qp0 {L : List LNd} {i : Nat} (hi : i < L.length) (ea : Option Addr) (ec : Nat) (es : List TEnt) : pln (L.set i { nth L i with ea:=ea,ec:=ec,es:=es }) = esN (pln L) i es:=by
 rw [QbB,esN,Qh hi];rfl
theorem Qqp {L : List LNd} {i : Nat} (hi : i < L.length) (ca : Option Addr) (cc : Nat) (cs : List Int) : pln (L.set i { nth L i with ca:=ca,cc:=cc,cs:=cs }) = csN (pln L) i cs:=by
 rw [QbB,csN,Qh hi];rfl
theorem Qqk {L : List LNd} {i : Nat} (hi : i < L.length) (us : Bool) : pln (L.set i { nth L i with us:=us }) = usN (pln L) i us:=by
 rw [QbB,usN,Qh hi];rfl
def XE (ns : List Nd) : Nat:=ixB (ns.map fun n=>!n.us)
def Q0 (ns : List Nd) : Nat × List Nd:=if XE ns < ns.length then (XE ns,usN ns (XE ns) true) else (ns.length,ns ++ [⟨true,[],[]⟩])
def Xi (i : Int) : List Nd → Nat → Nat × Nat
 | [],_=>(0,0)
 | n :: ns,p=>if ixB (Y2 n.cs i) < n.cs.length then (p,ixB (Y2 n.cs i)) else Xi i ns (p + 1)
theorem Qkr {i : Int} {ns : List Nd} {k : Nat} (hk : k < ns.length) : Xi i (ns.drop k) k = if ixB (Y2 (nth ns k).cs i) < (nth ns k).cs.length then (k,ixB (Y2 (nth ns k).cs i)) else Xi i (ns.drop (k + 1)) (k + 1):=by
 rw [List.drop_eq_getElem_cons hk,Xi];have e : ns[k] = nth ns k:=(Q3 (List.getElem?_eq_getElem hk)).symm;rw [e]
def QC (mo : Int) : Nat:=((mo + 1) / 2).toNat
def splA (mo : Int) (ns : List Nd) (i : Nat) : List Nd:=
 if (nth (Q0 ns).2 i).cs.length = 0 then esN (esN (Q0 ns).2 (Q0 ns).1 ((nth (Q0 ns).2 i).es.drop (QC mo + 1))) i ((nth (Q0 ns).2 i).es.take (QC mo))
 else csN (csN (esN (esN (Q0 ns).2 (Q0 ns).1 ((nth (Q0 ns).2 i).es.drop (QC mo + 1))) i ((nth (Q0 ns).2 i).es.take (QC mo))) (Q0 ns).1 ((nth (Q0 ns).2 i).cs.drop (QC mo + 1))) i ((nth (Q0 ns).2 i).cs.take (QC mo + 1))
def addP (ns : List Nd) (p k : Nat) (up : TEnt) (own : Nat) : List Nd:=csN (esN ns p (QI (nth ns p).es k up)) p (QI (nth ns p).cs (k + 1) (own : Int))
def QaL (mo : Int) (ns : List Nd) (i : Nat) : List Nd:=addP (splA mo ns i) (Xi (i : Int) (splA mo ns i) 0).1 (Xi (i : Int) (splA mo ns i) 0).2 (nth (nth (Q0 ns).2 i).es (QC mo)) (Q0 ns).1
structure SplOk (mo : Int) (ns : List Nd) (i : Nat) : Prop where
 mo0 : 0 ≤ mo ∧ mo ≤ 1000
 bd : Bd ns
 lt : i < ns.length
 us : (nth ns i).us = true
 es : QC mo < (nth ns i).es.length
 cs : (nth ns i).cs.length = 0 ∨ QC mo + 1 ≤ (nth ns i).cs.length
 par : (Xi (i : Int) (splA mo ns i) 0).1 < (splA mo ns i).length
 parE : (Xi (i : Int) (splA mo ns i) 0).2 ≤ (nth (splA mo ns i) (Xi (i : Int) (splA mo ns i) 0).1).es.length
 parC : (Xi (i : Int) (splA mo ns i) 0).2 + 1 ≤ (nth (splA mo ns i) (Xi (i : Int) (splA mo ns i) 0).1).cs.length
theorem Qc0 {ns : List Nd} (h : XE ns < ns.length) : (nth ns (XE ns)).us = false:=by
 have h1 : (ns.map fun n=>!n.us).getD (XE ns) false = true:=QdW (l:=ns.map fun n=>!n.us) (by rw [List.length_map];exact h);rw [Y4 (d:=default) h] at h1;show (ns.getD (XE ns) default).us = false
 simpa using h1
theorem QdK {ns : List Nd} {i : Nat} (hi : i < ns.length) (hu : (nth ns i).us = true) : (Q0 ns).1 ≠ i:=by
 unfold Q0;split
 ·rename_i h;intro e;simp only [] at e;have h2:=Qc0 h;rw [e,hu] at h2;cases h2
 ·simp only [];omega
theorem QdN (ns : List Nd) : (Q0 ns).1 < (Q0 ns).2.length:=by
 unfold Q0;split
 ·rename_i h;simp only [Qf5];exact h
 ·simp
theorem QaZ (ns : List Nd) : ns.length ≤ (Q0 ns).2.length ∧ (Q0 ns).2.length ≤ ns.length + 1:=by
 unfold Q0;split
 ·simp only [Qf5];omega
 ·simp
theorem Qa0 {ns : List Nd} {i : Nat} (hi : i < ns.length) (hu : (nth ns i).us = true) : nth (Q0 ns).2 i = nth ns i:=by
 have hne:=QdK hi hu;unfold Q0 at hne ⊢;split
 ·rename_i h;rw [if_pos h] at hne;simp only [] at hne ⊢;unfold usN;apply Q3;rw [List.getElem?_set,if_neg hne];exact Q6 hi
 ·apply Q3;simp only [];rw [List.getElem?_append_left hi];exact Q6 hi
theorem QhK (mo : Int) (ns : List Nd) (i : Nat) : (splA mo ns i).length = (Q0 ns).2.length:=by
 unfold splA;split <;> simp [XX,Zw]
inductive BT where
 | nd (i : Nat) (es : List TEnt) (ks : List BT)
namespace BT
def idx : BT → Nat | nd i _ _=>i
def es : BT → List TEnt | nd _ es _=>es
def ks : BT → List BT | nd _ _ ks=>ks
end BT
instance : Inhabited BT:=⟨.nd 0 [] []⟩
def QL (ks : List BT) : List Int:=ks.map fun k=>(k.idx : Int)
theorem YK (a b : List BT) : QL (a ++ b) = QL a ++ QL b:=by simp [QL]
theorem Yg (a : BT) (b : List BT) : QL (a :: b) = (a.idx : Int) :: QL b:=rfl
theorem QR (a : List BT) : (QL a).length = a.length:=by simp [QL]
theorem Qe7 (a : List BT) (n : Nat) : QL (a.take n) = (QL a).take n:=by simp [QL,List.map_take]
theorem Qfg (a : List BT) (n : Nat) : QL (a.drop n) = (QL a).drop n:=by simp [QL,List.map_drop]
mutual
def BT.nodes : BT → List (Nat × Nd)
 | .nd i es ks=>(i,⟨true,es,QL ks⟩) :: Qz ks
def Qz : List BT → List (Nat × Nd)
 | []=>[]
 | k :: ks=>k.nodes ++ Qz ks
end
mutual
def BT.flat : BT → List TEnt
 | .nd _ es ks=>QF es ks
def QF : List TEnt → List BT → List TEnt
 | es,[]=>es
 | [],k :: ks=>k.flat ++ QF [] ks
 | e :: es,k :: ks=>k.flat ++ e :: QF es ks
end
theorem Yz (a b : List BT) : Qz (a ++ b) = Qz a ++ Qz b:=by
 induction a with
 | nil=>rfl
 | cons x a ih=>rw [List.cons_append,Qz,Qz,ih,List.append_assoc]
structure RepN (ns : List Nd) (N : List (Nat × Nd)) : Prop where
 get : ∀ p ∈ N,ns[p.1]? = some p.2
 nd : (N.map Prod.fst).Nodup
 rest : ∀ i,i < ns.length → i ∉ N.map Prod.fst → nth ns i = ⟨false,[],[]⟩
section
variable {ns : List Nd} {N N' : List (Nat × Nd)} {i : Nat} {x y : Nd}
theorem RepN.perm (h : RepN ns N) (hp : N.Perm N') : RepN ns N':=
 ⟨fun p hp'=>h.get p (hp.mem_iff.2 hp'),(hp.map _).nodup_iff.1 h.nd,fun i hi hn=>h.rest i hi fun hm=>hn ((hp.map _).mem_iff.1 hm)⟩
theorem RepN.lt (h : RepN ns N) {p : Nat × Nd} (hp : p ∈ N) : p.1 < ns.length:=(List.getElem?_eq_some_iff.1 (h.get p hp)).1
theorem RepN.head (h : RepN ns ((i,x) :: N)) : i < ns.length ∧ nth ns i = x:=⟨h.lt (List.mem_cons_self ..),Q3 (h.get _ (List.mem_cons_self ..))⟩
theorem RepN.at_ (h : RepN ns N) (hp : (i,x) ∈ N) : i < ns.length ∧ nth ns i = x:=⟨h.lt hp,Q3 (h.get _ hp)⟩
theorem RepN.set (h : RepN ns ((i,x) :: N)) (y : Nd) : RepN (ns.set i y) ((i,y) :: N):=by
 have hn:=List.nodup_cons.1 h.nd;refine ⟨fun p hp=>?_,h.nd,fun j hj hm=>?_⟩
 ·rcases List.mem_cons.1 hp with rfl | hp
  ·exact List.getElem?_set_self h.head.1
  ·have hne : i ≠ p.1:=fun e=>hn.1 (e ▸ List.mem_map.2 ⟨p,hp,rfl⟩);rw [List.getElem?_set_ne hne];exact h.get p (List.mem_cons_of_mem _ hp)
 ·have hne : i ≠ j:=fun e=>hm (e ▸ List.mem_cons_self ..);rw [List.length_set] at hj;rw [← h.rest j hj hm];exact Q3 (by rw [List.getElem?_set_ne hne];exact Q6 hj)
theorem RepN.es (h : RepN ns ((i,x) :: N)) (es : List TEnt) : RepN (esN ns i es) ((i,{ x with es:=es }) :: N):=by
 have:=h.set { x with es:=es };unfold esN;rw [h.head.2];exact this
theorem RepN.cs (h : RepN ns ((i,x) :: N)) (cs : List Int) : RepN (csN ns i cs) ((i,{ x with cs:=cs }) :: N):=by
 have:=h.set { x with cs:=cs };unfold csN;rw [h.head.2];exact this
theorem RepN.gone (h : RepN ns ((i,x) :: N)) : RepN (ns.set i ⟨false,[],[]⟩) N:=by
 have h1:=h.set ⟨false,[],[]⟩;have hn:=List.nodup_cons.1 h.nd;refine ⟨fun p hp=>h1.get p (List.mem_cons_of_mem _ hp),hn.2,fun j hj hm=>?_⟩
 by_cases e : j = i
 ·subst e;exact h1.head.2
 ·exact h1.rest j hj fun hm2=>by
   rcases List.mem_cons.1 hm2 with e2 | hm2
   ·exact e e2
   ·exact hm hm2
theorem RepN.free (h : RepN ns N) (hu : ∀ p ∈ N,p.2.us = true) : (Q0 ns).1 ∉ N.map Prod.fst ∧ RepN (Q0 ns).2 (((Q0 ns).1,⟨true,[],[]⟩) :: N):=by
 have hnu : (Q0 ns).1 ∉ N.map Prod.fst:=fun hm=>by
  obtain ⟨p,hp,e⟩:=List.mem_map.1 hm;have h1:=h.at_ (i:=p.1) (x:=p.2) hp;exact QdK h1.1 (by rw [h1.2];exact hu p hp) e.symm
 refine ⟨hnu,?_⟩;have hnd : ((((Q0 ns).1,(⟨true,[],[]⟩ : Nd)) :: N).map Prod.fst).Nodup:=List.nodup_cons.2 ⟨hnu,h.nd⟩
 have hget : ∀ p ∈ N,(Q0 ns).2[p.1]? = some p.2:=fun p hp=>by
  have h1:=h.at_ (i:=p.1) (x:=p.2) hp;have h2:=Qa0 h1.1 (by rw [h1.2];exact hu p hp);rw [Q6 (Nat.lt_of_lt_of_le h1.1 (QaZ ns).1),h2,h1.2]
 have hown : nth (Q0 ns).2 (Q0 ns).1 = ⟨true,[],[]⟩:=by
  unfold Q0 at hnu ⊢;split
  ·rename_i hlt;rw [if_pos hlt] at hnu;simp only [] at hnu ⊢;unfold usN;rw [h.rest _ hlt hnu];exact Q3 (List.getElem?_set_self hlt)
  ·exact Q3 (by simp)
 refine ⟨fun p hp=>?_,hnd,fun j hj hm=>?_⟩
 ·rcases List.mem_cons.1 hp with rfl | hp
  ·rw [Q6 (QdN ns),hown]
  ·exact hget p hp
 ·have hne : (Q0 ns).1 ≠ j:=fun e=>hm (e ▸ List.mem_cons_self ..);have hm2 : j ∉ N.map Prod.fst:=fun h9=>hm (List.mem_cons_of_mem _ h9);unfold Q0 at hj hne ⊢;split
  ·rename_i hlt;rw [if_pos hlt] at hj hne;simp only [Qf5] at hj hne ⊢;rw [← h.rest j hj hm2];exact Q3 (by unfold usN;rw [List.getElem?_set_ne hne];exact Q6 hj)
  ·rename_i hlt;rw [if_neg hlt] at hj hne;simp only [List.length_append,List.length_singleton] at hj hne ⊢;have hj2 : j < ns.length:=by omega
   rw [← h.rest j hj2 hm2];exact Q3 (by rw [List.getElem?_append_left hj2];exact Q6 hj2)
end
def Yj (N : List (Nat × Nd)) : List Int:=N.flatMap fun p=>p.2.cs
theorem QeM (A B : List (Nat × Nd)) : Yj (A ++ B) = Yj A ++ Yj B:=List.flatMap_append
theorem Qbd (p : Nat × Nd) (B : List (Nat × Nd)) : Yj (p :: B) = p.2.cs ++ Yj B:=List.flatMap_cons
theorem Qk0 {cs : List Int} {n : Int} (h : n ∉ cs) : ¬ ixB (Y2 cs n) < cs.length:=fun hl=>by
 have h1 : (Y2 cs n).getD (ixB (Y2 cs n)) false = true:=QdW (by rw [Yr];exact hl);rw [Qa9 hl] at h1;refine h (of_decide_eq_true h1 ▸ ?_);rw [List.getD_eq_getElem?_getD,List.getElem?_eq_getElem hl];exact List.getElem_mem hl
theorem QdC {A B : List Int} {n : Int} (h : n ∉ A) : ixB (Y2 (A ++ n :: B) n) = A.length:=by
 induction A with
 | nil=>
  show ixB (decide (n = n) :: _) = 0;simp [ixB]
 | cons a A ih=>
  have h1 : n ≠ a:=fun e=>h (e ▸ List.mem_cons_self ..);show ixB (decide (n = a) :: Y2 (A ++ n :: B) n) = _;rw [decide_eq_false h1];simp only [ixB,List.length_cons];rw [ih fun hm=>h (List.mem_cons_of_mem _ hm)]
  first | rfl | simp
theorem QiU {i : Nat} : ∀ {l : List Nd} {s p : Nat} {A B : List Int},p < l.length → (nth l p).cs = A ++ (i : Int) :: B → (i : Int) ∉ A → (∀ j,j < p → (i : Int) ∉ (nth l j).cs) → Xi i l s = (s + p,A.length)
 | [],s,p,A,B,hp,_,_,_=>absurd hp (Nat.not_lt_zero _)
 | n :: l,s,0,A,B,hp,he,hA,_=>by
  have e : n.cs = A ++ (i : Int) :: B:=he;rw [Xi,e,QdC hA,if_pos (by simp)];rfl
 | n :: l,s,p + 1,A,B,hp,he,hA,hn=>by
  have hn0 : (i : Int) ∉ n.cs:=hn 0 (Nat.succ_pos _);rw [Xi,if_neg (Qk0 hn0),QiU (l:=l) (s:=s + 1) (p:=p) (by simpa using hp) he hA fun j hj=>hn (j + 1) (by omega)];congr 1;omega
theorem RepN.par {ns : List Nd} {N : List (Nat × Nd)} {p i : Nat} {x : Nd} {A B : List Int} (h : RepN ns ((p,x) :: N)) (hk : (Yj ((p,x) :: N)).Nodup) (he : x.cs = A ++ (i : Int) :: B) : Xi i ns 0 = (p,A.length):=by
 rw [Qbd,he] at hk;have h1:=List.nodup_append.1 hk;have hA : (i : Int) ∉ A:=fun hm=>(List.nodup_append.1 h1.1).2.2 _ hm _ (List.mem_cons_self ..) rfl;have h2:=h.head
 have:=QiU (i:=i) (l:=ns) (s:=0) (p:=p) h2.1 (by rw [h2.2];exact he) hA fun j hj hm=>by
  by_cases hjm : j ∈ N.map Prod.fst
  ·obtain ⟨q,hq,e⟩:=List.mem_map.1 hjm;have h3:=h.at_ (i:=q.1) (x:=q.2) (List.mem_cons_of_mem _ hq);rw [e] at h3;rw [h3.2] at hm;exact h1.2.2 (i : Int) (by simp) (i : Int) (List.mem_flatMap.2 ⟨q,hq,hm⟩) rfl
  ·have h3:=h.rest j (by omega) (fun h9=>by
    rcases List.mem_cons.1 h9 with e | h9
    ·have : j = p:=e;omega
    ·exact hjm h9)
   rw [h3] at hm;cases hm
 rw [this,Nat.zero_add]
mutual
theorem Qcn : ∀ T : BT,(((T.idx : Nat) : Int) :: Yj T.nodes).Perm (T.nodes.map fun p=>((p.1 : Nat) : Int))
 | .nd i es ks=>by
  rw [BT.nodes,Qbd,List.map_cons];exact List.Perm.cons _ (Qdq ks)
theorem Qdq : ∀ ks : List BT,(QL ks ++ Yj (Qz ks)).Perm ((Qz ks).map fun p=>((p.1 : Nat) : Int))
 | []=>.refl _
 | k :: ks=>by
  rw [Qz,QeM,List.map_append,Yg,List.cons_append];have h1:=Qcn k;have h2:=Qdq ks
  have h3 : ((k.idx : Int) :: (QL ks ++ (Yj k.nodes ++ Yj (Qz ks)))).Perm (((k.idx : Int) :: Yj k.nodes) ++ (QL ks ++ Yj (Qz ks))):=by
   rw [List.cons_append];refine List.Perm.cons _ ?_;rw [← List.append_assoc,← List.append_assoc];exact List.perm_append_comm.append_right _
  exact h3.trans (h1.append h2)
end
theorem Qp4 {l : List (Nat × Nd)} (h : (l.map Prod.fst).Nodup) : (l.map fun p=>((p.1 : Nat) : Int)).Nodup:=by
 have e : (l.map fun p=>((p.1 : Nat) : Int)) = (l.map Prod.fst).map fun n : Nat=>(n : Int):=by simp
 rw [e];exact List.Pairwise.map _ (fun a b hab e=>hab (by omega)) h
theorem Qep {T : BT} (h : (T.nodes.map Prod.fst).Nodup) : (Yj T.nodes).Nodup:=(List.nodup_cons.1 ((Qcn T).nodup_iff.2 (Qp4 h))).2
mutual
theorem ZN : ∀ T : BT,∀ p ∈ T.nodes,p.2.us = true
 | .nd i es ks=>fun p hp=>by
  rw [BT.nodes] at hp;rcases List.mem_cons.1 hp with rfl | hp
  ·rfl
  ·exact Qe0 ks p hp
theorem Qe0 : ∀ ks : List BT,∀ p ∈ Qz ks,p.2.us = true
 | []=>fun p hp=>(nomatch hp)
 | k :: ks=>fun p hp=>by
  rw [Qz] at hp;rcases List.mem_append.1 hp with hp | hp
  ·exact ZN k p hp
  ·exact Qe0 ks p hp
end
structure Fr where
 i : Nat
 es : List TEnt
 l : List BT
 r : List BT
instance : Inhabited Fr:=⟨⟨0,[],[],[]⟩⟩
def Fr.fill (f : Fr) (T : BT) : BT:=.nd f.i f.es (f.l ++ T :: f.r)
def plug : List Fr → BT → BT
 | [],T=>T
 | f :: C,T=>plug C (f.fill T)
def Fr.nodes (f : Fr) (h : Nat) : List (Nat × Nd):=(f.i,⟨true,f.es,QL f.l ++ (h : Int) :: QL f.r⟩) :: (Qz f.l ++ Qz f.r)
def Xc : List Fr → Nat → List (Nat × Nd)
 | [],_=>[]
 | f :: C,h=>f.nodes h ++ Xc C f.i
theorem QhW (f : Fr) (T : BT) : (f.fill T).nodes.Perm (f.nodes T.idx ++ T.nodes):=by
 unfold Fr.fill Fr.nodes;rw [BT.nodes,Yz,Qz,YK,Yg,List.cons_append];refine List.Perm.cons _ ?_;rw [List.append_assoc];exact List.Perm.append_left _ List.perm_append_comm
theorem Yn : ∀ (C : List Fr) (T : BT),(plug C T).nodes.Perm (Xc C T.idx ++ T.nodes)
 | [],T=>.refl _
 | f :: C,T=>by
  refine (Yn C (f.fill T)).trans ?_;show (Xc C f.i ++ (f.fill T).nodes).Perm (f.nodes T.idx ++ Xc C f.i ++ T.nodes);refine ((QhW f T).append_left _).trans ?_;rw [← List.append_assoc];exact List.perm_append_comm.append_right _
theorem Qar (C D : List Fr) (T : BT) : plug (C ++ D) T = plug D (plug C T):=by
 induction C generalizing T with
 | nil=>rfl
 | cons f C ih=>exact ih _
def QS (ns : List Nd) (T : BT) : Prop:=RepN ns T.nodes
theorem QS.plug {ns : List Nd} {C : List Fr} {T : BT} (h : QS ns (plug C T)) : RepN ns (Xc C T.idx ++ T.nodes):=RepN.perm h (Yn C T)
theorem QS.of_plug {ns : List Nd} {C : List Fr} {T : BT} (h : RepN ns (Xc C T.idx ++ T.nodes)) : QS ns (Gx.plug C T):=RepN.perm h (Yn C T).symm
theorem QS.at_ {ns : List Nd} {C : List Fr} {T : BT} (h : QS ns (Gx.plug C T)) : T.idx < ns.length ∧ nth ns T.idx = ⟨true,T.es,QL T.ks⟩:=by
 cases T with
 | nd i es ks=>exact RepN.at_ h.plug (List.mem_append_right _ (by rw [BT.nodes];exact List.mem_cons_self ..))
theorem QS.par {ns : List Nd} {f : Fr} {C : List Fr} {T : BT} (h : QS ns (Gx.plug (f :: C) T)) : Xi (T.idx : Int) ns 0 = (f.i,f.l.length):=by
 have hk : (Yj (Xc (f :: C) T.idx ++ T.nodes)).Nodup:=by
  have h1:=Qep (T:=Gx.plug (f :: C) T) h.nd;exact ((Yn (f :: C) T).flatMap_right _).nodup_iff.1 h1
 have h2:=RepN.par (A:=QL f.l) (i:=T.idx) (B:=QL f.r) h.plug hk rfl;rw [h2,QR]
def XG (ns : List Nd) : Nat × List Nd:=((Q0 ns).1,csN (esN (csN (esN (Q0 ns).2 (Q0 ns).1 (nth ns 0).es) (Q0 ns).1 (nth ns 0).cs) 0 []) 0 [((Q0 ns).1 : Int)])
def ZK (mo : Int) (ns : List Nd) (i : Nat) : List Nd:=if 0 < i ∧ mo < ((nth ns i).es.length : Int) then QaL mo ns i else ns
def XH (mo : Int) (ns : List Nd) (P : List Nat) : List Nd:=P.foldl (ZK mo) ns
def Qab (mo rm : Int) (ns : List Nd) : List Nd:=if rm < ((nth ns 0).es.length : Int) then if mo < ((nth (XG ns).2 (XG ns).1).es.length : Int) then QaL mo (XG ns).2 (XG ns).1 else (XG ns).2 else ns
def Qdb (mo rm : Int) (ns : List Nd) (P : List Nat) : List Nd:=Qab mo rm (XH mo ns P)
def insN (co mo rm : Int) (ns : List Nd) (x : TEnt) : List Nd:=
 let p:=Qb co ns x.key
 let leaf:=nth p.1 (p.1.length - 1)
 Qdb mo rm (esN ns leaf (QI (nth ns leaf).es p.2.1 x)) p.1.reverse
theorem Qcw {α : Type} [BEq α] [LawfulBEq α] {a b : List α} (h : ∀ x,a.count x = b.count x) : a.Perm b:=List.perm_iff_count.2 h
theorem QkP {α : Type} [BEq α] (l : List α) (n : Nat) (x : α) : l.count x = (l.take n).count x + (l.drop n).count x:=by
 rw [← List.count_append,List.take_append_drop]
theorem QaE (ks : List BT) (n : Nat) : Qz ks = Qz (ks.take n) ++ Qz (ks.drop n):=by
 rw [← Yz,List.take_append_drop]
theorem Qes (l r : List BT) (i own : Nat) : QI (QL l ++ (i : Int) :: QL r) (l.length + 1) (own : Int) = QL l ++ (i : Int) :: (own : Int) :: QL r:=by
 unfold QI;rw [List.take_append,List.drop_append,QR,List.take_of_length_le (by rw [QR];omega),List.drop_of_length_le (by rw [QR];omega),show l.length + 1 - l.length = 1 by omega];simp
section
variable {ns : List Nd} {mo rm : Int} {f : Fr} {C : List Fr} {i : Nat} {es : List TEnt} {ks : List BT}
theorem Qgm {T : BT} (h : QS ns T) : (Yj T.nodes).Nodup:=Qep h.nd
theorem QhL (h : QS ns (plug C (.nd i es ks))) : (Q0 ns).1 ∉ (plug C (.nd i es ks)).nodes.map Prod.fst ∧
  RepN (splA mo ns i) ((i,⟨true,es.take (QC mo),(QL ks).take (QC mo + 1)⟩) :: ((Q0 ns).1,⟨true,es.drop (QC mo + 1),(QL ks).drop (QC mo + 1)⟩) :: (Xc C i ++ Qz ks)):=by
 have hf:=RepN.free h (ZN _);refine ⟨hf.1,?_⟩
 have h1:=hf.2.perm (N':=((Q0 ns).1,⟨true,[],[]⟩) :: (i,⟨true,es,QL ks⟩) :: (Xc C i ++ Qz ks)) (List.Perm.cons _ ((Yn C (.nd i es ks)).trans (by
  show (Xc C i ++ (BT.nd i es ks).nodes).Perm _;rw [BT.nodes];exact List.perm_middle)))
 have h2:=h1.perm (List.Perm.swap ..);have hi:=h2.head;have h3:=((h1.es (es.drop (QC mo + 1))).perm (List.Perm.swap ..)).es (es.take (QC mo));unfold splA;rw [hi.2];simp only [];split
 ·rename_i h0;have h0' : QL ks = []:=List.eq_nil_of_length_eq_zero h0;rw [h0'] at h3;rw [h0',List.take_nil,List.drop_nil];exact h3
 ·have h4:=(h3.perm (List.Perm.swap ..)).cs ((QL ks).drop (QC mo + 1));exact (h4.perm (List.Perm.swap ..)).cs ((QL ks).take (QC mo + 1))
theorem QeV (h : QS ns (plug C (.nd i es ks))) : (Yj ((i,(⟨true,es.take (QC mo),(QL ks).take (QC mo + 1)⟩ : Nd)) :: ((Q0 ns).1,⟨true,es.drop (QC mo + 1),(QL ks).drop (QC mo + 1)⟩) :: (Xc C i ++ Qz ks))).Nodup:=by
 have h1:=((Yn C (.nd i es ks)).flatMap_right (fun p : Nat × Nd=>p.2.cs)).nodup_iff.1 (Qgm h);refine (List.Perm.nodup_iff ?_).1 h1;rw [BT.nodes];show (Yj (Xc C i ++ (i,⟨true,es,QL ks⟩) :: Qz ks)).Perm _;refine Qcw fun x=>?_;simp only [Qbd,QeM,List.count_append,QkP (QL ks) (QC mo + 1) x];omega
theorem Qah (h : QS ns (plug (f :: C) (.nd i es ks))) :
  (Q0 ns).1 ∉ (plug (f :: C) (.nd i es ks)).nodes.map Prod.fst ∧ Xi (i : Int) (splA mo ns i) 0 = (f.i,f.l.length) ∧
  QS (QaL mo ns i) (plug C (.nd f.i (QI f.es f.l.length (nth es (QC mo))) (f.l ++ .nd i (es.take (QC mo)) (ks.take (QC mo + 1)) :: .nd (Q0 ns).1 (es.drop (QC mo + 1)) (ks.drop (QC mo + 1)) :: f.r))):=by
 obtain ⟨h0,h1⟩:=QhL (mo:=mo) h;have hk:=QeV (mo:=mo) h
 have hp : (((i,(⟨true,es.take (QC mo),(QL ks).take (QC mo + 1)⟩ : Nd)) :: ((Q0 ns).1,⟨true,es.drop (QC mo + 1),(QL ks).drop (QC mo + 1)⟩) :: (Xc (f :: C) i ++ Qz ks))).Perm
   ((f.i,⟨true,f.es,QL f.l ++ (i : Int) :: QL f.r⟩) :: (i,(⟨true,es.take (QC mo),(QL ks).take (QC mo + 1)⟩ : Nd)) :: ((Q0 ns).1,⟨true,es.drop (QC mo + 1),(QL ks).drop (QC mo + 1)⟩) :: (Qz f.l ++ Qz f.r ++ Xc C f.i ++ Qz ks)):=by
  refine Qcw fun x=>?_;simp only [Xc,Fr.nodes,List.count_append,List.count_cons,List.cons_append];omega
 have h2:=h1.perm hp;have hpar:=h2.par ((hp.flatMap_right (fun p : Nat × Nd=>p.2.cs)).nodup_iff.1 hk) rfl;rw [QR] at hpar;refine ⟨h0,hpar,?_⟩;unfold QaL;rw [hpar]
 have hi : nth (nth (Q0 ns).2 i).es (QC mo) = nth es (QC mo):=by
  have h4 : i < ns.length ∧ nth ns i = ⟨true,es,QL ks⟩:=QS.at_ (T:=.nd i es ks) h;rw [Qa0 h4.1 (by rw [h4.2]),h4.2]
 rw [hi];unfold addP;simp only [];have h5:=h2.head;have h6:=(h2.es (QI f.es f.l.length (nth es (QC mo)))).cs (QI (QL f.l ++ (i : Int) :: QL f.r) (f.l.length + 1) ((Q0 ns).1 : Int));rw [Qes] at h6;rw [h5.2];simp only [];rw [Qes];refine QS.of_plug (h6.perm ?_);show List.Perm _ (Xc C f.i ++ BT.nodes _);rw [BT.nodes,Yz,Qz,Qz,BT.nodes,BT.nodes,YK,Yg,Yg,Qe7,Qfg];refine Qcw fun x=>?_;simp only [List.count_append,List.count_cons,List.cons_append,QaE ks (QC mo + 1),BT.idx];omega
end
theorem Qos {ns : List Nd} {es : List TEnt} {ks : List BT} (h : QS ns (.nd 0 es ks)) : (Q0 ns).1 ∉ (BT.nd 0 es ks).nodes.map Prod.fst ∧ QS (XG ns).2 (.nd 0 [] [.nd (Q0 ns).1 es ks]):=by
 have hf:=RepN.free h (ZN _);refine ⟨hf.1,?_⟩;have h0:=QS.at_ (C:=[]) h;unfold XG;rw [show nth ns 0 = nth ns (BT.nd 0 es ks).idx from rfl,h0.2];simp only [BT.es,BT.ks]
 have h1 : RepN (Q0 ns).2 (((Q0 ns).1,⟨true,[],[]⟩) :: (0,⟨true,es,QL ks⟩) :: Qz ks):=by
  have:=hf.2;rw [BT.nodes] at this;exact this
 have h2:=(((h1.es es).cs (QL ks)).perm (List.Perm.swap ..)).es [];have h3:=h2.cs [((Q0 ns).1 : Int)];refine RepN.perm h3 ?_;rw [BT.nodes,Qz,BT.nodes,Qz,List.append_nil];exact .refl _
abbrev LNd.noE (n : LNd) : LNd:={ n with ea:=none,ec:=0,es:=[] }
abbrev LNd.noC (n : LNd) : LNd:={ n with ca:=none,cc:=0,cs:=[] }
abbrev Qho (et : Nat) (n : LNd) : HA:=.own (.slice n.ea n.es.length n.ec) et 2 n.es.length (n.es.flatMap TEnt.vals)
abbrev Qkl (n : LNd) : HA:=.own (.slice n.ca n.cs.length n.cc) 3 1 n.cs.length (n.cs.flatMap inV)
theorem Zy {L : List LNd} {i : Nat} (hi : i < L.length) (x : LNd) : nth (L.set i x) i = x:=Q3 (List.getElem?_set_self hi)
theorem Qad {L : List LNd} {i k : Nat} (hk : k < L.length) (hne : i ≠ k) (x : LNd) : nth (L.set i x) k = nth L k:=Q3 (by rw [List.getElem?_set_ne hne];exact Q6 hk)
section
variable {w0 w : World} {M : List Nat} {As As' As'' : List HA} {et : Nat} {L : List LNd} {i : Nat}
theorem HS.es_take (hi : i < L.length) (h : HS w0 M As w) (hp : QG As (.star (L.map (Qk et))) As') : HS w0 M (Qho et (nth L i) :: .star ((L.set i (nth L i).noE).map (Qk et)) :: As') w:=by
 have h1:=(h.node_out hi hp).own_nil et 2;have h2:=h1.perm (As':=_ :: _ :: _ :: Qho et (nth L i) :: As') (List.Perm.cons _ (List.perm_middle (l₁:=[_,_])).symm);exact (HS.node_in hi (nth L i).noE h2).perm (List.Perm.swap ..)
theorem HS.cs_take (hi : i < L.length) (h : HS w0 M As w) (hp : QG As (.star (L.map (Qk et))) As') : HS w0 M (Qkl (nth L i) :: .star ((L.set i (nth L i).noC).map (Qk et)) :: As') w:=by
 have h1:=(h.node_out hi hp).own_nil 3 1;have h2:=h1.perm (As':=_ :: _ :: _ :: Qkl (nth L i) :: As') ((List.perm_middle (l₁:=[_]) (a:=Qho et (nth L i))).trans (List.Perm.cons _ (List.Perm.cons _ (List.Perm.swap ..))));exact (HS.node_in hi (nth L i).noC h2).perm (List.Perm.swap ..)
theorem HS.es_put (hi : i < L.length) {ea : Option Addr} {ec : Nat} {es : List TEnt} (h : HS w0 M As w) (hp : QG As (.own (.slice ea es.length ec) et 2 es.length (es.flatMap TEnt.vals)) As') (hp2 : QG As' (.star (L.map (Qk et))) As'') : HS w0 M (.star ((L.set i { nth L i with ea:=ea,ec:=ec,es:=es }).map (Qk et)) :: As'') w:=by
 have h1:=(h.pick hp).perm (List.Perm.cons _ hp2.perm);have h2:=(HS.node_out hi h1 (.there .here)).tail;have h3:=h2.perm (As':=(.own (.slice ea es.length ec) et 2 es.length (es.flatMap TEnt.vals)) :: _ :: _ :: As'') (List.perm_middle (l₁:=[_,_]));exact HS.node_in hi { nth L i with ea:=ea,ec:=ec,es:=es } h3
theorem HS.cs_put (hi : i < L.length) {ca : Option Addr} {cc : Nat} {cs : List Int} (h : HS w0 M As w) (hp : QG As (.own (.slice ca cs.length cc) 3 1 cs.length (cs.flatMap inV)) As') (hp2 : QG As' (.star (L.map (Qk et))) As'') : HS w0 M (.star ((L.set i { nth L i with ca:=ca,cc:=cc,cs:=cs }).map (Qk et)) :: As'') w:=by
 have h1:=(h.pick hp).perm (List.Perm.cons _ hp2.perm);have h2:=(HS.node_out hi h1 (.there .here));have h3:=(h2.perm (List.Perm.swap ..)).tail;have h4:=h3.perm (As':=Qho et (nth L i) :: (.own (.slice ca cs.length cc) 3 1 cs.length (cs.flatMap inV)) :: _ :: As'') (List.Perm.cons _ (List.perm_middle (l₁:=[_])));exact HS.node_in hi { nth L i with ca:=ca,cc:=cc,cs:=cs } h4
theorem HS.es_back (hi : i < L.length) {ea : Option Addr} {ec : Nat} {es : List TEnt} (h : HS w0 M As w) (hp : QG As (.own (.slice ea es.length ec) et 2 es.length (es.flatMap TEnt.vals)) As') (hp2 : QG As' (.star ((L.set i (nth L i).noE).map (Qk et))) As'') : HS w0 M (.star ((L.set i { nth L i with ea:=ea,ec:=ec,es:=es }).map (Qk et)) :: As'') w:=by
 have h1:=HS.es_put (L:=L.set i (nth L i).noE) (i:=i) (by rw [List.length_set];exact hi) h hp hp2;rw [Zy hi,List.set_set] at h1;exact h1
theorem HS.cs_back (hi : i < L.length) {ca : Option Addr} {cc : Nat} {cs : List Int} (h : HS w0 M As w) (hp : QG As (.own (.slice ca cs.length cc) 3 1 cs.length (cs.flatMap inV)) As') (hp2 : QG As' (.star ((L.set i (nth L i).noC).map (Qk et))) As'') : HS w0 M (.star ((L.set i { nth L i with ca:=ca,cc:=cc,cs:=cs }).map (Qk et)) :: As'') w:=by
 have h1:=HS.cs_put (L:=L.set i (nth L i).noC) (i:=i) (by rw [List.length_set];exact hi) h hp hp2;rw [Zy hi,List.set_set] at h1;exact h1
theorem HS.es_cut (hi : i < L.length) {m c : Nat} (hm : m ≤ c) (hc : c ≤ (nth L i).ec) (hml : m ≤ (nth L i).es.length) (h0 : m = 0 → (nth L i).ea = none → c = 0) (h : HS w0 M As w) (hp : QG As (.star (L.map (Qk et))) As') : HS w0 M (.star ((L.set i { nth L i with ec:=c,es:=(nth L i).es.take m }).map (Qk et)) :: As') w:=by
 have h1:=HS.es_take hi h hp;have e1 : ((nth L i).es.take m).length = m:=by rw [List.length_take];omega
 have h2:=HS.own_room (a:=(nth L i).ea) (n':=c) (xs:=((nth L i).es.take m).flatMap TEnt.vals) (ds:=((nth L i).es.drop m).flatMap TEnt.vals) .here (by rw [← List.flatMap_append,List.take_append_drop];exact h1) (by rw [Qf ev2,e1]) hm hc h0;refine HS.es_back hi (es:=(nth L i).es.take m) ?_ .here .here;rw [e1];exact h2
theorem HS.cs_cut (hi : i < L.length) {m c : Nat} (hm : m ≤ c) (hc : c ≤ (nth L i).cc) (hml : m ≤ (nth L i).cs.length) (h0 : m = 0 → (nth L i).ca = none → c = 0) (h : HS w0 M As w) (hp : QG As (.star (L.map (Qk et))) As') : HS w0 M (.star ((L.set i { nth L i with cc:=c,cs:=(nth L i).cs.take m }).map (Qk et)) :: As') w:=by
 have h1:=HS.cs_take hi h hp;have e1 : ((nth L i).cs.take m).length = m:=by rw [List.length_take];omega
 have h2:=HS.own_room (a:=(nth L i).ca) (n':=c) (xs:=((nth L i).cs.take m).flatMap inV) (ds:=((nth L i).cs.drop m).flatMap inV) .here (by rw [← List.flatMap_append,List.take_append_drop];exact h1) (by rw [Qf iv1,e1]) hm hc h0;refine HS.cs_back hi (cs:=(nth L i).cs.take m) ?_ .here .here;rw [e1];exact h2
theorem HS.es_room (hi : i < L.length) (h : HS w0 M As w) (hp : QG As (.star (L.map (Qk et))) As') : (nth L i).es.length ≤ (nth L i).ec ∧ (nth L i).ec ≤ maxLen:=by
 have h1:=HS.own_facts .here (HS.es_take hi h hp);exact ⟨h1.2.1,h1.2.2.1⟩
theorem HS.cs_room (hi : i < L.length) (h : HS w0 M As w) (hp : QG As (.star (L.map (Qk et))) As') : (nth L i).cs.length ≤ (nth L i).cc ∧ (nth L i).cc ≤ maxLen:=by
 have h1:=HS.own_facts .here (HS.cs_take hi h hp);exact ⟨h1.2.1,h1.2.2.1⟩
theorem HS.es_form (hi : i < L.length) (h : HS w0 M As w) (hp : QG As (.star (L.map (Qk et))) As') : ∀ x,(nth L i).ea = some x → x.off = 0 ∧ x = ⟨x.block,0,none⟩:=QgO (HS.es_take hi h hp).head
theorem HS.cs_form (hi : i < L.length) (h : HS w0 M As w) (hp : QG As (.star (L.map (Qk et))) As') : ∀ x,(nth L i).ca = some x → x.off = 0 ∧ x = ⟨x.block,0,none⟩:=QgO (HS.cs_take hi h hp).head
theorem HS.es_some (hi : i < L.length) (hn : 0 < (nth L i).es.length) (h : HS w0 M As w) (hp : QG As (.star (L.map (Qk et))) As') : ∃ g,(nth L i).ea = some ⟨g,0,none⟩:=by
 obtain ⟨g,e,_⟩:=HS.own_blk hn .here (HS.es_take hi h hp);exact ⟨g,e⟩
theorem HS.cs_some (hi : i < L.length) (hn : 0 < (nth L i).cs.length) (h : HS w0 M As w) (hp : QG As (.star (L.map (Qk et))) As') : ∃ g,(nth L i).ca = some ⟨g,0,none⟩:=by
 obtain ⟨g,e,_⟩:=HS.own_blk hn .here (HS.cs_take hi h hp);exact ⟨g,e⟩
theorem HS.es_row (hi : i < L.length) (h : HS w0 M As w) (hp : QG As (.star (L.map (Qk et))) As') : Rw TEnt.vals 2 w [] (nth L i).ea (nth L i).es:=(HS.es_take hi h hp).rw_own ev2 .here rfl
theorem HS.cs_row (hi : i < L.length) (h : HS w0 M As w) (hp : QG As (.star (L.map (Qk et))) As') : Rw inV 1 w [] (nth L i).ca (nth L i).cs:=(HS.cs_take hi h hp).rw_own iv1 .here rfl
theorem HS.es_rd {k g : Nat} (hi : i < L.length) (hk : k < (nth L i).es.length) (hg : (nth L i).ea = some ⟨g,0,none⟩) (h : HS w0 M As w) (hp : QG As (.star (L.map (Qk et))) As') : ∀ j v,(TEnt.vals (nth (nth L i).es k))[j]? = some v → Rd w [] g (0 + k * 2 + j) v:=by
 have h1:=Rw.rd (HS.es_row hi h hp) hk;rw [hg] at h1;exact h1
theorem HS.cs_rd {k g : Nat} (hi : i < L.length) (hk : k < (nth L i).cs.length) (hg : (nth L i).ca = some ⟨g,0,none⟩) (h : HS w0 M As w) (hp : QG As (.star (L.map (Qk et))) As') : Rd w [] g (0 + k * 1) (.int .i64 ((nth L i).cs.getD k 0)):=by
 have h1:=Rw.rd (HS.cs_row hi h hp) hk 0 (.int .i64 ((nth L i).cs.getD k 0)) rfl;rw [hg] at h1;exact h1
theorem HS.nd_cell {gn cap nt' : Nat} (hi : i < L.length) (h : HS w0 M As w) (hp : QG As (.blk gn nt' (cap * 3) (L.flatMap LNd.vals)) As') (j : Nat) {v : Value} (hj : (LNd.vals (nth L i))[j]? = some v) (hj3 : j < 3) : Rd w [] gn (i * 3 + j) v:=
 h.rd_blk hp (by rw [Qam nv3 L i j _ (Q6 hi) hj3];exact hj) (by simp)
end
structure NdSet (L L' : List LNd) (i : Nat) (x : LNd) : Prop where
 lt : i < L.length
 eq : L' = L.set i x
theorem NdSet.len {L L' : List LNd} {i : Nat} {x : LNd} (h : NdSet L L' i x) : L'.length = L.length:=by rw [h.eq,List.length_set]
theorem NdSet.at_ {L L' : List LNd} {i : Nat} {x : LNd} (h : NdSet L L' i x) : nth L' i = x:=by rw [h.eq,Zy h.lt]
theorem NdSet.other {L L' : List LNd} {i k : Nat} {x : LNd} (h : NdSet L L' i x) (hk : k < L.length) (hne : i ≠ k) : nth L' k = nth L k:=by rw [h.eq,Qad hk hne]
theorem NdSet.pl {L L' : List LNd} {i : Nat} {x : LNd} (h : NdSet L L' i x) : pln L' = (pln L).set i x.pl:=by rw [h.eq,QbB]
theorem NdSet.es {L L' : List LNd} {i : Nat} {ea : Option Addr} {ec : Nat} {es : List TEnt} (h : NdSet L L' i { nth L i with ea:=ea,ec:=ec,es:=es }) : pln L' = esN (pln L) i es:=by rw [h.eq,Qp0 h.lt]
theorem NdSet.cs {L L' : List LNd} {i : Nat} {ca : Option Addr} {cc : Nat} {cs : List Int} (h : NdSet L L' i { nth L i with ca:=ca,cc:=cc,cs:=cs }) : pln L' = csN (pln L) i cs:=by rw [h.eq,Qqp h.lt]
section
variable {w0 w : World} {M : List Nat} {As A1 A2 A3 : List HA} {et : Nat} {L : List LNd} {i gn cap nt' : Nat}
theorem HS.es_set (hi : i < L.length) {ea : Option Addr} {ec : Nat} {es : List TEnt} (h : HS w0 M As w) (hp : QG As (.blk gn nt' (cap * 3) (Qy (L.flatMap LNd.vals) (i * 3 + 1) [.slice ea es.length ec])) A1) (hp2 : QG A1 (.own (.slice ea es.length ec) et 2 es.length (es.flatMap TEnt.vals)) A2) (hp3 : QG A2 (.star (L.map (Qk et))) A3) :
  ∃ L',NdSet L L' i { nth L i with ea:=ea,ec:=ec,es:=es } ∧ HS w0 M (.blk gn nt' (cap * 3) (L'.flatMap LNd.vals) :: .star (L'.map (Qk et)) :: A3) w:=by
 refine ⟨_,⟨hi,rfl⟩,?_⟩;rw [← QbJ hi];exact (HS.es_put hi (h.pick hp) (.there hp2) (.there hp3)).perm (List.Perm.swap ..)
theorem HS.cs_set (hi : i < L.length) {ca : Option Addr} {cc : Nat} {cs : List Int} (h : HS w0 M As w) (hp : QG As (.blk gn nt' (cap * 3) (Qy (L.flatMap LNd.vals) (i * 3 + 2) [.slice ca cs.length cc])) A1) (hp2 : QG A1 (.own (.slice ca cs.length cc) 3 1 cs.length (cs.flatMap inV)) A2) (hp3 : QG A2 (.star (L.map (Qk et))) A3) :
  ∃ L',NdSet L L' i { nth L i with ca:=ca,cc:=cc,cs:=cs } ∧ HS w0 M (.blk gn nt' (cap * 3) (L'.flatMap LNd.vals) :: .star (L'.map (Qk et)) :: A3) w:=by
 refine ⟨_,⟨hi,rfl⟩,?_⟩;rw [← QdO hi];exact (HS.cs_put hi (h.pick hp) (.there hp2) (.there hp3)).perm (List.Perm.swap ..)
theorem HS.es_setB (hi : i < L.length) {ea : Option Addr} {ec : Nat} {es : List TEnt} (h : HS w0 M As w) (hp : QG As (.blk gn nt' (cap * 3) (Qy (L.flatMap LNd.vals) (i * 3 + 1) [.slice ea es.length ec])) A1) (hp2 : QG A1 (.own (.slice ea es.length ec) et 2 es.length (es.flatMap TEnt.vals)) A2) (hp3 : QG A2 (.star ((L.set i (nth L i).noE).map (Qk et))) A3) :
  ∃ L',NdSet L L' i { nth L i with ea:=ea,ec:=ec,es:=es } ∧ HS w0 M (.blk gn nt' (cap * 3) (L'.flatMap LNd.vals) :: .star (L'.map (Qk et)) :: A3) w:=by
 refine ⟨_,⟨hi,rfl⟩,?_⟩;rw [← QbJ hi];exact (HS.es_back hi (h.pick hp) (.there hp2) (.there hp3)).perm (List.Perm.swap ..)
theorem HS.cs_setB (hi : i < L.length) {ca : Option Addr} {cc : Nat} {cs : List Int} (h : HS w0 M As w) (hp : QG As (.blk gn nt' (cap * 3) (Qy (L.flatMap LNd.vals) (i * 3 + 2) [.slice ca cs.length cc])) A1) (hp2 : QG A1 (.own (.slice ca cs.length cc) 3 1 cs.length (cs.flatMap inV)) A2) (hp3 : QG A2 (.star ((L.set i (nth L i).noC).map (Qk et))) A3) :
  ∃ L',NdSet L L' i { nth L i with ca:=ca,cc:=cc,cs:=cs } ∧ HS w0 M (.blk gn nt' (cap * 3) (L'.flatMap LNd.vals) :: .star (L'.map (Qk et)) :: A3) w:=by
 refine ⟨_,⟨hi,rfl⟩,?_⟩;rw [← QdO hi];exact (HS.cs_back hi (h.pick hp) (.there hp2) (.there hp3)).perm (List.Perm.swap ..)
theorem HS.es_setC (hi : i < L.length) {m c : Nat} (hm : m ≤ c) (hc : c ≤ (nth L i).ec) (hml : m ≤ (nth L i).es.length) (h0 : m = 0 → (nth L i).ea = none → c = 0) (h : HS w0 M As w) (hp : QG As (.blk gn nt' (cap * 3) (Qy (L.flatMap LNd.vals) (i * 3 + 1) [.slice (nth L i).ea m c])) A1) (hp3 : QG A1 (.star (L.map (Qk et))) A3) :
  ∃ L',NdSet L L' i { nth L i with ec:=c,es:=(nth L i).es.take m } ∧ HS w0 M (.blk gn nt' (cap * 3) (L'.flatMap LNd.vals) :: .star (L'.map (Qk et)) :: A3) w:=by
 refine ⟨_,⟨hi,rfl⟩,?_⟩;have e:=QbJ hi (nth L i).ea c ((nth L i).es.take m);rw [List.length_take,Nat.min_eq_left hml] at e;rw [← e];exact (HS.es_cut hi hm hc hml h0 (h.pick hp) (.there hp3)).perm (List.Perm.swap ..)
theorem HS.cs_setC (hi : i < L.length) {m c : Nat} (hm : m ≤ c) (hc : c ≤ (nth L i).cc) (hml : m ≤ (nth L i).cs.length) (h0 : m = 0 → (nth L i).ca = none → c = 0) (h : HS w0 M As w) (hp : QG As (.blk gn nt' (cap * 3) (Qy (L.flatMap LNd.vals) (i * 3 + 2) [.slice (nth L i).ca m c])) A1) (hp3 : QG A1 (.star (L.map (Qk et))) A3) :
  ∃ L',NdSet L L' i { nth L i with cc:=c,cs:=(nth L i).cs.take m } ∧ HS w0 M (.blk gn nt' (cap * 3) (L'.flatMap LNd.vals) :: .star (L'.map (Qk et)) :: A3) w:=by
 refine ⟨_,⟨hi,rfl⟩,?_⟩;have e:=QdO hi (nth L i).ca c ((nth L i).cs.take m);rw [List.length_take,Nat.min_eq_left hml] at e;rw [← e];exact (HS.cs_cut hi hm hc hml h0 (h.pick hp) (.there hp3)).perm (List.Perm.swap ..)
end
theorem YN {α : Type} {l : List α} {i : Nat} {x : α} (h : i ≤ l.length) : (QI l i x).length = l.length + 1:=by
 simp only [QI,List.length_append,List.length_take,List.length_cons,List.length_drop];omega
theorem QhC {α : Type} {vals : α → List Value} {sz : Nat} (hv : ∀ x,(vals x).length = sz) (l : List α) (i : Nat) (x : α) : (l.flatMap vals).take (i * sz) ++ vals x ++ (l.flatMap vals).drop (i * sz) = (QI l i x).flatMap vals:=by
 rw [Qfe hv,Qfp hv,QI,List.flatMap_append,List.flatMap_cons,List.append_assoc]
theorem Zx {α : Type} {l : List α} {i : Nat} (h : i < l.length) : (Qt l i).length = l.length - 1:=by
 simp only [Qt,List.length_append,List.length_take,List.length_drop];omega
theorem QgF {α : Type} {vals : α → List Value} {sz : Nat} (hv : ∀ x,(vals x).length = sz) (l : List α) (i : Nat) : (l.flatMap vals).take (i * sz) ++ (l.flatMap vals).drop ((i + 1) * sz) = (Qt l i).flatMap vals:=by
 rw [Qfe hv,Qfp hv,Qt,List.flatMap_append]
def Sm (m : Nat) (ns : List Nd) : Prop:=∀ k,(nth ns k).es.length ≤ m ∧ (nth ns k).cs.length ≤ m
theorem Yu {α : Type} [Inhabited α] {l : List α} {k : Nat} (h : l.length ≤ k) : nth l k = default:=by
 unfold nth;rw [List.getD_eq_getElem?_getD,List.getElem?_eq_none h];rfl
theorem YO (ns : List Nd) (i k : Nat) (x : Nd) : nth (ns.set i x) k = if i = k ∧ k < ns.length then x else nth ns k:=by
 by_cases hk : k < ns.length
 ·apply Q3;rw [List.getElem?_set]
  by_cases e : i = k
  ·subst e;rw [if_pos rfl,if_pos hk,if_pos ⟨rfl,hk⟩]
  ·rw [if_neg e,if_neg (fun h=>e h.1)];exact Q6 hk
 ·rw [if_neg (fun h=>hk h.2),Yu (by simpa using hk),Yu (by simpa using hk)]
theorem Sm.mono {m m' : Nat} {ns : List Nd} (h : Sm m ns) (hm : m ≤ m') : Sm m' ns:=fun k=>⟨Nat.le_trans (h k).1 hm,Nat.le_trans (h k).2 hm⟩
theorem Sm.set {m : Nat} {ns : List Nd} (h : Sm m ns) (i : Nat) (x : Nd) (hx : x.es.length ≤ m ∧ x.cs.length ≤ m) : Sm m (ns.set i x):=fun k=>by
 rw [YO];split
 ·exact hx
 ·exact h k
theorem Sm.es {m : Nat} {ns : List Nd} (h : Sm m ns) (i : Nat) {es : List TEnt} (hx : es.length ≤ m) : Sm m (esN ns i es):=h.set i _ ⟨hx,(h i).2⟩
theorem Sm.cs {m : Nat} {ns : List Nd} (h : Sm m ns) (i : Nat) {cs : List Int} (hx : cs.length ≤ m) : Sm m (csN ns i cs):=h.set i _ ⟨(h i).1,hx⟩
theorem Sm.us {m : Nat} {ns : List Nd} (h : Sm m ns) (i : Nat) (b : Bool) : Sm m (usN ns i b):=h.set i _ (h i)
theorem Sm.app {m : Nat} {ns : List Nd} (h : Sm m ns) (x : Nd) (hx : x.es.length ≤ m ∧ x.cs.length ≤ m) : Sm m (ns ++ [x]):=fun k=>by
 rcases Nat.lt_trichotomy k ns.length with hk | hk | hk
 ·rw [show nth (ns ++ [x]) k = nth ns k from Q3 (by rw [List.getElem?_append_left hk];exact Q6 hk)];exact h k
 ·subst hk;rw [show nth (ns ++ [x]) ns.length = x from Q3 (by simp)];exact hx
 ·rw [Yu (by simp;omega)];exact ⟨Nat.zero_le _,Nat.zero_le _⟩
theorem Sm.fre {m : Nat} {ns : List Nd} (h : Sm m ns) : Sm m (Q0 ns).2:=by
 unfold Q0;split
 ·exact h.us _ _
 ·exact h.app _ ⟨Nat.zero_le _,Nat.zero_le _⟩
theorem Sm.splA {m : Nat} {ns : List Nd} (h : Sm m ns) (mo : Int) (i : Nat) : Sm m (splA mo ns i):=by
 have h1:=h.fre;have e1:=(h1 i).1;have e2:=(h1 i).2;have h2:=(h1.es (Q0 ns).1 (es:=(nth (Q0 ns).2 i).es.drop (QC mo + 1)) (by rw [List.length_drop];omega)).es i (es:=(nth (Q0 ns).2 i).es.take (QC mo)) (by rw [List.length_take];omega);unfold Gx.splA;split
 ·exact h2
 ·exact (h2.cs _ (by rw [List.length_drop];omega)).cs _ (by rw [List.length_take];omega)
theorem QlJ {α : Type} (l : List α) (i : Nat) (x : α) : (QI l i x).length ≤ l.length + 1:=by
 simp only [QI,List.length_append,List.length_take,List.length_cons,List.length_drop];omega
theorem Sm.addP {m : Nat} {ns : List Nd} (h : Sm m ns) (p k : Nat) (up : TEnt) (own : Nat) : Sm (m + 1) (addP ns p k up own):=by
 have e1:=QlJ (nth ns p).es k up;have e2:=QlJ (nth ns p).cs (k + 1) (own : Int);have e3:=(h p).1;have e4:=(h p).2;exact ((h.mono (Nat.le_succ m)).es p (by omega)).cs p (by omega)
theorem Sm.spl {m : Nat} {ns : List Nd} (h : Sm m ns) (mo : Int) (i : Nat) : Sm (m + 1) (QaL mo ns i):=(h.splA mo i).addP _ _ _ _
theorem Qlo (ns : List Nd) (p k : Nat) (up : TEnt) (own : Nat) : (addP ns p k up own).length = ns.length:=by
 unfold addP;rw [Zw,XX]
theorem Qcp (mo : Int) (ns : List Nd) (i : Nat) : ns.length ≤ (QaL mo ns i).length ∧ (QaL mo ns i).length ≤ ns.length + 1:=by
 unfold QaL;rw [Qlo,QhK];exact QaZ ns
theorem Sm.low {m : Nat} {ns : List Nd} (h : Sm m ns) (hm : 1 ≤ m) : Sm m (XG ns).2:=by
 unfold XG;exact (((h.fre.es _ (h 0).1).cs _ (h 0).2).es 0 (Nat.zero_le _)).cs 0 (by simpa using hm)
theorem Qha (ns : List Nd) : ns.length ≤ (XG ns).2.length ∧ (XG ns).2.length ≤ ns.length + 1:=by
 unfold XG;simp only [Zw,XX];exact QaZ ns
structure SpOk (mo : Int) (ns : List Nd) (i : Nat) : Prop where
 mo0 : 0 ≤ mo ∧ mo ≤ 1000
 len : ns.length ≤ 900
 sm : Sm 900 ns
 lt : i < ns.length
 us : (nth ns i).us = true
 es : QC mo < (nth ns i).es.length
 cs : (nth ns i).cs.length = 0 ∨ QC mo + 1 ≤ (nth ns i).cs.length
 par : (Xi (i : Int) (splA mo ns i) 0).1 < (splA mo ns i).length
 parE : (Xi (i : Int) (splA mo ns i) 0).2 ≤ (nth (splA mo ns i) (Xi (i : Int) (splA mo ns i) 0).1).es.length
 parC : (Xi (i : Int) (splA mo ns i) 0).2 + 1 ≤ (nth (splA mo ns i) (Xi (i : Int) (splA mo ns i) 0).1).cs.length
abbrev LNd.non (n : LNd) : LNd:=⟨n.us,none,0,[],none,0,[]⟩
section
variable {w0 w : World} {M : List Nat} {As A1 A2 A3 : List HA} {et : Nat} {L : List LNd} {i j gn cap nt' : Nat}
theorem HS.star_move (hi : i < L.length) (hj : j < L.length) (hne : i ≠ j) (us : Bool) (h : HS w0 M As w) (hp : QG As (.star (L.map (Qk et))) A1) : HS w0 M (.star (((L.set j { nth L i with us:=us }).set i (nth L i).non).map (Qk et)) :: A1) w:=by
 have h1:=((h.node_out hi hp).own_nil 3 1).own_nil et 2
 -- nil nil E C star
 have h2:=h1.perm (As':=_ :: _ :: _ :: Qho et (nth L i) :: Qkl (nth L i) :: A1) (List.Perm.cons _ (List.Perm.cons _ (List.perm_middle (l₁:=[Qho et (nth L i),Qkl (nth L i)]))));have h3:=HS.node_in hi (nth L i).non h2;have h4:=HS.node_out (L:=L.set i (nth L i).non) (i:=j) (by rw [List.length_set];exact hj) h3 .here;have h5:=h4.tail.tail;have h6:=h5.perm (As':=Qho et (nth L i) :: Qkl (nth L i) :: _ :: A1) (List.perm_middle (l₁:=[Qho et (nth L i),Qkl (nth L i)])).symm;have h7:=HS.node_in (L:=L.set i (nth L i).non) (i:=j) (by rw [List.length_set];exact hj) { nth L i with us:=us } h6;rw [List.set_comm _ _ hne] at h7;exact h7
theorem HS.node_move (hi : i < L.length) (hj : j < L.length) (hne : i ≠ j) (h : HS w0 M As w)
  (hp : QG As (.blk gn nt' (cap * 3) (Qy (Qy (L.flatMap LNd.vals) (j * 3 + 1) [.slice (nth L i).ea (nth L i).es.length (nth L i).ec]) (j * 3 + 2) [.slice (nth L i).ca (nth L i).cs.length (nth L i).cc])) A1) (hp3 : QG A1 (.star (L.map (Qk et))) A3) :
  ∃ L',NdSet L L' j { nth L i with us:=(nth L j).us } ∧ HS w0 M (.blk gn nt' (cap * 3) (L'.flatMap LNd.vals) :: .star ((L'.set i (nth L i).non).map (Qk et)) :: A3) w:=by
 refine ⟨_,⟨hj,rfl⟩,?_⟩;have e:=Qda hj (nth L i).ea (nth L i).ec (nth L i).es (nth L i).ca (nth L i).cc (nth L i).cs;rw [← e];exact (HS.star_move hi hj hne (nth L j).us (h.pick hp) (.there hp3)).perm (List.Perm.swap ..)
theorem HS.node_low (hi : i < L.length) {ca : Option Addr} {cc : Nat} {cs : List Int} (h : HS w0 M As w)
  (hp : QG As (.blk gn nt' (cap * 3) (Qy (Qy (L.flatMap LNd.vals) (i * 3 + 1) [.slice none 0 0]) (i * 3 + 2) [.slice ca cs.length cc])) A1) (hp2 : QG A1 (.own (.slice ca cs.length cc) 3 1 cs.length (cs.flatMap inV)) A2) (hp3 : QG A2 (.star ((L.set i ⟨(nth L i).us,none,0,[],none,0,[]⟩).map (Qk et))) A3) :
  ∃ L',NdSet L L' i ⟨(nth L i).us,none,0,[],ca,cc,cs⟩ ∧ HS w0 M (.blk gn nt' (cap * 3) (L'.flatMap LNd.vals) :: .star (L'.map (Qk et)) :: A3) w:=by
 refine ⟨_,⟨hi,rfl⟩,?_⟩;have e:=Qda hi none 0 [] ca cc cs;rw [← e];have h1:=HS.cs_put (L:=L.set i ⟨(nth L i).us,none,0,[],none,0,[]⟩) (i:=i) (by rw [List.length_set];exact hi) (h.pick hp) (.there hp2) (.there hp3);rw [Zy hi,List.set_set] at h1;exact h1.perm (List.Perm.swap ..)
end
theorem Qbx {ns : List Nd} {i : Nat} (hi : i < ns.length) (es : List TEnt) (cs : List Int) : csN (esN ns i es) i cs = ns.set i ⟨(nth ns i).us,es,cs⟩:=by
 unfold csN;rw [Qjo hi,if_pos rfl,esN,List.set_set]
theorem Qou {ns : List Nd} (h0 : 0 < ns.length) (hu : (nth ns 0).us = true) : (Q0 ns).1 ≠ 0 ∧ (Q0 ns).1 < (Q0 ns).2.length ∧ nth (Q0 ns).2 0 = nth ns 0:=⟨QdK h0 hu,QdN ns,Qa0 h0 hu⟩
end Gx
namespace Gx
open Go Go.RowKit
def HA.obj (b : Nat) (o : Obj) : HA:=⟨[b],fun w=>w.heap[b]? = some o,fun w w' h hk=>(h b (List.mem_singleton.2 rfl)).trans hk⟩
section
variable {w0 w : World} {M : List Nat} {As As' : List HA}
theorem HS.allocObj (h : HS w0 M As w) (o : Obj) : HS w0 M (.obj w.heap.size o :: As) (w.alloc o):=h.alloc o _ rfl (World.alloc_heap_new w o)
theorem HS.obj_get {b : Nat} {o : Obj} (h : HS w0 M As w) (hp : QG As (.obj b o) As') : w.heap[b]? = some o:=h.ok _ hp.mem
theorem HS.putObj {b : Nat} {o : Obj} (h : HS w0 M As w) (hp : QG As (.obj b o) As') (o' : Obj) : HS w0 M (.obj b o' :: As') (w.putObj b o'):=by
 have h1:=h.pick hp;have hb : w.heap[b]? = some o:=h1.head;have hlt : b < w.heap.size:=(Array.getElem?_eq_some_iff.1 hb).1;refine h1.swap (fun _ hx=>hx) rfl rfl rfl (by simp [World.putObj]) (fun c hc=>World.putObj_heap_other (fun e=>hc (by subst e;exact List.mem_singleton.2 rfl))) (World.putObj_heap_same hlt)
end
def Zu (P : Program) (l : Nat) (args : Array Value) (w : World) (R : Ending → World → Prop) : Prop:=
 ∃ f tmps assign body,(Instr.yield l args).run P w = .ok (.round l f tmps assign body) w ∧ RoundIn Fence.wide 0 P l f tmps assign body w R
section
variable {P : Program} {o : Oper} {L : Qq}
theorem Qjt {C : World → Prop} {G : Type} {V : G → Value} {F : G → Prop} {C' : G → World → Prop} {x : Operand} {args : Array Operand} {vs : List Value} {ts : Array TypeId} {l : Nat} (ho : o.op = .call { callee:=.value x,args:=args,argTypes:=ts }) (hx : ev L x = some (.func (.yield l) #[] #[]))
  (ha : evs L args.toList = some vs) (hy : ∀ w,C w → Zu P l vs.toArray w fun e w'=>∃ g,e = .returned (V g) ∧ F g ∧ C' g w') : OpH P o L C V F C':=by
 intro ρ w hρ hw;obtain ⟨f,tmps,assign,body,hr,hR⟩:=hy w hw;have e1 : args.map ρ = vs.toArray:=by rw [← QcO hρ ha,← List.map_toArray]
 unfold execOp;simp only [ho,resolve,Sem.run_bind,hρ _ _ hx,Deferred.ofValue,e1,Sem.run_pure,Result.andThen_ok,invoke,Array.empty_append,hr];exact RoundIn.mono hR fun e w' ⟨g,he,hf,hc⟩=>⟨V g,he,g,rfl,hf,hc⟩
end
def rdy (fid : FuncId) (tmps : Array Value) (ps : Array Tmp) (assign body : Code) (D : Nat) : Loop:={ state:=.ready,pending:=none,fn:=fid,tmps:=tmps,params:=ps,assign:=assign,body:=body,defers:=D }
theorem QjG {P : Program} {fn : Func} {n l D : Nat} {fid : FuncId} {tmps : Array Value} {ps : Array Tmp} {assign body : Code} {args : Array Value} {L0 L1 : Qq} {w0 W : World} {M : List Nat} {As As1 : List HA} {Rr : Ending → World → Prop}
  (hC : HS w0 M (.obj l (.loop (rdy fid tmps ps assign body D)) :: As) W) (hps : args.size = ps.size) (hf : FR n [] L0 { tmps:=(ps.zip args).foldl (fun t (p,v)=>t.setIfInBounds p v) tmps,defers:=[] })
  (h1 : S { P:=P,fn:=fn,n:=n,R:=fun _ _=>False,rd:=some l } [.c assign,.join (At n [] (fun _ : Unit=>L1) (fun _=>HS w0 M (.obj l (.loop (rdy fid tmps ps assign body D)) :: As1)))] L0 (HS w0 M (.obj l (.loop (rdy fid tmps ps assign body D)) :: As)))
  (h2 : S { P:=P,fn:=fn,n:=n,R:=Rr,rd:=some l } [.c body] L1 (HS w0 M (.obj l (.loop { rdy fid tmps ps assign body D with state:=.busy }) :: As1))) : Zu P l args W Rr:=by
 refine ⟨fid,_,assign,body,run_yield (hC.obj_get .here) hps,roundIn_of_wpIn trivial ?_⟩;refine wpIn_mono (h1 _ W hf hC) fun e a w he=>?_;cases e with
 | normal=>
  obtain ⟨_,hfr,hc⟩:=he;exact ⟨_,run_beginRound (hc.obj_get .here) rfl,h2 _ _ hfr (hc.putObj .here _)⟩
 | ret=>obtain ⟨v,w',_,hx⟩:=he;exact hx
 | exit id=>obtain ⟨v,w',_,hx⟩:=he;exact hx
 | goto t=>obtain ⟨v,w',_,hx⟩:=he;exact hx
 | panic ch=>exact he
 | outgrown=>exact he
theorem FR.round1 {n : Nat} {L : Qq} {a : Act} (h : FR n [] L a) (d : Nat) (v : Value) (hd : Nat.blt d n = true) : FR n [] ((d,v) :: L) { tmps:=((#[d] : Array Tmp).zip #[v]).foldl (fun t (p,v)=>t.setIfInBounds p v) a.tmps,defers:=[] }:=by
 have h1:=h.put d v hd;have e : ((#[d] : Array Tmp).zip #[v]).foldl (fun t (p,v)=>t.setIfInBounds p v) a.tmps = a.tmps.setIfInBounds d v:=by simp
 rw [e];exact ⟨rfl,h1.size,h1.slot⟩
section
variable {X : Ctx} {k : List KI} {L : Qq} {w0 : World} {M : List Nat} {As As' : List HA}
theorem Qgs {C : World → Prop} {l : Nat} (hrd : X.rd = some l) (h : ∀ w,C w → ∃ r,w.heap[l]? = some (.loop r) ∧ X.R (.returned (.bool true)) (w.putObj l (.loop { r with state:=.ready,pending:=none }))) : S X [] L C:=by
 intro a w ha hw;show (match X.rd with | none=>bodyPostM X.F 0 X.P X.fn X.R .normal a w | some l=>roundPost X.P l X.R .normal a w);rw [hrd];obtain ⟨r,h1,h2⟩:=h w hw;exact ⟨_,_,run_endRound none h1,h2⟩
theorem ZR {l D : Nat} {fid : FuncId} {tmps : Array Value} {ps : Array Tmp} {assign body : Code} (hrd : X.rd = some l) (hp : QG As (.obj l (.loop { rdy fid tmps ps assign body D with state:=.busy })) As') (h : ∀ w,HS w0 M (.obj l (.loop (rdy fid tmps ps assign body D)) :: As') w → X.R (.returned (.bool true)) w) : S X [] L (HS w0 M As):=
 Qgs hrd fun w hw=>⟨_,hw.obj_get hp,h _ (hw.putObj hp _)⟩
theorem Qbu (d : List Nat) : ∀ k,post { X with df:=d } k = post X k
 | []=>by funext e a w;rfl
 | Sum.inl c :: k=>by funext e a w;cases e <;> simp only [post,Qbu d k]
 | Sum.inr (Sum.inl id) :: k=>by funext e a w;cases e <;> simp only [post,Qbu d k]
 | Sum.inr (Sum.inr J) :: k=>by funext e a w;cases e <;> simp only [post,Qbu d k]
theorem Qjp {g : Operand} {ps : Array Tmp} {assign body : Code} {gf : FuncId} {lb : Array Value} {G : Type} {Bs : G → List HA} (hrd : X.rd = none) (hdf : X.df = []) (hg : ev L g = some (.func (.func gf) #[] lb)) (hfn : QT X.P gf = true)
  (hit : ∀ (fid : FuncId) (D l : Nat) (a : Act) (w1 : World) (ob : Obj),ob = .loop (rdy fid a.tmps ps assign body D) → FR X.n [] L a → HS w0 M (.obj l ob :: .obj D (.deferred (some [])) :: As) w1 →
   Calls X.P gf (#[.func (.yield l) #[] #[]] ++ lb) w1 fun e w2=>(∃ v,e = .returned v) ∧ ∃ x,HS w0 M (.obj l ob :: .obj D (.deferred (some [])) :: Bs x) w2)
  (next : ∀ D x,S { X with df:=[D] } k L (HS w0 M (.obj D (.deferred (some [])) :: Bs x))) : S X (.c (.rangeFunc g ps assign body) :: k) L (HS w0 M As):=by
 intro a w ha hw;have ha0 : FR X.n [] L a:=by rw [← hdf];exact ha
 refine wpIn_rangeFunc (F:=X.F) (n:=0) fun fid _=>?_;have hro : X.F.round = none:=hrd;rw [hro];have hw1:=(hw.allocObj (.deferred (some []))).allocObj (.loop (rdy fid a.tmps ps assign body w.heap.size));rw [World.size_alloc] at hw1;have hen:=run_enterLoop_outer (P:=X.P) (w:=w) fid a.tmps ps assign body;obtain ⟨W1,hW1⟩ : ∃ W1,(w.alloc (.deferred (some []))).alloc (.loop (rdy fid a.tmps ps assign body w.heap.size)) = W1:=⟨_,rfl⟩;rw [hW1] at hw1;rw [show (Loop.mk .ready none fid a.tmps ps assign body w.heap.size) = rdy fid a.tmps ps assign body w.heap.size from rfl,hW1] at hen
 refine ⟨w.heap.size + 1,[{ target:=.collected w.heap.size,args:=#[] }],W1,{ target:=.fn (.func gf) lb,args:=#[.func (.yield (w.heap.size + 1)) #[] #[]] },W1,gf,
  #[.func (.yield (w.heap.size + 1)) #[] #[]] ++ lb,W1,hen,?_,fun _ _=>trivial,?_,fun h=>(by cases h),?_⟩
 ·simp only [resolve,ha.evl hg];simp [go_sem]
 ·simp [invoke,go_sem,Qaz hfn]
 ·refine CallsIn.mono (X.callsIn (hit fid _ _ a _ _ rfl ha0 hw1)) fun e w2 he=>?_;obtain ⟨⟨v,rfl⟩,x,hx⟩:=he;refine ⟨none,_,run_endLoop (hx.obj_get .here) (by simp [rdy]),?_⟩;have h3:=next w.heap.size x { a with defers:=[{ target:=.collected w.heap.size,args:=#[] }] ++ a.defers } _ ⟨by show _ ++ a.defers = _;rw [ha0.defers];rfl,ha0.size,ha0.slot⟩ (hx.putObj .here (.loop { rdy fid a.tmps ps assign body w.heap.size with state:=.exhausted })).tail
  rw [Qbu] at h3;exact h3
theorem Qnj {D : Nat} {rs : List ResultVar} {vs : List Value} (hr : X.fn.results = rs.toArray) (hp : QG As (.obj D (.deferred (some []))) As') (hv : RV X.P L As' rs vs) (h : ∀ w,HS w0 M As' w → X.R (.returned (Xw vs)) w) (hrd : X.rd = none:=by rfl) (hdf : X.df = [D]:=by rfl) : S X (.c .ret :: k) L (HS w0 M As):=by
 refine QkR (Zd fun a w ha hw=>?_);show (match X.rd with | none=>bodyPostM X.F 0 X.P X.fn X.R .ret a w | some l=>roundPost X.P l X.R .ret a w);rw [hrd];show LeavesInM X.F 0 X.P X.fn a.tmps X.R a.defers .returning w;rw [ha.defers,hdf];have h1:=(hw.putObj hp (.deferred none)).tail;refine ⟨by simp,.inl ⟨D,_,rfl,run_takeDeferred (hw.obj_get hp),Xw vs,?_,h _ h1⟩⟩;have hm:=hv.run ha h1;rw [Qd0 hr,Array.mapM_eq_mapM_toList];simp only [Sem.run_bind,Sem.run_map,hm,Result.andThen_ok,Sem.run_pure]
 match vs with
 | []=>rfl
 | [v]=>rfl
 | u :: v :: vs=>simp [Xw]
end
end Gx
namespace Gx
open Go Go.RowKit
theorem Qc5 {X : Ctx} {k : List KI} {L : Qq} {C : World → Prop} {α : Type} {c : Code} (md : List Nat) (Lm : α → Qq) (I : α → Prop) (h1 : S X (.c c :: .join (AtI X.n X.df (fun x=>Lm x ++ Qb2 md L) (fun _=>C) I) :: k) L C) (h2 : ∀ x,I x → S X k (Lm x ++ Qb2 md L) C) : S X (.c c :: k) L C:=
 Xn md Lm (fun _=>C) I h1 h2
end Gx
namespace Gx
open Go Go.RowKit
theorem FR.round2 {n : Nat} {L : Qq} {a : Act} (h : FR n [] L a) (d d' : Nat) (v v' : Value) (hd : Nat.blt d n = true) (hd' : Nat.blt d' n = true) : FR n [] ((d',v') :: (d,v) :: L) { tmps:=((#[d,d'] : Array Tmp).zip #[v,v']).foldl (fun t (p,v)=>t.setIfInBounds p v) a.tmps,defers:=[] }:=by
 have h1:=(h.put d v hd).put d' v' hd';have e : ((#[d,d'] : Array Tmp).zip #[v,v']).foldl (fun t (p,v)=>t.setIfInBounds p v) a.tmps = (a.tmps.setIfInBounds d v).setIfInBounds d' v':=by simp
 rw [e];exact ⟨rfl,h1.size,h1.slot⟩
def HA.pure (p : Prop) : HA:=⟨[],fun _=>p,fun _ _ _ h=>h⟩
section
variable {w0 w : World} {M : List Nat} {As As' : List HA} {p : Prop}
theorem HS.add_pure (hp : p) (h : HS w0 M As w) : HS w0 M (.pure p :: As) w:=
 ⟨h.os,h.tape,h.output,h.size,h.old,fun A hA=>by
  rcases List.mem_cons.1 hA with rfl | hA
  ·exact hp
  ·exact h.ok A hA,fun A hA b hb=>by
  rcases List.mem_cons.1 hA with rfl | hA
  ·cases hb
  ·exact h.lt A hA b hb,List.pairwise_cons.2 ⟨fun A _ b hb=>(nomatch hb),h.sep⟩⟩
theorem HS.get_pure (h : HS w0 M As w) (hp : QG As (.pure p) As') : p:=(h.pick hp).head
theorem HS.rw_ownF {α : Type} [Inhabited α] {vals : α → List Value} {sz : Nat} (hv : ∀ x,(vals x).length = sz) {Cs Ds Es : List HA} {a : Option Addr} {cap n t : Nat} {l : List α} (h : HS w0 M As w) (hp : Y3 As Cs Ds) (hp2 : QG Ds (.own (.slice a n cap) t sz n (l.flatMap vals)) Es) (hn : n = l.length) : Rw vals sz w (fps Cs) a l:=by
 subst hn;refine ⟨fun hn=>?_⟩;have h1 : HS w0 M (.own (.slice a l.length cap) t sz l.length (l.flatMap vals) :: (Cs ++ Es)) w:=h.perm (hp.trans ((hp2.perm.append_left Cs).trans List.perm_middle));obtain ⟨g,cap',e,_,_,_,h2⟩:=h1.own_open' hn;injection e with e1 e2 e3
 subst e1;have h3 : HS w0 M (Cs ++ .blk g t (cap' * sz) (l.flatMap vals) :: Es) w:=h2.perm List.perm_middle.symm;refine ⟨g,0,rfl,fun i hi=>⟨hv _,fun j v hjv=>?_⟩⟩
 have hj : j < sz:=by
  rw [← hv (nth l i)];exact (List.getElem?_eq_some_iff.1 hjv).1
 have:=HS.rd_blkF (i:=i * sz + j) h3 (.refl _) .here (v:=v) (by rw [Qam hv l i j _ (Q6 hi) hj];exact hjv);rw [Nat.zero_add];exact this
theorem QfA {X : Ctx} {L : Qq} {D : Nat} (hr : X.fn.results = #[]) (hp : QG As (.obj D (.deferred (some []))) As') (h : ∀ w,HS w0 M As' w → X.R (.returned (.tuple #[])) w) (hrd : X.rd = none:=by rfl) (hdf : X.df = [D]:=by rfl) : S X [] L (HS w0 M As):=by
 intro a w ha hw;show (match X.rd with | none=>bodyPostM X.F 0 X.P X.fn X.R .normal a w | some l=>roundPost X.P l X.R .normal a w);rw [hrd];show LeavesInM X.F 0 X.P X.fn a.tmps X.R a.defers .returning w;rw [ha.defers,hdf];have h1:=(hw.putObj hp (.deferred none)).tail;exact ⟨by simp,.inl ⟨D,_,rfl,run_takeDeferred (hw.obj_get hp),.tuple #[],results_none hr _ _ _,h _ h1⟩⟩
end
end Gx
namespace Gx
open Go Go.RowKit
abbrev iN (P : List Nat) : List Int:=P.map fun i : Nat=>(i : Int)
theorem Qqi {P : List Nat} {k : Nat} (h : k < P.length) : (iN P).getD k 0 = ((nth P k : Nat) : Int):=by
 rw [Y4 (d:=0) h];rfl
theorem QhX {P : List Nat} {k : Nat} (h : k < P.length) : nth (iN P) k = ((nth P k : Nat) : Int):=Qqi h
theorem Qc6 (P : List Nat) : (iN P).length = P.length:=by simp
def Qbt (mo : Int) : List Nd → List Nat → Prop
 | _,[]=>True
 | ns,i :: P=>(i < ns.length ∧ (0 < i → mo < ((nth ns i).es.length : Int) → SpOk mo ns i)) ∧ Qbt mo (ZK mo ns i) P
structure RootOk (mo rm : Int) (ns : List Nd) : Prop where
 lt : 0 < ns.length
 len : ns.length ≤ 900
 us : (nth ns 0).us = true
 spl : rm < ((nth ns 0).es.length : Int) → mo < ((nth (XG ns).2 (XG ns).1).es.length : Int) → SpOk mo (XG ns).2 (XG ns).1
theorem Qoj (ns : List Nd) : (XG ns).1 < (XG ns).2.length:=Nat.lt_of_lt_of_le (QdN ns) (by unfold XG;simp only [Zw,XX];exact Nat.le_refl _)
theorem Qjz {P : List Nat} {k : Nat} (h : k < P.length) : P.reverse[k]? = some (nth P (P.length - 1 - k)):=by
 rw [List.getElem?_reverse h];exact Q6 (by omega)
theorem Qhd {P : List Nat} {k : Nat} (h : k < P.length) : P.reverse.drop k = nth P (P.length - 1 - k) :: P.reverse.drop (k + 1):=by
 have h1 : k < P.reverse.length:=by rw [List.length_reverse];exact h
 rw [List.drop_eq_getElem_cons h1];congr 1;have:=Qjz h;rw [List.getElem?_eq_getElem h1] at this;exact Option.some.inj this
theorem QgH {P : List Nat} {k : Nat} (h : k < P.length) : P.reverse.take (k + 1) = P.reverse.take k ++ [nth P (P.length - 1 - k)]:=by
 rw [List.take_add_one,Qjz h];rfl
theorem Qkq (mo : Int) (ns : List Nd) (P : List Nat) (i : Nat) : XH mo ns (P ++ [i]) = ZK mo (XH mo ns P) i:=by
 unfold XH;rw [List.foldl_append];rfl
def YL (co : Int) (ns : List Nd) (key : List UInt8) : Nat:=nth (Qb co ns key).1 ((Qb co ns key).1.length - 1)
def Qb8 (co : Int) (ns : List Nd) (x : TEnt) : List Nd:=esN ns (YL co ns x.key) (QI (nth ns (YL co ns x.key)).es (Qb co ns x.key).2.1 x)
def Zc (co mo rm : Int) (ns : List Nd) (x : TEnt) : List Nd:=if (Qb co ns x.key).2.2 = true then ns else Qdb mo rm (Qb8 co ns x) (Qb co ns x.key).1.reverse
def Qdx (co mo rm : Int) (ns : List Nd) (x : TEnt) : Int:=if (Qb co ns x.key).2.2 = true then 5 else if (Zc co mo rm ns x).length ≤ 120 then 0 else 16
structure InsOk (co mo rm : Int) (ns : List Nd) (x : TEnt) : Prop where
 ne : 0 < (Qb co ns x.key).1.length
 len : (Qb co ns x.key).1.length ≤ 900
 lf : YL co ns x.key < ns.length
 es : (nth ns (YL co ns x.key)).es.length ≤ 900
 pl : (Qb co ns x.key).2.1 ≤ (nth ns (YL co ns x.key)).es.length
 grw : Qbt mo (Qb8 co ns x) (Qb co ns x.key).1.reverse
 root : RootOk mo rm (XH mo (Qb8 co ns x) (Qb co ns x.key).1.reverse)
section
variable {w0 w : World} {M : List Nat} {As As' : List HA} {a : Option Addr} {cap : Nat} {P : List Nat}
theorem HS.kids_some {l : List Int} (hn : 0 < l.length) (h : HS w0 M As w) (hp : QG As (.kids a cap l) As') : ∃ g,a = some ⟨g,0,none⟩:=by
 obtain ⟨g,e,_⟩:=HS.own_blk hn hp h;exact ⟨g,e⟩
theorem HS.path_rd {k g : Nat} (hk : k < P.length) (hg : a = some ⟨g,0,none⟩) (h : HS w0 M As w) (hp : QG As (.kids a cap (iN P)) As') : Rd w [] g (0 + k * 1) (.int .i64 ((nth P k : Nat) : Int)):=by
 have h1:=Rw.rd (h.rw_own (vals:=inV) (l:=iN P) iv1 hp rfl) (i:=k) (by rw [Qc6];exact hk) 0 (.int .i64 ((nth P k : Nat) : Int)) (by rw [QhX hk];rfl);rw [hg] at h1;exact h1
end
theorem Ya {co : Int} {ns : List Nd} (h : TOk co ns) : ∀ i,i < ns.length → ∀ x ∈ (nth ns i).es,QW co x.key = true ∧ x.key.length ≤ 1000000:=fun i hi x hx=>by
 have h1:=Yo (h.ents i hi x hx);have h2:=Zz h1;exact ⟨h1,by omega⟩
theorem Qiy {L : List LNd} {i : Nat} (hi : i < L.length) : L.set i (nth L i) = L:=by
 apply List.ext_getElem?;intro j;rw [List.getElem?_set];split
 ·rename_i h;subst h;rw [Q6 hi]
 ·rfl
section
variable {w0 w : World} {M : List Nat} {As A1 A2 A3 : List HA} {et : Nat} {L : List LNd} {i t gn cap nt' : Nat} {y : LNd}
theorem HS.es_rdB {k g : Nat} (hi : i < L.length) (hne : t ≠ i) (hk : k < (nth L i).es.length) (hg : (nth L i).ea = some ⟨g,0,none⟩) (h : HS w0 M As w) (hp : QG As (.star ((L.set t y).map (Qk et))) A1) : ∀ j v,(TEnt.vals (nth (nth L i).es k))[j]? = some v → Rd w [] g (0 + k * 2 + j) v:=by
 have e:=Qad (L:=L) hi hne y;have h1:=HS.es_rd (L:=L.set t y) (i:=i) (k:=k) (g:=g) (by rw [List.length_set];exact hi) (by rw [e];exact hk) (by rw [e];exact hg) h hp;rw [e] at h1;exact h1
theorem HS.cs_rdB {k g : Nat} (hi : i < L.length) (hne : t ≠ i) (hk : k < (nth L i).cs.length) (hg : (nth L i).ca = some ⟨g,0,none⟩) (h : HS w0 M As w) (hp : QG As (.star ((L.set t y).map (Qk et))) A1) : Rd w [] g (0 + k * 1) (.int .i64 ((nth L i).cs.getD k 0)):=by
 have e:=Qad (L:=L) hi hne y;have h1:=HS.cs_rd (L:=L.set t y) (i:=i) (k:=k) (g:=g) (by rw [List.length_set];exact hi) (by rw [e];exact hk) (by rw [e];exact hg) h hp;rw [e] at h1;exact h1
theorem HS.es_open {g : Nat} (hi : i < L.length) (hn : 0 < (nth L i).es.length) (hg : (nth L i).ea = some ⟨g,0,none⟩) (h : HS w0 M As w) (hp : QG As (.star (L.map (Qk et))) A1) : HS w0 M (.blk g et ((nth L i).ec * 2) ((nth L i).es.flatMap TEnt.vals) :: .star ((L.set i (nth L i).noE).map (Qk et)) :: A1) w:=by
 obtain ⟨g',e,_,_,_,_,h1⟩:=HS.own_blk hn .here (HS.es_take hi h hp);rw [hg] at e;injection e with e
 injection e with e
 subst e;exact h1
theorem QmA {es : List TEnt} {k : Nat} (hk : k < es.length) (x : TEnt) : Qy (es.flatMap TEnt.vals) (k * 2) (TEnt.vals x) = (es.set k x).flatMap TEnt.vals:=by
 have h:=ZC ev2 es k 0 (TEnt.vals x) (nth es k) x (Q6 hk) rfl (by simp [TEnt.vals]);rw [Nat.add_zero] at h;exact h
theorem HS.es_upd {g k : Nat} {x : TEnt} (hi : i < L.length) (hk : k < (nth L i).es.length) (hg : (nth L i).ea = some ⟨g,0,none⟩) (h : HS w0 M As w)
  (hp : QG As (.blk g et ((nth L i).ec * 2) (Qy ((nth L i).es.flatMap TEnt.vals) (k * 2) (TEnt.vals x))) A1) (hp2 : QG A1 (.star ((L.set i (nth L i).noE).map (Qk et))) A2) (hp3 : QG A2 (.blk gn nt' (cap * 3) (L.flatMap LNd.vals)) A3) (hc : (nth L i).es.length ≤ (nth L i).ec ∧ (nth L i).ec ≤ maxLen) :
  ∃ L',NdSet L L' i { nth L i with es:=(nth L i).es.set k x } ∧ HS w0 M (.blk gn nt' (cap * 3) (L'.flatMap LNd.vals) :: .star (L'.map (Qk et)) :: A3) w:=by
 refine ⟨_,⟨hi,rfl⟩,?_⟩;have h1:=h.pick hp;rw [QmA hk] at h1;have e1 : ((nth L i).es.set k x).length = (nth L i).es.length:=List.length_set;have h2:=HS.own_shut (n:=((nth L i).es.set k x).length) h1 (Qf ev2 _) (by rw [e1];exact hc.1) hc.2;have h3:=HS.es_back hi (es:=(nth L i).es.set k x) h2 .here hp2;have h4:=h3.pick (.there hp3)
 have e : (L.set i { nth L i with es:=(nth L i).es.set k x }).flatMap LNd.vals = L.flatMap LNd.vals:=by
  have e2:=QbJ hi (nth L i).ea (nth L i).ec ((nth L i).es.set k x);rw [e1] at e2;have e3:=QbJ hi (nth L i).ea (nth L i).ec (nth L i).es;have e4 : L.set i { nth L i with ea:=(nth L i).ea,ec:=(nth L i).ec,es:=(nth L i).es } = L:=Qiy hi;rw [e4] at e3;rw [← e2,e3]
 rw [e]
 have e5 : ({ nth L i with ea:=some ⟨g,0,none⟩,ec:=(nth L i).ec,es:=(nth L i).es.set k x } : LNd) = { nth L i with es:=(nth L i).es.set k x }:=by
  show LNd.mk _ _ _ _ _ _ _ = LNd.mk _ _ _ _ _ _ _;rw [← hg]
 rw [e5] at h4;exact h4
end
section
variable {w0 w : World} {M : List Nat} {As A1 A2 A3 : List HA} {et : Nat} {L : List LNd} {i gn cap nt' : Nat}
theorem HS.es_setA (hi : i < L.length) {ea : Option Addr} {ec : Nat} {x : TEnt} (h : HS w0 M As w) (hp : QG As (.blk gn nt' (cap * 3) (Qy (L.flatMap LNd.vals) (i * 3 + 1) [.slice ea ((nth L i).es.length + 1) ec])) A1) (hp2 : QG A1 (.own (.slice ea ((nth L i).es.length + 1) ec) et 2 ((nth L i).es.length + 1) ((nth L i).es.flatMap TEnt.vals ++ TEnt.vals x)) A2) (hp3 : QG A2 (.star ((L.set i (nth L i).noE).map (Qk et))) A3) :
  ∃ L',NdSet L L' i { nth L i with ea:=ea,ec:=ec,es:=(nth L i).es ++ [x] } ∧ HS w0 M (.blk gn nt' (cap * 3) (L'.flatMap LNd.vals) :: .star (L'.map (Qk et)) :: A3) w:=by
 have e1 : ((nth L i).es ++ [x]).length = (nth L i).es.length + 1:=by simp
 have e2 : ((nth L i).es ++ [x]).flatMap TEnt.vals = (nth L i).es.flatMap TEnt.vals ++ TEnt.vals x:=by simp
 have h1:=h.pick hp;have h2:=h1.perm (List.Perm.cons _ hp2.perm);rw [← e1,← e2] at h2;exact HS.es_setB hi (es:=(nth L i).es ++ [x]) h2 .here .here hp3
theorem HS.cs_setA (hi : i < L.length) {ca : Option Addr} {cc : Nat} {x : Int} (h : HS w0 M As w) (hp : QG As (.blk gn nt' (cap * 3) (Qy (L.flatMap LNd.vals) (i * 3 + 2) [.slice ca ((nth L i).cs.length + 1) cc])) A1) (hp2 : QG A1 (.own (.slice ca ((nth L i).cs.length + 1) cc) 3 1 ((nth L i).cs.length + 1) ((nth L i).cs.flatMap inV ++ inV x)) A2) (hp3 : QG A2 (.star ((L.set i (nth L i).noC).map (Qk et))) A3) :
  ∃ L',NdSet L L' i { nth L i with ca:=ca,cc:=cc,cs:=(nth L i).cs ++ [x] } ∧ HS w0 M (.blk gn nt' (cap * 3) (L'.flatMap LNd.vals) :: .star (L'.map (Qk et)) :: A3) w:=by
 have e1 : ((nth L i).cs ++ [x]).length = (nth L i).cs.length + 1:=by simp
 have e2 : ((nth L i).cs ++ [x]).flatMap inV = (nth L i).cs.flatMap inV ++ inV x:=by simp
 have h1:=h.pick hp;have h2:=h1.perm (List.Perm.cons _ hp2.perm);rw [← e1,← e2] at h2;exact HS.cs_setB hi (cs:=(nth L i).cs ++ [x]) h2 .here .here hp3
end
def Qex (ns : List Nd) (p k f t : Nat) : List Nd:=
 let P:=nth ns p;let F:=nth ns f;let T:=nth ns t
 let n:=esN (esN (esN ns t (QI T.es 0 (nth P.es k))) p (P.es.set k (nth F.es (F.es.length - 1)))) f (F.es.take (F.es.length - 1))
 if F.cs.length = 0 then n else csN (csN n t (QI T.cs 0 (F.cs.getD (F.cs.length - 1) 0))) f (F.cs.take (F.cs.length - 1))
def QcA (ns : List Nd) (p k f t : Nat) : List Nd:=
 let P:=nth ns p;let F:=nth ns f;let T:=nth ns t
 let n:=esN (esN (esN ns t (T.es ++ [nth P.es k])) p (P.es.set k (nth F.es 0))) f (Qt F.es 0)
 if F.cs.length = 0 then n else csN (csN n t (T.cs ++ [F.cs.getD 0 0])) f (Qt F.cs 0)
theorem QiB {ns : List Nd} {p k f t : Nat} {P F T : Nd} (hP : nth ns p = P) (hF : nth ns f = F) (hT : nth ns t = T) (h : F.cs.length = 0) : Qex ns p k f t = esN (esN (esN ns t (QI T.es 0 (nth P.es k))) p (P.es.set k (nth F.es (F.es.length - 1)))) f (F.es.take (F.es.length - 1)):=by
 subst hP hF hT;exact if_pos h
theorem Qil {ns : List Nd} {p k f t : Nat} {P F T : Nd} (hP : nth ns p = P) (hF : nth ns f = F) (hT : nth ns t = T) (h : 0 < F.cs.length) : Qex ns p k f t = csN (csN (esN (esN (esN ns t (QI T.es 0 (nth P.es k))) p (P.es.set k (nth F.es (F.es.length - 1)))) f (F.es.take (F.es.length - 1))) t (QI T.cs 0 (F.cs.getD (F.cs.length - 1) 0))) f (F.cs.take (F.cs.length - 1)):=by
 subst hP hF hT;exact if_neg (by omega)
theorem Qia {ns : List Nd} {p k f t : Nat} {P F T : Nd} (hP : nth ns p = P) (hF : nth ns f = F) (hT : nth ns t = T) (h : F.cs.length = 0) : QcA ns p k f t = esN (esN (esN ns t (T.es ++ [nth P.es k])) p (P.es.set k (nth F.es 0))) f (Qt F.es 0):=by
 subst hP hF hT;exact if_pos h
theorem Qh4 {ns : List Nd} {p k f t : Nat} {P F T : Nd} (hP : nth ns p = P) (hF : nth ns f = F) (hT : nth ns t = T) (h : 0 < F.cs.length) : QcA ns p k f t = csN (csN (esN (esN (esN ns t (T.es ++ [nth P.es k])) p (P.es.set k (nth F.es 0))) f (Qt F.es 0)) t (T.cs ++ [F.cs.getD 0 0])) f (Qt F.cs 0):=by
 subst hP hF hT;exact if_neg (by omega)
structure GivOk (ns : List Nd) (p k f t : Nat) : Prop where
 pl : p < ns.length
 fl : f < ns.length
 tl : t < ns.length
 pf : p ≠ f
 pt : p ≠ t
 ft : f ≠ t
 ke : k < (nth ns p).es.length
 kc : k + 1 < (nth ns p).cs.length
 fe : 0 < (nth ns f).es.length
 len : ns.length ≤ 900
 sm : Sm 900 ns
abbrev LNd.gone : LNd:=⟨false,none,0,[],none,0,[]⟩
theorem Qas {l : List LNd} {k : Nat} (hk : k < l.length) (x : LNd) : Qy (l.flatMap LNd.vals) (k * 3) (LNd.vals x) = (l.set k x).flatMap LNd.vals:=by
 have h:=ZC nv3 l k 0 (LNd.vals x) (nth l k) x (Q6 hk) rfl (by simp [LNd.vals]);rw [Nat.add_zero] at h;exact h
section
variable {w0 w : World} {M : List Nat} {As A1 A2 A3 : List HA} {et : Nat} {L : List LNd} {i j gn cap nt' : Nat}
theorem HS.star_gone (hi : i < L.length) (h : HS w0 M As w) (hp : QG As (.star (L.map (Qk et))) A1) : HS w0 M (.star ((L.set i LNd.gone).map (Qk et)) :: A1) w:=by
 have h1:=((h.node_out hi hp).tail.tail.own_nil 3 1).own_nil et 2;exact HS.node_in hi LNd.gone h1
theorem HS.node_gone (hi : i < L.length) (h : HS w0 M As w)
  (hp : QG As (.blk gn nt' (cap * 3) (Qy (L.flatMap LNd.vals) (i * 3) [.bool false,.slice none 0 0,.slice none 0 0])) A1) (hp3 : QG A1 (.star (L.map (Qk et))) A3) :
  ∃ L',NdSet L L' i LNd.gone ∧ HS w0 M (.blk gn nt' (cap * 3) (L'.flatMap LNd.vals) :: .star (L'.map (Qk et)) :: A3) w:=by
 refine ⟨_,⟨hi,rfl⟩,?_⟩;rw [← Qas hi];exact (HS.star_gone hi (h.pick hp) (.there hp3)).perm (List.Perm.swap ..)
end
def Qcv (ns : List Nd) (p k t f : Nat) : List Nd:=
 (csN (esN (csN (esN ns t ((nth ns t).es ++ nth (nth ns p).es k :: (nth ns f).es)) t ((nth ns t).cs ++ (nth ns f).cs)) p (Qt (nth ns p).es k)) p (Qt (nth ns p).cs (k + 1))).set f ⟨false,[],[]⟩
structure MrgOk (ns : List Nd) (p k f t : Nat) : Prop where
 pl : p < ns.length
 fl : f < ns.length
 tl : t < ns.length
 pf : p ≠ f
 pt : p ≠ t
 ft : f ≠ t
 ke : k < (nth ns p).es.length
 kc : k + 1 < (nth ns p).cs.length
 len : ns.length ≤ 900
 sm : Sm 900 ns
theorem cat3 {α : Type} (a b c : RowV α) : [a,b,c].flatMap RowV.l = a.l ++ (b.l ++ c.l):=by simp
theorem cat2 {α : Type} (a b : RowV α) : [a,b].flatMap RowV.l = a.l ++ b.l:=by simp
def kdN (ns : List Nd) (p k : Nat) : Nat:=((nth ns p).cs.getD k 0).toNat
def Ye (mo : Int) (ns : List Nd) (p : Nat) (x : Int) : Bool:=(decide (0 ≤ x) && decide (x ≤ ((nth ns p).cs.length : Int) - 1)) && decide (mo / 2 < ((nth ns (kdN ns p x.toNat)).es.length : Int))
def Yc (mo : Int) (ns : List Nd) (p k : Nat) : List Nd:=
 if Ye mo ns p ((k : Int) - 1) = true then Qex ns p (k - 1) (kdN ns p (k - 1)) (kdN ns p k)
 else if Ye mo ns p ((k : Int) + 1) = true then QcA ns p k (kdN ns p (k + 1)) (kdN ns p k)
 else if 0 < k then Qcv ns p (k - 1) (kdN ns p (k - 1)) (kdN ns p k)
 else if 1 < (nth ns p).cs.length then Qcv ns p k (kdN ns p k) (kdN ns p (k + 1))
 else ns
def filN (mo : Int) (ns : List Nd) (i : Nat) : List Nd:=Yc mo ns (Xi (i : Int) ns 0).1 (Xi (i : Int) ns 0).2
structure FilOk (mo : Int) (ns : List Nd) (p k : Nat) : Prop where
 mo0 : 0 ≤ mo ∧ mo ≤ 1000
 pl : p < ns.length
 kl : k < (nth ns p).cs.length
 sh : (nth ns p).cs.length = (nth ns p).es.length + 1
 kid : ∀ x,x < (nth ns p).cs.length → 0 ≤ (nth ns p).cs.getD x 0 ∧ kdN ns p x < ns.length ∧ p ≠ kdN ns p x
 dis : ∀ x y,x < (nth ns p).cs.length → y < (nth ns p).cs.length → x ≠ y → kdN ns p x ≠ kdN ns p y
 len : ns.length ≤ 900
 sm : Sm 900 ns
section
variable {mo : Int} {ns : List Nd} {p k : Nat}
theorem FilOk.kd (h : FilOk mo ns p k) {x : Nat} (hx : x < (nth ns p).cs.length) : (nth ns p).cs.getD x 0 = (kdN ns p x : Int):=(Int.toNat_of_nonneg (h.kid x hx).1).symm
theorem FilOk.giv (h : FilOk mo ns p k) {e x y : Nat} (hx : x < (nth ns p).cs.length) (hy : y < (nth ns p).cs.length) (hxy : x ≠ y) (he : e + 1 < (nth ns p).cs.length) (hf : 0 < (nth ns (kdN ns p x)).es.length) : GivOk ns p e (kdN ns p x) (kdN ns p y):=
 ⟨h.pl,(h.kid x hx).2.1,(h.kid y hy).2.1,(h.kid x hx).2.2,(h.kid y hy).2.2,h.dis x y hx hy hxy,by have:=h.sh;omega,he,hf,h.len,h.sm⟩
theorem FilOk.mrg (h : FilOk mo ns p k) {e x y : Nat} (hx : x < (nth ns p).cs.length) (hy : y < (nth ns p).cs.length) (hxy : x ≠ y) (he : e + 1 < (nth ns p).cs.length) : MrgOk ns p e (kdN ns p x) (kdN ns p y):=
 ⟨h.pl,(h.kid x hx).2.1,(h.kid y hy).2.1,(h.kid x hx).2.2,(h.kid y hy).2.2,h.dis x y hx hy hxy,by have:=h.sh;omega,he,h.len,h.sm⟩
theorem Qjq {x : Int} (h : Ye mo ns p x = true) : 0 ≤ x ∧ x ≤ ((nth ns p).cs.length : Int) - 1 ∧ mo / 2 < ((nth ns (kdN ns p x.toNat)).es.length : Int):=by
 unfold Ye at h;simp only [Bool.and_eq_true,decide_eq_true_eq] at h;exact ⟨h.1.1,h.1.2,h.2⟩
theorem QdX {P : Nd} {x : Int} (hP : nth ns p = P) (h : 0 ≤ x ∧ x ≤ (P.cs.length : Int) - 1) : Ye mo ns p x = decide (mo / 2 < ((nth ns (kdN ns p x.toNat)).es.length : Int)):=by
 subst hP;unfold Ye;rw [decide_eq_true h.1,decide_eq_true h.2];rfl
theorem Qec {P : Nd} {x : Int} (hP : nth ns p = P) (h : (decide (0 ≤ x) && decide (x ≤ (P.cs.length : Int) - 1)) = false) : Ye mo ns p x = false:=by
 subst hP;unfold Ye;rw [h];rfl
end
def tln (ns : List Nd) : Nat → Nat
 | 0=>0
 | n + 1=>if (nth ns n).us = true then n + 1 else tln ns n
def QbV (ns : List Nd) : List Nd:=ns.take (tln ns ns.length)
theorem QhP {ns : List Nd} {m : Nat} (h0 : 0 < m) (h : (nth ns (m - 1)).us = true) : tln ns m = m:=by
 obtain ⟨n,rfl⟩ : ∃ n,m = n + 1:=⟨m - 1,by omega⟩;exact if_pos h
theorem Qgi {ns : List Nd} {m : Nat} (h0 : 0 < m) (h : ¬ (nth ns (m - 1)).us = true) : tln ns m = tln ns (m - 1):=by
 obtain ⟨n,rfl⟩ : ∃ n,m = n + 1:=⟨m - 1,by omega⟩;exact if_neg h
theorem QkZ (ns : List Nd) : ∀ m,tln ns m ≤ m
 | 0=>Nat.le_refl _
 | m + 1=>by
  rw [tln];split
  ·exact Nat.le_refl _
  ·exact Nat.le_succ_of_le (QkZ ns m)
section
variable {w0 w : World} {M : List Nat} {As As' : List HA} {et : Nat} {L : List LNd}
theorem HS.drop_all : ∀ (Bs : List HA),HS w0 M (Bs ++ As) w → HS w0 M As w
 | [],h=>h
 | B :: Bs,h=>HS.drop_all Bs h.tail
theorem HS.star_take (m : Nat) (h : HS w0 M As w) (hp : QG As (.star (L.map (Qk et))) As') : HS w0 M (.star ((L.take m).map (Qk et)) :: As') w:=by
 have h1:=h.pick hp;rw [← List.take_append_drop m L,List.map_append] at h1;have h2:=h1.star_open;rw [List.append_assoc] at h2;have h3:=h2.perm (As':=(L.drop m).map (Qk et) ++ ((L.take m).map (Qk et) ++ As')) (by rw [← List.append_assoc,← List.append_assoc];exact List.perm_append_comm.append_right _);have h4:=HS.star_close (HS.drop_all _ h3);exact h4
end
theorem Qfs {L : List LNd} {m : Nat} : L.flatMap LNd.vals = (L.take m).flatMap LNd.vals ++ (L.drop m).flatMap LNd.vals:=by
 rw [← List.flatMap_append,List.take_append_drop]
def Qd1 (ns : List Nd) : Nat → Nat → List Nat
 | 0,i=>[i]
 | f + 1,i=>if (nth ns i).cs.length = 0 then [i] else i :: Qd1 ns f (kdN ns i ((nth ns i).cs.length - 1))
def QdP (ns : List Nd) : Nat → Nat → Prop
 | 0,_=>False
 | f + 1,i=>i < ns.length ∧ ((nth ns i).cs.length = 0 ∨ (0 ≤ (nth ns i).cs.getD ((nth ns i).cs.length - 1) 0 ∧ QdP ns f (kdN ns i ((nth ns i).cs.length - 1))))
def Qo (P : List Nat) : Nat:=nth P (P.length - 1)
def QA (ns : List Nd) (P : List Nat) (at' : Nat) : List Nat:=if (nth ns (Qo P)).cs.length = 0 then P else P ++ Qd1 ns ns.length (kdN ns (Qo P) at')
def Qco (ns : List Nd) (P : List Nat) (at' : Nat) : Nat:=if (nth ns (Qo P)).cs.length = 0 then at' else (nth ns (Qo (QA ns P at'))).es.length - 1
def QcF (ns : List Nd) (P : List Nat) (at' : Nat) : List Nd:=if (nth ns (Qo P)).cs.length = 0 then ns else esN ns (Qo P) ((nth ns (Qo P)).es.set at' (nth (nth ns (Qo (QA ns P at'))).es ((nth ns (Qo (QA ns P at'))).es.length - 1)))
def YM (ns : List Nd) (P : List Nat) (at' : Nat) : List Nd:=esN (QcF ns P at') (Qo (QA ns P at')) (Qt (nth (QcF ns P at') (Qo (QA ns P at'))).es (Qco ns P at'))
def Qbo (mo : Int) (ns : List Nd) (i : Nat) : List Nd:=if 0 < i ∧ ((nth ns i).es.length : Int) < mo / 2 then filN mo ns i else ns
def Yw (mo : Int) (ns : List Nd) (P : List Nat) : List Nd:=P.foldl (Qbo mo) ns
def QaM (rm : Int) (ns : List Nd) : List Nd:=
 if (nth ns 0).es.length = 0 ∧ (nth ns 0).cs.length = 1 then
  if ((nth ns (kdN ns 0 0)).es.length : Int) ≤ rm then (ns.set 0 (nth ns (kdN ns 0 0))).set (kdN ns 0 0) ⟨false,[],[]⟩ else ns
 else ns
def ZD (mo rm : Int) (ns : List Nd) (P : List Nat) (at' : Nat) : List Nd:=QbV (QaM rm (Yw mo (YM ns P at') (QA ns P at').reverse))
theorem Qkd (mo : Int) (ns : List Nd) (P : List Nat) (i : Nat) : Yw mo ns (P ++ [i]) = Qbo mo (Yw mo ns P) i:=by
 unfold Yw;rw [List.foldl_append];rfl
def ZF (mo : Int) : List Nd → List Nat → Prop
 | _,[]=>True
 | ns,i :: P=>(i < ns.length ∧ (0 < i → ((nth ns i).es.length : Int) < mo / 2 → FilOk mo ns (Xi (i : Int) ns 0).1 (Xi (i : Int) ns 0).2)) ∧ ZF mo (Qbo mo ns i) P
structure RotOk (rm : Int) (ns : List Nd) : Prop where
 lt : 0 < ns.length
 len : ns.length ≤ 900
 us : (nth ns 0).us = true
 kid : (nth ns 0).cs.length = 1 → 0 < (nth ns 0).cs.getD 0 0 ∧ kdN ns 0 0 < ns.length ∧ (nth ns (kdN ns 0 0)).us = true
structure RemOk (mo rm : Int) (ns : List Nd) (P : List Nat) (at' : Nat) : Prop where
 mo0 : 0 ≤ mo ∧ mo ≤ 1000
 ne : 0 < P.length
 len : P.length ≤ 900
 nl : ns.length ≤ 900
 sm : Sm 900 ns
 lst : Qo P < ns.length
 atk : at' < (nth ns (Qo P)).es.length
 rgt : 0 < (nth ns (Qo P)).cs.length → at' < (nth ns (Qo P)).cs.length ∧ 0 ≤ (nth ns (Qo P)).cs.getD at' 0 ∧ QdP ns ns.length (kdN ns (Qo P) at') ∧ Qo P ≠ Qo (QA ns P at') ∧ 0 < (nth ns (Qo (QA ns P at'))).es.length ∧ Qo (QA ns P at') < ns.length
 qn : 0 < (QA ns P at').length ∧ (QA ns P at').length ≤ 1900
 ql : Qo (QA ns P at') < ns.length
 dl : Qco ns P at' < (nth (QcF ns P at') (Qo (QA ns P at'))).es.length
 sm1 : Sm 900 (QcF ns P at')
 fil : ZF mo (YM ns P at') (QA ns P at').reverse
 rot : RotOk rm (Yw mo (YM ns P at') (QA ns P at').reverse)
abbrev QlR (a : Option Addr) (c : Nat) (P : List Nat) : HA:=.own (.slice a P.length c) 3 1 P.length (P.map fun i : Nat=>Value.int .i64 (i : Int))
theorem QnG (l : List Nat) : (iN l).flatMap inV = l.map fun i : Nat=>Value.int .i64 (i : Int):=by
 induction l with
 | nil=>rfl
 | cons x l ih=>
  rw [iN,List.map_cons,List.flatMap_cons,List.map_cons,← ih];rfl
theorem Qfa (a : Option Addr) (c : Nat) (P : List Nat) : HA.kids a c (iN P) = QlR a c P:=by
 unfold HA.kids;rw [QnG,Qc6]
section
variable {w0 w : World} {M : List Nat} {As A1 A2 A3 : List HA} {a : Option Addr} {c : Nat} {P : List Nat}
theorem HS.of_kids (h : HS w0 M As w) (hp : QG As (.kids a c (iN P)) A1) : HS w0 M (QlR a c P :: A1) w:=by
 rw [← Qfa];exact h.pick hp
theorem HS.pown_some (hn : 0 < P.length) (h : HS w0 M As w) (hp : QG As (QlR a c P) A1) : ∃ g,a = some ⟨g,0,none⟩:=by
 obtain ⟨g,e,_⟩:=HS.own_blk hn hp h;exact ⟨g,e⟩
theorem HS.pown_row (h : HS w0 M As w) (hp : QG As (QlR a c P) A1) : Rw inV 1 w [] a (iN P):=by
 have h1:=h.pick hp;rw [← Qfa] at h1;exact h1.rw_own (l:=iN P) iv1 .here rfl
theorem HS.pown_rd {k g : Nat} (hk : k < P.length) (hg : a = some ⟨g,0,none⟩) (h : HS w0 M As w) (hp : QG As (QlR a c P) A1) : Rd w [] g (0 + k * 1) (.int .i64 ((nth P k : Nat) : Int)):=by
 have h1:=Rw.rd (h.pown_row hp) (i:=k) (by rw [Qc6];exact hk) 0 (.int .i64 ((nth P k : Nat) : Int)) (by rw [QhX hk];rfl);rw [hg] at h1;exact h1
end
section
variable {w0 w : World} {M : List Nat} {As A1 A2 A3 : List HA} {et : Nat} {L : List LNd} {i j gn cap nt' : Nat}
theorem HS.node_rot (hi : i < L.length) (hj : j < L.length) (hne : i ≠ j) (h : HS w0 M As w)
  (hp : QG As (.blk gn nt' (cap * 3) (Qy (Qy (L.flatMap LNd.vals) (j * 3) (LNd.vals (nth L i))) (i * 3) [.bool false,.slice none 0 0,.slice none 0 0])) A1) (hp3 : QG A1 (.star (L.map (Qk et))) A3) :
  ∃ L',(pln L' = ((pln L).set j (nth (pln L) i)).set i ⟨false,[],[]⟩ ∧ L'.length = L.length) ∧ HS w0 M (.blk gn nt' (cap * 3) (L'.flatMap LNd.vals) :: .star (L'.map (Qk et)) :: A3) w:=by
 refine ⟨(L.set j (nth L i)).set i LNd.gone,⟨by rw [QbB,QbB,Qh hi];rfl,by rw [List.length_set,List.length_set]⟩,?_⟩;have e1:=Qas hj (nth L i);have e2:=Qas (l:=L.set j (nth L i)) (k:=i) (by rw [List.length_set];exact hi) LNd.gone;rw [← e2,← e1];have h1:=HS.star_move hi hj hne (nth L i).us (h.pick hp) (.there hp3);have h2:=HS.star_gone (L:=(L.set j (nth L i)).set i (nth L i).non) (i:=i) (by rw [List.length_set,List.length_set];exact hi) h1 .here;rw [List.set_set] at h2;exact h2.perm (List.Perm.swap ..)
end
theorem HS.nd_cells {w0 w : World} {M : List Nat} {As A1 : List HA} {L : List LNd} {i gn cap nt' : Nat} (hi : i < L.length) (h : HS w0 M As w) (hp : QG As (.blk gn nt' (cap * 3) (L.flatMap LNd.vals)) A1) : ∀ j v,(LNd.vals (nth L i))[j]? = some v → Rd w [] gn (i * 3 + j) v:=fun j v hv=>by
 have hj : j < 3:=by
  have:=(List.getElem?_eq_some_iff.1 hv).1;exact this
 exact HS.nd_cell hi h hp j hv hj
theorem Qhz {ns : List Nd} {f i : Nat} (h : (nth ns i).cs.length = 0) : Qd1 ns (f + 1) i = [i]:=if_pos h
theorem QgC {ns : List Nd} {f i : Nat} (h : ¬ (nth ns i).cs.length = 0) : Qd1 ns (f + 1) i = i :: Qd1 ns f (kdN ns i ((nth ns i).cs.length - 1)):=if_neg h
theorem Qfm (E : List Nat) (i : Nat) : Qo (E ++ [i]) = i:=by
 unfold Qo;rw [List.length_append,List.length_singleton,Nat.add_sub_cancel];exact Q3 (by simp)
theorem Qdp {ns : List Nd} {p x : Nat} {P : Nd} (hP : nth ns p = P) (h : 0 ≤ P.cs.getD x 0) : P.cs.getD x 0 = ((kdN ns p x : Nat) : Int):=by
 subst hP;exact (Int.toNat_of_nonneg h).symm
section
variable {ns : List Nd} {P : List Nat} {k : Nat} {I F : Nd} {rm : Int}
theorem QkY (hI : nth ns (Qo P) = I) (h : I.cs.length = 0) : QcF ns P k = ns:=by
 subst hI;exact if_pos h
theorem Qmu (hI : nth ns (Qo P) = I) (hF : nth ns (Qo (QA ns P k)) = F) (h : 0 < I.cs.length) : QcF ns P k = esN ns (Qo P) (I.es.set k (nth F.es (F.es.length - 1))):=by
 subst hI hF;exact if_neg (by omega)
theorem Qlv (hI : nth ns (Qo P) = I) (h : I.cs.length = 0) : Qco ns P k = k:=by
 subst hI;exact if_pos h
theorem QkS (hI : nth ns (Qo P) = I) (hF : nth ns (Qo (QA ns P k)) = F) (h : 0 < I.cs.length) : Qco ns P k = F.es.length - 1:=by
 subst hI hF;exact if_neg (by omega)
theorem Qnc (hI : nth ns 0 = I) (h : I.es.length = 0 ∧ I.cs.length = 1) (hF : nth ns (kdN ns 0 0) = F) (h2 : (F.es.length : Int) ≤ rm) : QaM rm ns = (ns.set 0 (nth ns (kdN ns 0 0))).set (kdN ns 0 0) ⟨false,[],[]⟩:=by
 subst hI hF;unfold QaM;rw [if_pos h,if_pos h2]
theorem QmI (hI : nth ns 0 = I) (h : I.es.length = 0 ∧ I.cs.length = 1) (hF : nth ns (kdN ns 0 0) = F) (h2 : ¬ (F.es.length : Int) ≤ rm) : QaM rm ns = ns:=by
 subst hI hF;unfold QaM;rw [if_pos h,if_neg h2]
theorem QmQ (hI : nth ns 0 = I) (h : ¬ (I.es.length = 0 ∧ I.cs.length = 1)) : QaM rm ns = ns:=by
 subst hI;unfold QaM;rw [if_neg h]
theorem Qmo (h : RotOk rm ns) : (nth (QaM rm ns) 0).us = true:=by
 unfold QaM;split
 ·rename_i h1;split
  ·obtain ⟨h2,h3,h4⟩:=h.kid h1.2
   have hne : kdN ns 0 0 ≠ 0:=by
    unfold kdN;omega
   rw [YO,if_neg (fun e=>hne e.1),YO,if_pos ⟨rfl,h.lt⟩];exact h4
  ·exact h.us
 ·exact h.us
end
theorem QaH {α : Type} [Inhabited α] {l m : List α} (hl : l.length = m.length) (h : ∀ j,j < l.length → nth l j = nth m j) : l = m:=by
 apply List.ext_getElem?;intro j;rcases Nat.lt_or_ge j l.length with hj | hj
 ·rw [Q6 hj,Q6 (by omega),h j hj]
 ·rw [List.getElem?_eq_none hj,List.getElem?_eq_none (by omega)]
def Qdw (a b : List Nd) (k : Nat) : List Nat:=(List.range k).filter fun i=>decide (nth a i ≠ nth b i)
def ZU (a b : List Nd) : List Nat:=Qdw a b (max a.length b.length)
theorem Qom {a b : List Nd} {k : Nat} (h : nth a k = nth b k) : Qdw a b (k + 1) = Qdw a b k:=by
 unfold Qdw;rw [List.range_succ,List.filter_append];simp [h]
theorem Qn5 {a b : List Nd} {k : Nat} (h : nth a k ≠ nth b k) : Qdw a b (k + 1) = Qdw a b k ++ [k]:=by
 unfold Qdw;rw [List.range_succ,List.filter_append];simp [h]
theorem Qne (a b : List Nd) (k : Nat) : (Qdw a b k).length ≤ k:=by
 have:=List.length_filter_le (fun i=>decide (nth a i ≠ nth b i)) (List.range k);rw [List.length_range] at this;exact this
theorem QfH {x y : TEnt} (h1 : (bs x.key).data.toList = (bs y.key).data.toList) (h2 : (bs x.val).data.toList = (bs y.val).data.toList) : x = y:=by
 cases x;cases y;simp [bs] at h1 h2;rw [h1,h2]
theorem Qak (L : List LNd) (k : Nat) : nth (pln L) k = (nth L k).pl:=by
 rcases Nat.lt_or_ge k L.length with h | h
 ·exact Qh h
 ·rw [Yu (by rw [Qc];exact h),Yu h];rfl
theorem Rw.nilR {α : Type} [Inhabited α] {vals : α → List Value} {sz : Nat} {w : World} {M : List Nat} {a : Option Addr} : Rw vals sz w M a ([] : List α):=⟨fun h=>absurd h (Nat.lt_irrefl _)⟩
theorem Nt.esA {w : World} {M : List Nat} {a : Option Addr} {L : List LNd} (h : Nt w M a L) (k : Nat) : Rw TEnt.vals 2 w M (nth L k).ea (nth L k).es:=by
 rcases Nat.lt_or_ge k L.length with hk | hk
 ·exact h.es hk
 ·rw [Yu hk];exact Rw.nilR
theorem Nt.csA {w : World} {M : List Nat} {a : Option Addr} {L : List LNd} (h : Nt w M a L) (k : Nat) : Rw inV 1 w M (nth L k).ca (nth L k).cs:=by
 rcases Nat.lt_or_ge k L.length with hk | hk
 ·exact h.cs hk
 ·rw [Yu hk];exact Rw.nilR
theorem Qrc (n m : Nd) : decide (n = m) = (decide (n.us = m.us) && (decide (n.es = m.es) && decide (n.cs = m.cs))):=by
 cases n;cases m;simp only [Nd.mk.injEq];rw [Bool.decide_and,Bool.decide_and]
theorem Qlj (n m : LNd) : ((n.us == m.us && decide (n.es = m.es)) && decide (n.cs = m.cs)) = decide (n.pl = m.pl):=by
 rw [Qrc,Bool.and_assoc];rfl
theorem keyE_ok {co : Int} {k : List UInt8} (h : XM co k = 0) : QW co k = true:=by
 unfold XM at h;split at h
 ·assumption
 ·cases h
theorem Qo2 {ns : List Nd} (h : Bd ns) : Sm 100000 ns:=fun k=>by
 rcases Nat.lt_or_ge k ns.length with hk | hk
 ·have h1:=h.es k hk;have h2:=h.cs k hk;omega
 ·rw [Yu hk];exact ⟨Nat.zero_le _,Nat.zero_le _⟩
theorem Qqo {co mo rm : Int} {ns : List Nd} {x : TEnt} (h : Qdx co mo rm ns x = 0) : ¬ (Qb co ns x.key).2.2 = true ∧ (Zc co mo rm ns x).length ≤ 120:=by
 unfold Qdx at h;split at h
 ·cases h
 ·rename_i h1;split at h
  ·rename_i h2;exact ⟨h1,h2⟩
  ·cases h
theorem Qbv {α : Type} [Inhabited α] {vals : α → List Value} {sz : Nat} {w : World} {M : List Nat} {a : Option Addr} {l : List α} (h : Rw vals sz w M a l) (i : Nat) : Rw vals sz w M a (l.take i):=
 ⟨fun hn=>by
  rw [List.length_take] at hn;obtain ⟨b,o,rfl,h2⟩:=h.at_ (by omega);refine ⟨b,o,rfl,fun j hj=>?_⟩;rw [List.length_take] at hj;have e : nth (l.take i) j = nth l j:=QdZ (by omega);have h3:=h2 j (by omega);simp only [e];exact h3⟩
theorem Qqa {co : Int} {key : List UInt8} : ∀ {es : List TEnt} {k : Nat},k ≤ es.length → (∀ q,q < k → QO co (nth es q).key key < 0) → ¬ (k < es.length ∧ QO co (nth es k).key key < 0) → plc co es key = k:=by
 intro es k hk h1 h2;have h3:=Qac co key es;rcases Nat.lt_trichotomy (plc co es key) k with h | h | h
 ·exact absurd (h1 _ h) (QfU co key es (by omega))
 ·exact h
 ·exact absurd ⟨by omega,QaI co key es k h⟩ h2
abbrev LNd.fre : LNd:=⟨true,none,0,[],none,0,[]⟩
section
variable {w0 w : World} {M : List Nat} {As A1 A2 A3 : List HA} {et : Nat} {L : List LNd} {i j gn cap nt' : Nat}
theorem HS.node_fre (hi : i < L.length) (h : HS w0 M As w)
  (hp : QG As (.blk gn nt' (cap * 3) (Qy (L.flatMap LNd.vals) (i * 3) [.bool true,.slice none 0 0,.slice none 0 0])) A1) (hp3 : QG A1 (.star (L.map (Qk et))) A3) :
  ∃ L',NdSet L L' i LNd.fre ∧ HS w0 M (.blk gn nt' (cap * 3) (L'.flatMap LNd.vals) :: .star (L'.map (Qk et)) :: A3) w:=by
 refine ⟨_,⟨hi,rfl⟩,?_⟩;rw [← Qas hi];have h1:=(((h.pick hp).node_out hi (.there hp3)).tail.tail.own_nil 3 1).own_nil et 2;exact (HS.node_in hi LNd.fre h1).perm (List.Perm.swap ..)
end
section
variable {w0 w : World} {M : List Nat} {As A1 A2 A3 : List HA} {et : Nat} {L : List LNd} {i gn cap nt' : Nat}
theorem HS.es_setN (hi : i < L.length) {ea : Option Addr} {ec n : Nat} {es : List TEnt} {xs : List Value} (hn : n = es.length) (hx : xs = es.flatMap TEnt.vals) (h : HS w0 M As w) (hp : QG As (.blk gn nt' (cap * 3) (Qy (L.flatMap LNd.vals) (i * 3 + 1) [.slice ea n ec])) A1) (hp2 : QG A1 (.own (.slice ea n ec) et 2 n xs) A2) (hp3 : QG A2 (.star (L.map (Qk et))) A3) :
  ∃ L',NdSet L L' i { nth L i with ea:=ea,ec:=ec,es:=es } ∧ HS w0 M (.blk gn nt' (cap * 3) (L'.flatMap LNd.vals) :: .star (L'.map (Qk et)) :: A3) w:=by
 subst hn hx;exact HS.es_set hi h hp hp2 hp3
theorem HS.cs_setN (hi : i < L.length) {ca : Option Addr} {cc n : Nat} {cs : List Int} {xs : List Value} (hn : n = cs.length) (hx : xs = cs.flatMap inV) (h : HS w0 M As w) (hp : QG As (.blk gn nt' (cap * 3) (Qy (L.flatMap LNd.vals) (i * 3 + 2) [.slice ca n cc])) A1) (hp2 : QG A1 (.own (.slice ca n cc) 3 1 n xs) A2) (hp3 : QG A2 (.star (L.map (Qk et))) A3) :
  ∃ L',NdSet L L' i { nth L i with ca:=ca,cc:=cc,cs:=cs } ∧ HS w0 M (.blk gn nt' (cap * 3) (L'.flatMap LNd.vals) :: .star (L'.map (Qk et)) :: A3) w:=by
 subst hn hx;exact HS.cs_set hi h hp hp2 hp3
end
theorem QaF {w : World} {n m : LNd} (he : n.ca = m.ca ∧ n.cc = m.cc ∧ n.cs = m.cs) (h : Rw inV 1 w [] n.ca n.cs) : Rw inV 1 w [] m.ca m.cs:=by
 rw [← he.1,← he.2.2];exact h
def QaR (ns : List Nd) : Nat → Nat → Nat
 | 0,i=>i
 | f + 1,i=>if i < ns.length then if (nth ns i).us = true then QaR ns f (i + 1) else i else i
def Qcm (ns : List Nd) : Nat:=QaR ns ns.length 1
def Xl (ns : List Nd) : Nat × List Nd:=if Qcm ns < ns.length then (Qcm ns,ns.set (Qcm ns) ⟨true,[],[]⟩) else (ns.length,ns ++ [⟨true,[],[]⟩])
theorem QjV (ns : List Nd) : ∀ f i,i ≤ ns.length → QaR ns f i ≤ ns.length
 | 0,i,h=>h
 | f + 1,i,h=>by
  rw [QaR];split
  ·split
   ·exact QjV ns f (i + 1) (by omega)
   ·exact h
  ·exact h
theorem QfK (ns : List Nd) : ∀ f i,i ≤ QaR ns f i
 | 0,i=>Nat.le_refl _
 | f + 1,i=>by
  rw [QaR];split
  ·split
   ·exact Nat.le_of_succ_le (QfK ns f (i + 1))
   ·exact Nat.le_refl _
  ·exact Nat.le_refl _
theorem Qn0 {ns : List Nd} (h0 : 0 < ns.length) : 1 ≤ (Xl ns).1:=by
 unfold Xl;split
 ·exact QfK ns _ 1
 ·exact h0
theorem QiY (ns : List Nd) : (Xl ns).1 < (Xl ns).2.length:=by
 unfold Xl;split
 ·simpa using ‹_›
 ·simp
theorem QgS (ns : List Nd) : ns.length ≤ (Xl ns).2.length ∧ (Xl ns).2.length ≤ ns.length + 1:=by
 unfold Xl;split
 ·simp
 ·simp
theorem QfN (ns : List Nd) : ∀ f i,QaR ns f i < ns.length → ns.length < i + f → (nth ns (QaR ns f i)).us = false
 | 0,i,h,hf=>by
  rw [QaR] at h;omega
 | f + 1,i,h,hf=>by
  rw [QaR] at h ⊢;split
  ·rename_i h1;rw [if_pos h1] at h;split
   ·rename_i h2;rw [if_pos h2] at h;exact QfN ns f (i + 1) h (by omega)
   ·rename_i h2
    simpa using h2
  ·rename_i h1;rw [if_neg h1] at h;omega
theorem Qod {ns : List Nd} {i : Nat} (hi : i < ns.length) (hu : (nth ns i).us = true) : (Xl ns).1 ≠ i:=by
 unfold Xl;split
 ·rename_i h;intro e;have h2:=QfN ns ns.length 1 h (by omega);rw [show QaR ns ns.length 1 = i from e,hu] at h2;cases h2
 ·simp only [];omega
theorem Qmz {ns : List Nd} {i : Nat} (hi : i < ns.length) (hne : (Xl ns).1 ≠ i) : nth (Xl ns).2 i = nth ns i:=by
 unfold Xl at hne ⊢;split
 ·rename_i h;rw [if_pos h] at hne;rw [YO,if_neg (fun e=>hne e.1)]
 ·apply Q3;simp only [];rw [List.getElem?_append_left hi];exact Q6 hi
def ixR (cs : List Int) (c : Int) : Nat:=if ixB (Y2 cs c) < cs.length then ixB (Y2 cs c) else 0
def splRA (mo : Int) (ns : List Nd) (i : Nat) : List Nd:=
 let F:=(Xl ns).2;let o:=(Xl ns).1;let x:=nth F i
 let n:=esN (esN F o (x.es.drop (QC mo + 1))) i (x.es.take (QC mo))
 if x.cs.length = 0 then n else csN (csN n o (x.cs.drop (QC mo + 1))) i (x.cs.take (QC mo + 1))
def Qge (mo : Int) (ns : List Nd) (p i : Nat) : List Nd:=addP (splRA mo ns i) p (ixR (nth (splRA mo ns i) p).cs (i : Int)) (nth (nth (Xl ns).2 i).es (QC mo)) (Xl ns).1
def Zv (ns : List Nd) : Nat × List Nd:=((Xl ns).1,csN (esN (csN (esN (Xl ns).2 (Xl ns).1 (nth (Xl ns).2 0).es) (Xl ns).1 (nth (Xl ns).2 0).cs) 0 []) 0 [((Xl ns).1 : Int)])
def QaP (mo : Int) (P : List Nat) : Nat → List Nd → List Nd
 | 0,ns=>ns
 | k + 1,ns=>QaP mo P k (if mo < ((nth ns (nth P (k + 1))).es.length : Int) then Qge mo ns (nth P k) (nth P (k + 1)) else ns)
def Qd4 (mo rm : Int) (ns : List Nd) : List Nd:=if rm < ((nth ns 0).es.length : Int) then if mo < ((nth (Zv ns).2 (Zv ns).1).es.length : Int) then Qge mo (Zv ns).2 0 (Zv ns).1 else (Zv ns).2 else ns
def Qnf (co mo rm : Int) (ns : List Nd) (x : TEnt) : List Nd:=
 let P:=(Qb co ns x.key).1;let lf:=Qo P
 Qd4 mo rm (QaP mo P (P.length - 1) (esN ns lf (QI (nth ns lf).es (plc co (nth ns lf).es x.key) x)))
structure SpROk (mo : Int) (ns : List Nd) (p i : Nat) : Prop where
 mo0 : 0 ≤ mo ∧ mo ≤ 1000
 len : ns.length ≤ 900
 sm : Sm 900 ns
 lt : i < ns.length
 us : (nth ns i).us = true
 es : QC mo < (nth ns i).es.length
 cs : (nth ns i).cs.length = 0 ∨ QC mo + 1 ≤ (nth ns i).cs.length
 par : p < ns.length
 parE : ixR (nth (splRA mo ns i) p).cs (i : Int) ≤ (nth (splRA mo ns i) p).es.length
 parC : ixR (nth (splRA mo ns i) p).cs (i : Int) + 1 ≤ (nth (splRA mo ns i) p).cs.length
def QeB (mo : Int) (P : List Nat) : Nat → List Nd → Prop
 | 0,_=>True
 | k + 1,ns=>(nth P (k + 1) < ns.length ∧ (mo < ((nth ns (nth P (k + 1))).es.length : Int) → SpROk mo ns (nth P k) (nth P (k + 1)))) ∧ QeB mo P k (if mo < ((nth ns (nth P (k + 1))).es.length : Int) then Qge mo ns (nth P k) (nth P (k + 1)) else ns)
structure RootROk (mo rm : Int) (ns : List Nd) : Prop where
 lt : 0 < ns.length
 len : ns.length ≤ 900
 us : (nth ns 0).us = true
 spl : rm < ((nth ns 0).es.length : Int) → mo < ((nth (Zv ns).2 (Zv ns).1).es.length : Int) → SpROk mo (Zv ns).2 0 (Zv ns).1
structure InsROk (co mo rm : Int) (ns : List Nd) (x : TEnt) : Prop where
 ne : 0 < (Qb co ns x.key).1.length
 len : (Qb co ns x.key).1.length ≤ 900
 lf : Qo (Qb co ns x.key).1 < ns.length
 grw : QeB mo (Qb co ns x.key).1 ((Qb co ns x.key).1.length - 1) (esN ns (Qo (Qb co ns x.key).1) (QI (nth ns (Qo (Qb co ns x.key).1)).es (plc co (nth ns (Qo (Qb co ns x.key).1)).es x.key) x))
 root : RootROk mo rm (QaP mo (Qb co ns x.key).1 ((Qb co ns x.key).1.length - 1) (esN ns (Qo (Qb co ns x.key).1) (QI (nth ns (Qo (Qb co ns x.key).1)).es (plc co (nth ns (Qo (Qb co ns x.key).1)).es x.key) x)))
theorem Sm.frs {m : Nat} {ns : List Nd} (h : Sm m ns) : Sm m (Xl ns).2:=by
 unfold Xl;split
 ·exact h.set _ _ ⟨Nat.zero_le _,Nat.zero_le _⟩
 ·exact h.app _ ⟨Nat.zero_le _,Nat.zero_le _⟩
theorem Sm.splRA {m : Nat} {ns : List Nd} (h : Sm m ns) (mo : Int) (i : Nat) : Sm m (splRA mo ns i):=by
 have h1:=h.frs;have e1:=(h1 i).1;have e2:=(h1 i).2;have h2:=(h1.es (Xl ns).1 (es:=(nth (Xl ns).2 i).es.drop (QC mo + 1)) (by rw [List.length_drop];omega)).es i (es:=(nth (Xl ns).2 i).es.take (QC mo)) (by rw [List.length_take];omega);unfold Gx.splRA;simp only [];split
 ·exact h2
 ·exact (h2.cs _ (by rw [List.length_drop];omega)).cs _ (by rw [List.length_take];omega)
theorem QnJ {mo : Int} {ns F : List Nd} {i : Nat} {x : Nd} (hF : (Xl ns).2 = F) (hx : nth F i = x) (h : x.cs.length = 0) : splRA mo ns i = esN (esN F (Xl ns).1 (x.es.drop (QC mo + 1))) i (x.es.take (QC mo)):=by
 subst hF hx;exact if_pos h
theorem Qoz {mo : Int} {ns F : List Nd} {i : Nat} {x : Nd} (hF : (Xl ns).2 = F) (hx : nth F i = x) (h : ¬ x.cs.length = 0) : splRA mo ns i = csN (csN (esN (esN F (Xl ns).1 (x.es.drop (QC mo + 1))) i (x.es.take (QC mo))) (Xl ns).1 (x.cs.drop (QC mo + 1))) i (x.cs.take (QC mo + 1)):=by
 subst hF hx;exact if_neg h
def Bal (lo hi : Nat) : Nat → BT → Prop
 | 0,T=>T.ks = [] ∧ lo ≤ T.es.length ∧ T.es.length ≤ hi
 | d + 1,T=>(T.ks.length = T.es.length + 1 ∧ ∀ k ∈ T.ks,Bal lo hi d k) ∧ lo ≤ T.es.length ∧ T.es.length ≤ hi
def Bel (lo hi : Nat) : Nat → BT → Prop
 | 0,T=>T.ks = []
 | d + 1,T=>T.ks.length = T.es.length + 1 ∧ ∀ k ∈ T.ks,Bal lo hi d k
theorem Xu {lo hi d : Nat} {T : BT} : Bal lo hi d T ↔ Bel lo hi d T ∧ lo ≤ T.es.length ∧ T.es.length ≤ hi:=by
 cases d <;> simp only [Bal,Bel]
theorem Bel.cs {lo hi d : Nat} {T : BT} (h : Bel lo hi d T) : T.ks = [] ∨ T.ks.length = T.es.length + 1:=by
 cases d with
 | zero=>exact .inl h
 | succ d=>exact .inr h.1
theorem Bel.leaf {lo hi d : Nat} {T : BT} (h : Bel lo hi d T) (hk : T.ks = []) : d = 0:=by
 cases d with
 | zero=>rfl
 | succ d=>
  have:=h.1;rw [hk] at this;simp at this
def XJ (lo hi rt : Nat) : Nat → List Fr → Prop
 | _,[]=>True
 | d,f :: C=>((∀ k ∈ f.l,Bal lo hi d k) ∧ (∀ k ∈ f.r,Bal lo hi d k)) ∧ f.l.length + f.r.length = f.es.length ∧ ((C = [] → f.es.length ≤ rt) ∧ (C ≠ [] → lo ≤ f.es.length ∧ f.es.length ≤ hi)) ∧ XJ lo hi rt (d + 1) C
theorem QeD {lo hi rt d : Nat} {f : Fr} {C : List Fr} {T : BT} (hC : XJ lo hi rt d (f :: C)) (h : Bal lo hi d T) : Bel lo hi (d + 1) (f.fill T):=by
 refine ⟨?_,fun k hk=>?_⟩
 ·show (f.l ++ T :: f.r).length = f.es.length + 1;have:=hC.2.1;simp only [List.length_append,List.length_cons];omega
 ·rcases List.mem_append.1 hk with hk | hk
  ·exact hC.1.1 k hk
  ·rcases List.mem_cons.1 hk with rfl | hk
   ·exact h
   ·exact hC.1.2 k hk
theorem Qgp {lo hi rt : Nat} : ∀ {C : List Fr} {d : Nat} {T : BT},XJ lo hi rt d C → Bel lo hi d T → (C ≠ [] → lo ≤ T.es.length ∧ T.es.length ≤ hi) → Bel lo hi (d + C.length) (plug C T)
 | [],d,T,_,h,_=>h
 | f :: C,d,T,hC,h,hl=>by
  have h1:=Qgp (C:=C) hC.2.2.2 (QeD hC (Xu.2 ⟨h,hl (by simp)⟩)) fun hne=>hC.2.2.1.2 hne;show Bel lo hi (d + (C.length + 1)) _;rw [show d + (C.length + 1) = d + 1 + C.length by omega];exact h1
theorem Q2 (es : List TEnt) : QF es [] = es:=by cases es <;> rfl
theorem ZA (i : Nat) (es : List TEnt) : (BT.nd i es []).flat = es:=by rw [BT.flat,Q2]
def XL : List TEnt → List BT → List TEnt
 | e :: es,k :: ks=>k.flat ++ e :: XL es ks
 | _,_=>[]
def Zl : List TEnt → List BT → List TEnt
 | e :: es,k :: ks=>e :: (k.flat ++ Zl es ks)
 | _,_=>[]
theorem Qdg : ∀ (es : List TEnt) (T : BT) (r : List BT),r.length = es.length → QF es (T :: r) = T.flat ++ Zl es r
 | [],T,[],_=>by
  rw [QF,Q2];rfl
 | [],T,k :: r,h=>absurd h (by simp)
 | e :: es,T,[],h=>absurd h (by simp)
 | e :: es,T,k :: r,h=>by
  rw [QF,Qdg es k r (by simpa using h)];rfl
theorem YU : ∀ (l : List BT) (es : List TEnt) (T : BT) (r : List BT),l.length + r.length = es.length → QF es (l ++ T :: r) = XL es l ++ (T.flat ++ Zl (es.drop l.length) r)
 | [],es,T,r,h=>by
  have e : XL es [] = []:=by cases es <;> rfl
  rw [e];exact Qdg es T r (by simpa using h)
 | k :: l,[],T,r,h=>absurd h (by simp only [List.length_cons,List.length_nil];omega)
 | k :: l,e :: es,T,r,h=>by
  rw [List.cons_append,QF,YU l es T r (by simp only [List.length_cons] at h;omega),XL,List.length_cons,List.drop_succ_cons];simp only [List.append_assoc,List.cons_append]
theorem QbM : ∀ (a b : List TEnt) (l : List BT),l.length ≤ a.length → XL (a ++ b) l = XL a l
 | a,b,[],_=>by
  have e : ∀ c : List TEnt,XL c [] = []:=fun c=>by cases c <;> rfl
  rw [e,e]
 | [],b,k :: l,h=>absurd h (by simp)
 | x :: a,b,k :: l,h=>by
  rw [List.cons_append,XL,XL,QbM a b l (by simpa using h)]
theorem YC {es : List TEnt} {l : List BT} (h : l.length ≤ es.length) : XL (es.take l.length) l = XL es l:=by
 have:=QbM (es.take l.length) (es.drop l.length) l (by rw [List.length_take];omega);rw [List.take_append_drop] at this;exact this.symm
theorem Qkf {l r : List BT} {es : List TEnt} {A B : BT} {up : TEnt} (h : l.length + r.length = es.length) : QF (QI es l.length up) (l ++ A :: B :: r) = XL es l ++ ((A.flat ++ up :: B.flat) ++ Zl (es.drop l.length) r):=by
 have hl : (es.take l.length).length = l.length:=by rw [List.length_take];omega
 rw [YU l _ A (B :: r) (by rw [YN (by omega),List.length_cons];omega)];unfold QI;rw [QbM _ _ _ (by omega),YC (by omega),List.drop_append,List.drop_of_length_le (by omega : (es.take l.length).length ≤ l.length),hl,Nat.sub_self,List.nil_append,List.drop_zero];show XL es l ++ (A.flat ++ (up :: (B.flat ++ Zl (es.drop l.length) r))) = _;simp only [List.append_assoc,List.cons_append]
theorem QaW : ∀ (m : Nat) (es : List TEnt) (ks : List BT),m < es.length → (ks = [] ∨ ks.length = es.length + 1) → QF (es.take m) (ks.take (m + 1)) ++ nth es m :: QF (es.drop (m + 1)) (ks.drop (m + 1)) = QF es ks
 | m,es,[],h,_=>by
  rw [List.take_nil,List.drop_nil,Q2,Q2,Q2];have e : nth es m = es[m]:=Q3 (List.getElem?_eq_getElem h);rw [e,← List.drop_eq_getElem_cons h,List.take_append_drop]
 | m,[],k :: ks,h,_=>absurd h (by simp)
 | 0,e :: es,k :: ks,h,h2=>by
  rw [List.take_zero,List.take_succ_cons,List.take_zero,QF,Q2,List.drop_succ_cons,List.drop_zero,List.drop_succ_cons,List.drop_zero,QF,List.append_nil];rfl
 | m + 1,e :: es,k :: ks,h,h2=>by
  have hk : ks.length = es.length + 1:=by
   rcases h2 with h2 | h2
   ·cases h2
   ·simpa using h2
  rw [List.take_succ_cons,List.take_succ_cons,QF,List.drop_succ_cons,List.drop_succ_cons,QF];have:=QaW m es ks (by simpa using h) (.inr hk);show k.flat ++ e :: QF (es.take m) (ks.take (m + 1)) ++ nth es m :: QF (es.drop (m + 1)) (ks.drop (m + 1)) = _;rw [← this];simp only [List.append_assoc,List.cons_append]
def ZT : List Fr → List TEnt
 | []=>[]
 | f :: C=>ZT C ++ XL f.es f.l
def ZM : List Fr → List TEnt
 | []=>[]
 | f :: C=>Zl (f.es.drop f.l.length) f.r ++ ZM C
theorem XS {lo hi rt : Nat} : ∀ {C : List Fr} {d : Nat} {T : BT},XJ lo hi rt d C → (plug C T).flat = ZT C ++ (T.flat ++ ZM C)
 | [],d,T,_=>by
  show T.flat = [] ++ (T.flat ++ []);simp
 | f :: C,d,T,hC=>by
  show (plug C (f.fill T)).flat = _;rw [XS (C:=C) hC.2.2.2];show ZT C ++ ((BT.nd f.i f.es (f.l ++ T :: f.r)).flat ++ ZM C) = _;rw [BT.flat,YU f.l f.es T f.r hC.2.1];simp only [ZT,ZM,List.append_assoc]
theorem Zj : ∀ (C : List Fr) (T T' : BT),T.idx = T'.idx → (plug C T).idx = (plug C T').idx
 | [],T,T',h=>h
 | f :: C,T,T',_=>Zj C (f.fill T) (f.fill T') rfl
theorem Qi2 : ∀ (C : List Fr) (T : BT) (h : Nat),C ≠ [] → (plug C T).idx ∈ (Xc C h).map Prod.fst
 | [],T,h,hne=>absurd rfl hne
 | [f],T,h,_=>by
  show f.i ∈ _;simp [Xc,Fr.nodes]
 | f :: g :: C,T,h,_=>by
  have:=Qi2 (g :: C) (f.fill T) f.i (by simp);show (plug (g :: C) (f.fill T)).idx ∈ _;rw [Xc,List.map_append];exact List.mem_append_right _ this
theorem BT.idx_mem (T : BT) : T.idx ∈ T.nodes.map Prod.fst:=by
 cases T with
 | nd i es ks=>
  rw [BT.nodes];exact List.mem_cons_self ..
theorem Qjl {ns : List Nd} {C : List Fr} {T : BT} (h : QS ns (plug C T)) (hC : C ≠ []) : T.idx ≠ (plug C T).idx:=fun e=>by
 have h1:=h.plug.nd;rw [List.map_append] at h1;exact (List.nodup_append.1 h1).2.2 _ (e ▸ Qi2 C T T.idx hC) _ T.idx_mem rfl
theorem QfL {ns : List Nd} {C : List Fr} {i : Nat} {es : List TEnt} {ks : List BT} (h : QS ns (plug C (.nd i es ks))) (es' : List TEnt) : QS (esN ns i es') (plug C (.nd i es' ks)):=by
 refine QS.of_plug ?_;have h1:=h.plug;rw [BT.nodes] at h1 ⊢;have h2:=(h1.perm List.perm_middle).es es';exact h2.perm List.perm_middle.symm
theorem QhN (ns : List Nd) : ∀ f i j,i ≤ j → j < QaR ns f i → (nth ns j).us = true
 | 0,i,j,h,h2=>by
  rw [QaR] at h2;omega
 | f + 1,i,j,h,h2=>by
  rw [QaR] at h2;split at h2
  ·split at h2
   ·rcases Nat.eq_or_lt_of_le h with rfl | h3
    ·assumption
    ·exact QhN ns f (i + 1) j h3 h2
   ·omega
  ·omega
theorem QiA {ns : List Nd} {j : Nat} (h : j < XE ns) (hl : j < ns.length) : (nth ns j).us = true:=by
 have h1:=QeX (l:=ns.map fun n=>!n.us) h;rw [Y4 (d:=default) hl] at h1;show (ns.getD j default).us = true
 simpa using h1
theorem QnR {ns : List Nd} (h0 : 0 < ns.length) (hu : (nth ns 0).us = true) (hb : ∀ i,i < ns.length → (nth ns i).us = false → nth ns i = ⟨false,[],[]⟩) : Xl ns = Q0 ns:=by
 have hle : XE ns ≤ ns.length:=by
  have:=Qiu (ns.map fun n=>!n.us);rw [List.length_map] at this;exact this
 have hfl : Qcm ns ≤ ns.length:=QjV ns _ 1 h0;have hge : 1 ≤ Qcm ns:=QfK ns _ 1
 have e : Qcm ns = XE ns:=by
  rcases Nat.lt_trichotomy (Qcm ns) (XE ns) with h | h | h
  ·have h1:=QfN ns ns.length 1 (by show Qcm ns < _;omega) (by omega);have h2:=QiA (ns:=ns) h (by omega);rw [show QaR ns ns.length 1 = Qcm ns from rfl,h2] at h1;cases h1
  ·exact h
  ·have h1:=Qc0 (ns:=ns) (by omega)
   have h2 : 1 ≤ XE ns:=by
    rcases Nat.eq_zero_or_pos (XE ns) with h3 | h3
    ·rw [h3,hu] at h1;cases h1
    ·exact h3
   have h3:=QhN ns ns.length 1 (XE ns) h2 h;rw [h3] at h1;cases h1
 unfold Xl Q0;rw [e];split
 ·rename_i h;unfold usN;rw [hb _ h (Qc0 h)]
 ·rfl
theorem QS.blank {ns : List Nd} {T : BT} (h : QS ns T) {i : Nat} (hi : i < ns.length) (hu : (nth ns i).us = false) : nth ns i = ⟨false,[],[]⟩:=by
 by_cases hm : i ∈ T.nodes.map Prod.fst
 ·obtain ⟨p,hp,rfl⟩:=List.mem_map.1 hm;have h1:=RepN.at_ (i:=p.1) (x:=p.2) h hp;rw [h1.2,ZN T p hp] at hu;cases hu
 ·exact h.rest i hi hm
theorem QS.root {ns : List Nd} {T : BT} (h : QS ns T) : T.idx < ns.length ∧ nth ns T.idx = ⟨true,T.es,QL T.ks⟩:=QS.at_ (C:=[]) h
theorem QS.frs {ns : List Nd} {T : BT} (h : QS ns T) (h0 : T.idx = 0) : Xl ns = Q0 ns:=by
 have h1:=h.root;rw [h0] at h1;exact QnR h1.1 (by rw [h1.2]) fun i hi hu=>h.blank hi hu
def Qjs (co : Int) (key : List UInt8) (C : List Fr) : Prop:=∀ f ∈ C,f.l.length = plc co f.es key ∧ ¬ fnd co f.es key = true
theorem Zn {α : Type} [Inhabited α] (l : List α) (x : α) (r : List α) : nth (l ++ x :: r) l.length = x:=Q3 (by simp)
theorem QkM {α : Type} (l : List α) (x d : α) (r : List α) : (l ++ x :: r).getD l.length d = x:=by simp
theorem BT.eta (T : BT) : T = .nd T.idx T.es T.ks:=by cases T;rfl
theorem QaY {α : Type} [Inhabited α] {ks : List α} {p : Nat} (h : p < ks.length) : ks = ks.take p ++ nth ks p :: ks.drop (p + 1):=by
 have e : nth ks p = ks[p]:=Q3 (List.getElem?_eq_getElem h);rw [e,← List.drop_eq_getElem_cons h,List.take_append_drop]
theorem desc {co : Int} {ns : List Nd} {key : List UInt8} {lo hi rt : Nat} : ∀ (f d : Nat) (C : List Fr) (T : BT),QS ns (plug C T) → XJ lo hi rt d C → Bel lo hi d T → ((C = [] → T.es.length ≤ rt) ∧ (C ≠ [] → lo ≤ T.es.length ∧ T.es.length ≤ hi)) → d < f →
  ∃ D T' d',plug D T' = T ∧ XJ lo hi rt d' (D ++ C) ∧ Bel lo hi d' T' ∧ ((D ++ C = [] → T'.es.length ≤ rt) ∧ (D ++ C ≠ [] → lo ≤ T'.es.length ∧ T'.es.length ≤ hi)) ∧ d' + D.length = d ∧
   (Zo co ns key f T.idx).1 = (D.map Fr.i).reverse ++ [T'.idx] ∧ (Zo co ns key f T.idx).2 = (plc co T'.es key,fnd co T'.es key) ∧ (fnd co T'.es key = true ∨ T'.ks = []) ∧ Qjs co key D
 | 0,d,C,T,_,_,_,_,h=>absurd h (Nat.not_lt_zero _)
 | f + 1,d,C,T,hR,hC,hB,hb,hd=>by
  have hat:=hR.at_;have hes : (nth ns T.idx).es = T.es:=by rw [hat.2]
  have hcs : (nth ns T.idx).cs = QL T.ks:=by rw [hat.2]
  rw [Zo,hes,hcs,QR]
  by_cases h1 : fnd co T.es key = true ∨ T.ks.length = 0
  ·rw [if_pos h1];exact ⟨[],T,d,rfl,hC,hB,hb,by simp,rfl,rfl,h1.imp id fun h=>List.eq_nil_of_length_eq_zero h,fun f hf=>(nomatch hf)⟩
  ·rw [if_neg h1];have hk : ¬ T.ks.length = 0:=fun h=>h1 (.inr h)
   obtain ⟨d',rfl⟩ : ∃ d',d = d' + 1:=by
    cases d with
    | zero=>exact absurd (show T.ks.length = 0 by rw [show T.ks = [] from hB];rfl) hk
    | succ d'=>exact ⟨d',rfl⟩
   have hp : plc co T.es key < T.ks.length:=by
    have:=Qac co key T.es;have:=hB.1;omega
   have hsp:=QaY hp;generalize hl : T.ks.take (plc co T.es key) = l at hsp;generalize hr : T.ks.drop (plc co T.es key + 1) = r at hsp;generalize hK : nth T.ks (plc co T.es key) = K at hsp;have hll : l.length = plc co T.es key:=by rw [← hl,List.length_take];omega
   have hT : T = Fr.fill ⟨T.idx,T.es,l,r⟩ K:=by
    have:=T.eta;rw [hsp] at this;exact this
   have hbal : ∀ k ∈ T.ks,Bal lo hi d' k:=hB.2;have hBK : Bal lo hi d' K:=hbal K (by rw [hsp];simp)
   have hci : ((QL T.ks).getD (plc co T.es key) 0).toNat = K.idx:=by
    rw [hsp,YK,Yg,← hll,← QR l,QkM];rfl
   rw [hci]
   have hctx : XJ lo hi rt d' (⟨T.idx,T.es,l,r⟩ :: C):=⟨⟨fun k hk=>hbal k (by rw [hsp];simp [hk]),fun k hk=>hbal k (by rw [hsp];simp [hk])⟩,by
    show l.length + r.length = T.es.length;have h9:=hB.1;rw [hsp] at h9;simp only [List.length_append,List.length_cons] at h9;omega,hb,hC⟩
   have hb2:=Xu.1 hBK
   obtain ⟨D,T',d9,e1,e2,e3,e4,e5,e6,e7,e8,e9⟩:=desc f d' (⟨T.idx,T.es,l,r⟩ :: C) K (by
    show QS ns (plug C (Fr.fill _ K));rw [← hT];exact hR) hctx hb2.1 ⟨fun h=>(nomatch h),fun _=>hb2.2⟩ (by omega)
   refine ⟨D ++ [⟨T.idx,T.es,l,r⟩],T',d9,?_,?_,e3,?_,?_,?_,e7,e8,fun g hg=>?_⟩
   ·rw [Qar,e1];exact hT.symm
   ·rw [List.append_assoc];exact e2
   ·rw [List.append_assoc];exact e4
   ·simp only [List.length_append,List.length_singleton];omega
   ·rw [e6];simp
   ·rcases List.mem_append.1 hg with hg | hg
    ·exact e9 g hg
    ·rcases List.mem_singleton.1 hg;exact ⟨hll,fun h=>h1 (.inl h)⟩
theorem QdQ {k : BT} : ∀ {ks : List BT},k ∈ ks → k.nodes.length ≤ (Qz ks).length
 | [],h=>(nomatch h)
 | x :: ks,h=>by
  rw [Qz,List.length_append];rcases List.mem_cons.1 h with rfl | h
  ·omega
  ·have:=QdQ (ks:=ks) h;omega
theorem QeU (T : BT) : T.nodes.length = (Qz T.ks).length + 1:=by
 cases T with
 | nd i es ks=>rw [BT.nodes,List.length_cons];rfl
theorem QeG {lo hi : Nat} : ∀ {d : Nat} {T : BT},Bel lo hi d T → d + 1 ≤ T.nodes.length
 | 0,T,_=>by
  rw [QeU];omega
 | d + 1,T,h=>by
  obtain ⟨k,ks,e⟩ : ∃ k ks,T.ks = k :: ks:=by
   cases hk : T.ks with
   | nil=>
    have:=h.1;rw [hk] at this;simp at this
   | cons k ks=>exact ⟨k,ks,rfl⟩
  have hm : k ∈ T.ks:=by rw [e];exact List.mem_cons_self ..
  have h1:=QeG (Xu.1 (h.2 k hm)).1;have h2:=QdQ hm;rw [QeU];omega
theorem QS.nlen {ns : List Nd} {T : BT} (h : QS ns T) : T.nodes.length ≤ ns.length:=by
 have:=Qd5 ns.length (T.nodes.map Prod.fst) h.nd fun x hx=>by
  obtain ⟨p,hp,rfl⟩:=List.mem_map.1 hx;exact RepN.lt h hp
 rwa [List.length_map] at this
section
variable {ns : List Nd} {mo : Int} {f : Fr} {C : List Fr} {i : Nat} {es : List TEnt} {ks : List BT}
theorem Qin (h : QS ns (plug (f :: C) (.nd i es ks))) : f.i < (splA mo ns i).length ∧ nth (splA mo ns i) f.i = ⟨true,f.es,QL f.l ++ (i : Int) :: QL f.r⟩ ∧ (i : Int) ∉ QL f.l:=by
 have h1:=(QhL (mo:=mo) h).2;have hk:=QeV (mo:=mo) h
 have hm : (f.i,(⟨true,f.es,QL f.l ++ (i : Int) :: QL f.r⟩ : Nd)) ∈ ((i,(⟨true,es.take (QC mo),(QL ks).take (QC mo + 1)⟩ : Nd)) :: ((Q0 ns).1,⟨true,es.drop (QC mo + 1),(QL ks).drop (QC mo + 1)⟩) :: (Xc (f :: C) i ++ Qz ks)):=by
  refine List.mem_cons_of_mem _ (List.mem_cons_of_mem _ (List.mem_append_left _ ?_));rw [Xc,Fr.nodes];exact List.mem_cons_self ..
 have h2:=h1.at_ hm;refine ⟨h2.1,h2.2,fun hi=>?_⟩;have h3:=(List.pairwise_flatMap.1 hk).1 _ hm;exact (List.nodup_append.1 h3).2.2 _ hi _ (List.mem_cons_self ..) rfl
theorem Qjy (h : QS ns (plug (f :: C) (.nd i es ks))) (h0 : (plug (f :: C) (.nd i es ks)).idx = 0) : Qge mo ns f.i i = QaL mo ns i:=by
 have hA : splRA mo ns i = splA mo ns i:=by
  unfold splRA splA;rw [h.frs h0]
 have h1:=Qin (mo:=mo) h;have h2:=(Qah (mo:=mo) h).2.1;unfold Qge QaL;rw [hA,h2,h1.2.1,h.frs h0];simp only [];have h3:=QdC (B:=QL f.r) h1.2.2;unfold ixR;rw [h3,if_pos (by simp),QR]
theorem Qls {lo hi rt d : Nat} (h : QS ns (plug (f :: C) (.nd i es ks))) (hC : XJ lo hi rt d (f :: C)) (hB : Bel lo hi d (.nd i es ks)) (hmo : 0 ≤ mo ∧ mo ≤ 1000) (hlen : ns.length ≤ 900) (hsm : Sm 900 ns) (hes : QC mo < es.length) : SpOk mo ns i:=by
 have hat : i < ns.length ∧ nth ns i = ⟨true,es,QL ks⟩:=QS.at_ (T:=.nd i es ks) h;have h1:=Qin (mo:=mo) h;have h2:=(Qah (mo:=mo) h).2.1;have h3:=hC.2.1;refine ⟨hmo,hlen,hsm,hat.1,by rw [hat.2],by rw [hat.2];exact hes,?_,?_,?_,?_⟩
 ·rw [hat.2];rcases hB.cs with hk | hk
  ·left;show (QL ks).length = 0;rw [show ks = [] from hk];rfl
  ·right;have : ks.length = es.length + 1:=hk;show _ ≤ (QL ks).length;rw [QR];omega
 ·rw [h2];exact h1.1
 ·rw [h2];simp only [];rw [h1.2.1];show f.l.length ≤ f.es.length;omega
 ·rw [h2];simp only [];rw [h1.2.1];simp only [List.length_append,List.length_cons,QR];omega
theorem Qm8 (h : QS ns (plug (f :: C) (.nd i es ks))) (h0 : (plug (f :: C) (.nd i es ks)).idx = 0) (hs : SpOk mo ns i) : SpROk mo ns f.i i:=by
 have hA : splRA mo ns i = splA mo ns i:=by
  unfold splRA splA;rw [h.frs h0]
 have h1:=Qin (mo:=mo) h;have h2:=(Qah (mo:=mo) h).2.1;have h3:=QdC (B:=QL f.r) h1.2.2
 have hx : ixR (nth (splRA mo ns i) f.i).cs (i : Int) = f.l.length:=by
  rw [hA,h1.2.1];unfold ixR;simp only [];rw [h3,if_pos (by simp),QR]
 have hp : f.i < ns.length:=by
  have:=h.plug;exact this.lt (p:=(f.i,⟨true,f.es,QL f.l ++ (i : Int) :: QL f.r⟩)) (List.mem_append_left _ (by rw [Xc,Fr.nodes];exact List.mem_cons_self ..))
 refine ⟨hs.mo0,hs.len,hs.sm,hs.lt,hs.us,hs.es,hs.cs,hp,?_,?_⟩
 ·rw [hx,hA,h1.2.1];have:=hs.parE;rw [h2] at this;simp only [] at this;rw [h1.2.1] at this;exact this
 ·rw [hx,hA,h1.2.1];simp only [List.length_append,List.length_cons,QR];omega
end
def ZB (rt : Nat) (T : BT) : Prop:=T.es = [] → ∀ k,T.ks = [k] → rt < k.es.length
def Qca (rt : Nat) : List Fr → Nat → Prop
 | [],_=>True
 | [f],n=>f.es = [] → rt < n
 | f :: g :: C,_=>Qca rt (g :: C) f.es.length
theorem Qca.mono {rt : Nat} : ∀ {C : List Fr} {n m : Nat},Qca rt C n → n ≤ m → Qca rt C m
 | [],_,_,_,_=>trivial
 | [f],n,m,h,hm=>fun e=>Nat.lt_of_lt_of_le (h e) hm
 | f :: g :: C,_,_,h,_=>h
theorem QdM {lo hi rt : Nat} : ∀ {D : List Fr} {d : Nat} {T : BT},XJ lo hi rt d D → ZB rt (plug D T) → Qca rt D T.es.length
 | [],_,T,_,_=>trivial
 | [f],_,T,hC,h=>fun e=>by
  have h1:=hC.2.1;rw [e] at h1;have hl : f.l = []:=List.eq_nil_of_length_eq_zero (by simp only [List.length_nil] at h1;omega);have hr : f.r = []:=List.eq_nil_of_length_eq_zero (by simp only [List.length_nil] at h1;omega);refine h e T ?_;show f.l ++ T :: f.r = [T];rw [hl,hr];rfl
 | f :: g :: C,d,T,hC,h=>QdM (D:=g :: C) (T:=f.fill T) hC.2.2.2 h
theorem Qct {P A : List Nat} {x : Nat} (h : P.take (A.length + 1) = (x :: A).reverse) : nth P A.length = x ∧ P.take A.length = A.reverse:=by
 rw [List.reverse_cons] at h;constructor
 ·apply Q3
  have h1 : (P.take (A.length + 1))[A.length]? = some x:=by
   rw [h,List.getElem?_append_right (by simp)];simp
  rw [List.getElem?_take] at h1
  simpa using h1
 ·have h1 : (P.take (A.length + 1)).take A.length = A.reverse:=by
   rw [h,List.take_append_of_le_length (by simp),List.take_of_length_le (by simp)]
  rw [List.take_take] at h1;rw [← h1];congr 1;omega
theorem Qmn {mo : Int} {lo hi d i o : Nat} {es : List TEnt} {ks : List BT} (hmo : mo = (hi : Int)) (hlo : lo = hi / 2) (hB : Bel lo hi d (.nd i es ks)) (hl : es.length = hi + 1) :
  Bal lo hi d (.nd i (es.take (QC mo)) (ks.take (QC mo + 1))) ∧ Bal lo hi d (.nd o (es.drop (QC mo + 1)) (ks.drop (QC mo + 1))):=by
 have hm : QC mo = (hi + 1) / 2:=by unfold QC;omega
 rw [Xu,Xu];have e1 : lo ≤ (es.take (QC mo)).length ∧ (es.take (QC mo)).length ≤ hi:=by rw [List.length_take];omega
 have e2 : lo ≤ (es.drop (QC mo + 1)).length ∧ (es.drop (QC mo + 1)).length ≤ hi:=by rw [List.length_drop];omega
 refine ⟨⟨?_,e1⟩,⟨?_,e2⟩⟩
 ·cases d with
  | zero=>
   show ks.take _ = [];rw [show ks = [] from hB,List.take_nil]
  | succ d=>
   have h1 : ks.length = es.length + 1:=hB.1;refine ⟨?_,fun k hk=>hB.2 k (List.mem_of_mem_take hk)⟩;show (ks.take (QC mo + 1)).length = (es.take (QC mo)).length + 1;rw [List.length_take,List.length_take];omega
 ·cases d with
  | zero=>
   show ks.drop _ = [];rw [show ks = [] from hB,List.drop_nil]
  | succ d=>
   have h1 : ks.length = es.length + 1:=hB.1;refine ⟨?_,fun k hk=>hB.2 k (List.mem_of_mem_drop hk)⟩;show (ks.drop (QC mo + 1)).length = (es.drop (QC mo + 1)).length + 1;rw [List.length_drop,List.length_drop];omega
theorem Qfz {mo : Int} {lo hi rt d i o : Nat} {f : Fr} {C : List Fr} {es : List TEnt} {ks : List BT} {up : TEnt} (hmo : mo = (hi : Int)) (hlo : lo = hi / 2) (hC : XJ lo hi rt d (f :: C)) (hB : Bel lo hi d (.nd i es ks)) (hl : es.length = hi + 1) :
  Bel lo hi (d + 1) (.nd f.i (QI f.es f.l.length up) (f.l ++ .nd i (es.take (QC mo)) (ks.take (QC mo + 1)) :: .nd o (es.drop (QC mo + 1)) (ks.drop (QC mo + 1)) :: f.r)):=by
 have h1:=Qmn (o:=o) hmo hlo hB hl;have h2:=hC.2.1;refine ⟨?_,fun k hk=>?_⟩
 ·show (f.l ++ _ :: _ :: f.r).length = (QI f.es f.l.length up).length + 1;rw [YN (by omega)];simp only [List.length_append,List.length_cons];omega
 ·rcases List.mem_append.1 hk with hk | hk
  ·exact hC.1.1 k hk
  ·rcases List.mem_cons.1 hk with rfl | hk
   ·exact h1.1
   ·rcases List.mem_cons.1 hk with rfl | hk
    ·exact h1.2
    ·exact hC.1.2 k hk
theorem Qeh {mo : Int} {lo hi rt d i o : Nat} {f : Fr} {C : List Fr} {es : List TEnt} {ks : List BT} (hC : XJ lo hi rt d (f :: C)) (hB : Bel lo hi d (.nd i es ks)) (hl : QC mo < es.length) :
  (BT.nd f.i (QI f.es f.l.length (nth es (QC mo))) (f.l ++ .nd i (es.take (QC mo)) (ks.take (QC mo + 1)) :: .nd o (es.drop (QC mo + 1)) (ks.drop (QC mo + 1)) :: f.r)).flat = (f.fill (.nd i es ks)).flat:=by
 rw [BT.flat,Qkf hC.2.1,BT.flat,BT.flat,QaW (QC mo) es ks hl hB.cs];show _ = (BT.nd f.i f.es (f.l ++ BT.nd i es ks :: f.r)).flat;rw [BT.flat,YU _ _ _ _ hC.2.1,BT.flat]
def XA (ns : List Nd) : Prop:=(nth ns (ns.length - 1)).us = true
theorem Qnt {ns : List Nd} {i : Nat} {x : Nd} (hx : x.us = (nth ns i).us) (k : Nat) : (nth (ns.set i x) k).us = (nth ns k).us:=by
 rw [YO];split
 ·rename_i h;rw [hx,h.1]
 ·rfl
theorem Qrk (ns : List Nd) (i : Nat) (es : List TEnt) (k : Nat) : (nth (esN ns i es) k).us = (nth ns k).us:=Qnt (x:={ nth ns i with es:=es }) rfl k
theorem Qra (ns : List Nd) (i : Nat) (cs : List Int) (k : Nat) : (nth (csN ns i cs) k).us = (nth ns k).us:=Qnt (x:={ nth ns i with cs:=cs }) rfl k
theorem XA.es {ns : List Nd} (h : XA ns) (i : Nat) (es : List TEnt) : XA (esN ns i es):=by
 unfold XA;rw [XX,Qrk];exact h
theorem XA.cs {ns : List Nd} (h : XA ns) (i : Nat) (cs : List Int) : XA (csN ns i cs):=by
 unfold XA;rw [Zw,Qra];exact h
theorem XA.fre {ns : List Nd} (h : XA ns) : XA (Q0 ns).2:=by
 unfold Q0;split
 ·unfold XA usN;simp only [List.length_set];rw [YO];split
  ·rfl
  ·exact h
 ·unfold XA;simp only [List.length_append,List.length_singleton,Nat.add_sub_cancel];rw [Zn]
theorem XA.spl {ns : List Nd} (h : XA ns) (mo : Int) (i : Nat) : XA (QaL mo ns i):=by
 unfold QaL addP;refine XA.cs (XA.es ?_ _ _) _ _;unfold splA;split
 ·exact (h.fre.es _ _).es _ _
 ·exact (((h.fre.es _ _).es _ _).cs _ _).cs _ _
theorem XA.low {ns : List Nd} (h : XA ns) : XA (XG ns).2:=by
 unfold XG;exact (((h.fre.es _ _).cs _ _).es _ _).cs _ _
structure Grown (mo : Int) (lo hi rt : Nat) (P : List Nat) (m k : Nat) (ns : List Nd) (W : List Nat) (fl : List TEnt) : Prop where
 ok : Qbt mo ns W
 okR : QeB mo P k ns
 same : QaP mo P k ns = XH mo ns W
 tree : ∃ T d,QS (XH mo ns W) T ∧ T.idx = 0 ∧ Bel lo hi d T ∧ T.es.length ≤ rt + 1 ∧ ZB rt T ∧ T.flat = fl
 sm : Sm (m + k) (XH mo ns W)
 len : ns.length ≤ (XH mo ns W).length ∧ (XH mo ns W).length ≤ ns.length + k
 last : XA (XH mo ns W)
theorem QfZ {mo : Int} {lo hi rt : Nat} (hmo : mo = (hi : Int)) (hlo : lo = hi / 2) (hhi : hi ≤ 900) (hrt : rt ≤ hi) (P : List Nat) : ∀ (C : List Fr) (d m : Nat) (ns : List Nd) (T : BT),QS ns (plug C T) → (plug C T).idx = 0 → XJ lo hi rt d C → Bel lo hi d T →
  ((C = [] → T.es.length ≤ rt + 1) ∧ (C ≠ [] → lo ≤ T.es.length ∧ T.es.length ≤ hi + 1)) → Qca rt C T.es.length → (C = [] → ZB rt T) → Sm m ns → m + C.length ≤ 899 → ns.length + C.length ≤ 899 → XA ns → P.take (C.length + 1) = (T.idx :: C.map Fr.i).reverse →
  Grown mo lo hi rt P m C.length ns (T.idx :: C.map Fr.i) (plug C T).flat
 | [],d,m,ns,T,hR,h0,hC,hB,hb,hg,hn,hs,hm,hl,hu,hP=>by
  have h1 : T.idx = 0:=h0;have hat:=QS.at_ (C:=[]) hR
  have e : XH mo ns [T.idx] = ns:=by
   show ZK mo ns T.idx = ns;unfold ZK;rw [if_neg (fun h=>by omega)]
  have hroot : QS ns T:=hR;refine ⟨⟨⟨hat.1,fun h=>by omega⟩,trivial⟩,trivial,e.symm,?_,?_,?_,?_⟩
  ·show ∃ T' d',QS (XH mo ns [T.idx]) T' ∧ _;rw [e];exact ⟨T,d,hroot,h1,hB,hb.1 rfl,hn rfl,rfl⟩
  ·show Sm m (XH mo ns [T.idx]);rw [e];exact hs
  ·show _ ≤ (XH mo ns [T.idx]).length ∧ (XH mo ns [T.idx]).length ≤ _;rw [e];exact ⟨Nat.le_refl _,Nat.le_refl _⟩
  ·show XA (XH mo ns [T.idx]);rw [e];exact hu
 | f :: C,d,m,ns,.nd i es ks,hR,h0,hC,hB,hb,hg,hn,hs,hm,hl,hu,hP=>by
  have hne : i ≠ 0:=by
   have:=Qjl hR (by simp);rw [h0] at this;exact this
  have hat : i < ns.length ∧ nth ns i = ⟨true,es,QL ks⟩:=QS.at_ (T:=.nd i es ks) hR;have hb1 : lo ≤ es.length ∧ es.length ≤ hi + 1:=hb.2 (by simp);have hlen2 : (C.map Fr.i).length = C.length:=by simp
  have hP1:=Qct (A:=f.i :: C.map Fr.i) (x:=i) (by
   rw [List.length_cons,hlen2];exact hP)
  rw [List.length_cons,hlen2] at hP1
  have hP2:=Qct (A:=C.map Fr.i) (x:=f.i) (by
   rw [hlen2];exact hP1.2)
  rw [hlen2] at hP2;have hCl : (f :: C).length = C.length + 1:=rfl;have hf:=hC.2.2.1
  have hgC : ∀ n,f.es.length ≤ n → Qca rt C n:=fun n hle=>by
   cases C with
   | nil=>trivial
   | cons g C'=>exact Qca.mono (show Qca rt (g :: C') f.es.length from hg) hle
  have hlt9 : (nth ns (nth P (C.length + 1))).es.length = es.length:=by rw [hP1.1,hat.2]
  by_cases hbig : es.length ≤ hi
  ·-- it stays as it is
   have e1 : ZK mo ns i = ns:=by
    unfold ZK;rw [if_neg (fun h=>by rw [hat.2] at h;have:=h.2;simp only [] at this;omega)]
   have hno : ¬ mo < ((nth ns (nth P (C.length + 1))).es.length : Int):=by rw [hlt9];omega
   have ih:=QfZ hmo hlo hhi hrt P C (d + 1) m ns (f.fill (.nd i es ks)) hR h0 hC.2.2.2 (QeD hC (Xu.2 ⟨hB,hb1.1,hbig⟩)) ⟨fun h=>Nat.le_succ_of_le (hf.1 h),fun h=>⟨(hf.2 h).1,Nat.le_succ_of_le (hf.2 h).2⟩⟩ (hgC _ (Nat.le_refl _)) (fun h=>by
    subst h;intro e k hk;have h9 : f.l ++ BT.nd i es ks :: f.r = [k]:=hk;cases hfl : f.l with
    | nil=>
     rw [hfl] at h9;have : BT.nd i es ks = k:=(List.cons.inj h9).1;rw [← this];exact hg e
    | cons a b=>
     rw [hfl] at h9;simp at h9) hs (by rw [hCl] at hm;omega) (by rw [hCl] at hl;omega) hu hP1.2
   have eW : XH mo ns (i :: (f :: C).map Fr.i) = XH mo ns ((f.fill (.nd i es ks)).idx :: C.map Fr.i):=by
    show XH mo (ZK mo ns i) _ = _;rw [e1];rfl
   refine ⟨⟨⟨hat.1,fun _ (h : mo < ((nth ns i).es.length : Int))=>by rw [hat.2] at h;simp only [] at h;omega⟩,?_⟩,⟨⟨by rw [hP1.1];exact hat.1,fun h=>absurd h hno⟩,?_⟩,?_,?_,?_,?_,?_⟩
   ·rw [show ZK mo ns (BT.nd i es ks).idx = ns from e1];exact ih.ok
   ·rw [if_neg hno];exact ih.okR
   ·show QaP mo P C.length (if _ then _ else _) = XH mo ns (i :: (f :: C).map Fr.i);rw [if_neg hno,eW];exact ih.same
   ·show ∃ T d,QS (XH mo ns (i :: (f :: C).map Fr.i)) T ∧ _;rw [eW];exact ih.tree
   ·show Sm _ (XH mo ns (i :: (f :: C).map Fr.i));rw [eW];exact ih.sm.mono (by rw [hCl];omega)
   ·show _ ≤ (XH mo ns (i :: (f :: C).map Fr.i)).length ∧ (XH mo ns (i :: (f :: C).map Fr.i)).length ≤ _;rw [eW];have:=ih.len;rw [hCl];omega
   ·show XA (XH mo ns (i :: (f :: C).map Fr.i));rw [eW];exact ih.last
  ·-- it is split
   have hle : es.length = hi + 1:=by omega
   have hmE : QC mo < es.length:=by unfold QC;omega
   have hyes : mo < ((nth ns (nth P (C.length + 1))).es.length : Int):=by rw [hlt9];omega
   have e1 : ZK mo ns i = QaL mo ns i:=by
    unfold ZK;rw [if_pos ⟨by omega,by rw [hat.2];simp only [];omega⟩]
   have hok:=Qls hR hC hB (by omega) (by omega) (hs.mono (by omega)) hmE;have hokR:=Qm8 hR h0 hok;have hsR:=Qjy (mo:=mo) hR h0;have hsp:=(Qah (mo:=mo) hR).2.2;have hsl:=Qcp mo ns i;generalize hup : nth es (QC mo) = up at hsp;have hflat:=Qeh (mo:=mo) (o:=(Q0 ns).1) hC hB hmE;rw [hup] at hflat;have hbl:=Qfz (o:=(Q0 ns).1) (up:=up) hmo hlo hC hB hle;have hil : (QI f.es f.l.length up).length = f.es.length + 1:=YN (by have:=hC.2.1;omega);generalize hT2 : BT.nd f.i (QI f.es f.l.length up) (f.l ++ BT.nd i (es.take (QC mo)) (ks.take (QC mo + 1)) :: BT.nd (Q0 ns).1 (es.drop (QC mo + 1)) (ks.drop (QC mo + 1)) :: f.r) = T2 at hsp hflat hbl;have hT2i : T2.idx = f.i:=by rw [← hT2];rfl
   have hT2e : T2.es.length = f.es.length + 1:=by rw [← hT2];exact hil
   have ih:=QfZ hmo hlo hhi hrt P C (d + 1) (m + 1) (QaL mo ns i) T2 hsp (by
    rw [Zj C T2 (f.fill (.nd i es ks)) hT2i];exact h0) hC.2.2.2 hbl ⟨fun h=>by rw [hT2e];have:=hf.1 h;omega,fun h=>by rw [hT2e];have:=hf.2 h;omega⟩ (hgC _ (by omega)) (fun h e=>by rw [e] at hT2e;simp at hT2e) (hs.spl mo i) (by rw [hCl] at hm;omega) (by rw [hCl] at hl;omega) (hu.spl mo i) (by rw [hT2i];exact hP1.2)
   have eW : XH mo ns (i :: (f :: C).map Fr.i) = XH mo (QaL mo ns i) (T2.idx :: C.map Fr.i):=by
    show XH mo (ZK mo ns i) _ = _;rw [e1,hT2i];rfl
   have hpf : (plug C T2).flat = (plug (f :: C) (.nd i es ks)).flat:=by
    show _ = (plug C (f.fill (.nd i es ks))).flat;rw [XS hC.2.2.2,XS hC.2.2.2,hflat]
   refine ⟨⟨⟨hat.1,fun _ _=>hok⟩,?_⟩,⟨⟨by rw [hP1.1];exact hat.1,fun _=>by rw [hP1.1,hP2.1];exact hokR⟩,?_⟩,?_,?_,?_,?_,?_⟩
   ·rw [show ZK mo ns (BT.nd i es ks).idx = QaL mo ns i from e1];have:=ih.ok;rw [hT2i] at this;exact this
   ·rw [if_pos hyes,hP1.1,hP2.1,hsR];exact ih.okR
   ·show QaP mo P C.length (if _ then _ else _) = XH mo ns (i :: (f :: C).map Fr.i);rw [if_pos hyes,hP1.1,hP2.1,hsR,eW];exact ih.same
   ·show ∃ T d,QS (XH mo ns (i :: (f :: C).map Fr.i)) T ∧ _;rw [eW,← hpf];exact ih.tree
   ·show Sm _ (XH mo ns (i :: (f :: C).map Fr.i));rw [eW];exact ih.sm.mono (by rw [hCl];omega)
   ·show _ ≤ (XH mo ns (i :: (f :: C).map Fr.i)).length ∧ (XH mo ns (i :: (f :: C).map Fr.i)).length ≤ _;rw [eW];have:=ih.len;rw [hCl];omega
   ·show XA (XH mo ns (i :: (f :: C).map Fr.i));rw [eW];exact ih.last
theorem QlB {ns : List Nd} (h : Bd ns) : Sm 1000 ns:=fun k=>by
 rcases Nat.lt_or_ge k ns.length with hk | hk
 ·exact ⟨h.es k hk,h.cs k hk⟩
 ·rw [Yu hk];exact ⟨Nat.zero_le _,Nat.zero_le _⟩
def Qe1 (co : Int) (ns : List Nd) (x : TEnt) : List Nd:=esN ns (Qo (Qb co ns x.key).1) (QI (nth ns (Qo (Qb co ns x.key).1)).es (plc co (nth ns (Qo (Qb co ns x.key).1)).es x.key) x)
theorem QnC {LG L6 L7 L8 : List LNd} {b : Option Addr} {c : Nat} (hL6 : pln L6 = (Xl (pln LG)).2) (hi6 : 0 < L6.length) (ho6 : (Xl (pln LG)).1 < L6.length) (hS7 : NdSet L6 L7 (Xl (pln LG)).1 { nth L6 0 with us:=(nth L6 (Xl (pln LG)).1).us }) (hS8 : NdSet L7 L8 0 ⟨(nth L7 0).us,none,0,[],b,c,[((Xl (pln LG)).1 : Int)]⟩) (hi7 : 0 < L7.length) : pln L8 = (Zv (pln LG)).2:=by
 have e2 : pln L7 = csN (esN (pln L6) (Xl (pln LG)).1 (nth (pln L6) 0).es) (Xl (pln LG)).1 (nth (pln L6) 0).cs:=by
  rw [Qbx (by rw [Qc];exact ho6),hS7.pl,Qh ho6,Qh hi6];rfl
 rw [hS8.pl,Zv,← hL6,← e2,Qbx (by rw [Qc];exact hi7),Qh hi7];rfl
def Srt (co : Int) (l : List TEnt) : Prop:=l.Pairwise fun a b=>QO co a.key b.key < 0
theorem Qc3 {co : Int} {a b : List UInt8} (h : ¬ QO co a b < 0) (h2 : QO co a b ≠ 0) : QO co b a < 0:=by
 have:=X1 co a b;omega
theorem Srt.asc {co : Int} {l : List TEnt} (h : Srt co l) : Asc co l:=fun k hk=>by
 have:=List.pairwise_iff_getElem.1 h k (k + 1) (by omega) hk (by omega);rw [show nth l k = l[k] from Q3 (List.getElem?_eq_getElem (by omega)),show nth l (k + 1) = l[k + 1] from Q3 (List.getElem?_eq_getElem hk)];exact this
theorem Srt.of_asc {co : Int} {l : List TEnt} (h : Asc co l) : Srt co l:=List.pairwise_iff_getElem.2 fun i j hi hj hij=>by
 have:=h.lt hij hj;rw [show nth l i = l[i] from Q3 (List.getElem?_eq_getElem hi),show nth l j = l[j] from Q3 (List.getElem?_eq_getElem hj)] at this;exact this
theorem QaX {co : Int} {key : List UInt8} : ∀ {A l : List TEnt},(∀ x ∈ A,QO co x.key key < 0) → plc co (A ++ l) key = A.length + plc co l key
 | [],l,_=>by simp
 | a :: A,l,h=>by
  rw [List.cons_append,plc,if_pos (h a (List.mem_cons_self ..)),QaX fun x hx=>h x (List.mem_cons_of_mem _ hx),List.length_cons];omega
theorem Qeu {co : Int} {key : List UInt8} : ∀ {l B : List TEnt},(∀ x ∈ B,QO co key x.key < 0) → plc co (l ++ B) key = plc co l key
 | [],[],_=>rfl
 | [],b :: B,h=>by
  have h1:=h b (List.mem_cons_self ..);have h2:=X1 co b.key key;show plc co (b :: B) key = 0;rw [plc,if_neg (by omega)]
 | a :: l,B,h=>by
  rw [List.cons_append,plc,plc,Qeu h]
theorem Qkw {α : Type} {A l B : List α} {p : Nat} {x : α} (hp : p ≤ l.length) : QI (A ++ (l ++ B)) (A.length + p) x = A ++ (QI l p x ++ B):=by
 unfold QI;rw [List.take_length_add_append,List.drop_length_add_append,List.take_append_of_le_length hp,List.drop_append_of_le_length hp];simp only [List.append_assoc,List.cons_append]
def Qiz (co : Int) (l : List TEnt) (key : List UInt8) : Prop:=∃ y ∈ l,QO co y.key key = 0
theorem QcV {co : Int} {key : List UInt8} : ∀ {l : List TEnt},Srt co l → (Qiz co l key ↔ fnd co l key = true)
 | [],_=>by simp [Qiz,fnd]
 | y :: l,h=>by
  have hp:=List.pairwise_cons.1 h;have ih:=QcV (key:=key) hp.2;unfold fnd at ih ⊢;rw [plc]
  by_cases h1 : QO co y.key key < 0
  ·rw [if_pos h1];have e : nth (y :: l) (plc co l key + 1) = nth l (plc co l key):=rfl;rw [e,List.length_cons]
   have hh : Qiz co (y :: l) key ↔ Qiz co l key:=by
    constructor
    ·rintro ⟨z,hz,h2⟩;rcases List.mem_cons.1 hz with rfl | hz
     ·omega
     ·exact ⟨z,hz,h2⟩
    ·rintro ⟨z,hz,h2⟩;exact ⟨z,List.mem_cons_of_mem _ hz,h2⟩
   rw [hh,ih];simp
  ·rw [if_neg h1];have e : nth (y :: l) 0 = y:=rfl;rw [e];simp only [List.length_cons,Nat.zero_lt_succ,decide_true,Bool.true_and,decide_eq_true_eq];constructor
   ·rintro ⟨z,hz,h2⟩;rcases List.mem_cons.1 hz with rfl | hz
    ·exact h2
    ·exfalso;have h3:=hp.1 z hz
     by_cases h4 : QO co y.key key = 0
     ·have h5:=Qax.1 h4;have h6:=Qax.1 h2;have h7:=Qax.2 (h5.trans h6.symm);omega
     ·have h5:=Qc3 h1 h4;have h6:=XU h5 h3;have h7:=X1 co z.key key;omega
   ·intro h2;exact ⟨y,List.mem_cons_self ..,h2⟩
theorem Qjx {co : Int} {x : TEnt} : ∀ {l : List TEnt},Srt co l → ¬ Qiz co l x.key → Srt co (QI l (plc co l x.key) x)
 | [],_,_=>by
  show Srt co [x];simp [Srt]
 | y :: l,h,hn=>by
  have hp:=List.pairwise_cons.1 h;have ih:=Qjx (x:=x) hp.2 fun ⟨z,hz,h2⟩=>hn ⟨z,List.mem_cons_of_mem _ hz,h2⟩;rw [plc]
  by_cases h1 : QO co y.key x.key < 0
  ·rw [if_pos h1];show Srt co (y :: QI l (plc co l x.key) x);refine List.pairwise_cons.2 ⟨fun z hz=>?_,ih⟩;unfold QI at hz;rcases List.mem_append.1 hz with hz | hz
   ·exact hp.1 z (List.mem_of_mem_take hz)
   ·rcases List.mem_cons.1 hz with rfl | hz
    ·exact h1
    ·exact hp.1 z (List.mem_of_mem_drop hz)
  ·rw [if_neg h1];show Srt co (x :: y :: l);have h2:=Qc3 h1 fun h2=>hn ⟨y,List.mem_cons_self ..,h2⟩;refine List.pairwise_cons.2 ⟨fun z hz=>?_,h⟩;rcases List.mem_cons.1 hz with rfl | hz
   ·exact h2
   ·exact XU h2 (hp.1 z hz)
theorem QgP {co : Int} {key : List UInt8} : ∀ {es : List TEnt} {l : List BT},Srt co (XL es l) → l.length ≤ es.length → (∀ j,j < l.length → QO co (nth es j).key key < 0) → ∀ x ∈ XL es l,QO co x.key key < 0
 | es,[],_,_,_,x,hx=>by
  have e : XL es [] = []:=by cases es <;> rfl
  rw [e] at hx;cases hx
 | [],k :: l,_,h,_,x,hx=>absurd h (by simp)
 | e :: es,k :: l,hs,hl,h,x,hx=>by
  rw [XL] at hs hx;have h1:=List.pairwise_append.1 hs;have he : QO co e.key key < 0:=h 0 (by simp);rcases List.mem_append.1 hx with hx | hx
  ·exact XU (h1.2.2 x hx e (List.mem_cons_self ..)) he
  ·rcases List.mem_cons.1 hx with rfl | hx
   ·exact he
   ·exact QgP (List.pairwise_cons.1 h1.2.1).2 (by simpa using hl) (fun j hj=>h (j + 1) (by simpa using hj)) x hx
theorem QfW {co : Int} {key : List UInt8} {lo hi rt : Nat} : ∀ {D : List Fr} {d : Nat},XJ lo hi rt d D → Qjs co key D → Srt co (ZT D) → ∀ x ∈ ZT D,QO co x.key key < 0
 | [],_,_,_,_,x,hx=>(nomatch hx)
 | f :: D,d,hC,hL,hs,x,hx=>by
  rw [ZT] at hs hx;have h1:=List.pairwise_append.1 hs;have hf:=hL f (List.mem_cons_self ..);have hlen:=hC.2.1;rcases List.mem_append.1 hx with hx | hx
  ·exact QfW hC.2.2.2 (fun g hg=>hL g (List.mem_cons_of_mem _ hg)) h1.1 x hx
  ·exact QgP h1.2.1 (by omega) (fun j hj=>QaI co key f.es j (by omega)) x hx
theorem Qgf {co : Int} {key : List UInt8} {lo hi rt : Nat} : ∀ {D : List Fr} {d : Nat},XJ lo hi rt d D → Qjs co key D → Srt co (ZM D) → ∀ x ∈ ZM D,QO co key x.key < 0
 | [],_,_,_,_,x,hx=>(nomatch hx)
 | f :: D,d,hC,hL,hs,x,hx=>by
  rw [ZM] at hs hx;have h1:=List.pairwise_append.1 hs;have hf:=hL f (List.mem_cons_self ..);rcases List.mem_append.1 hx with hx | hx
  ·rcases Nat.lt_or_ge f.l.length f.es.length with h2 | h2
   ·have e : f.es.drop f.l.length = nth f.es f.l.length :: f.es.drop (f.l.length + 1):=by
     rw [List.drop_eq_getElem_cons h2,show nth f.es f.l.length = f.es[f.l.length] from Q3 (List.getElem?_eq_getElem h2)]
    have hgt : QO co key (nth f.es f.l.length).key < 0:=by
     refine Qc3 ?_ fun h3=>?_
     ·rw [hf.1] at h2 ⊢;exact QfU co key f.es h2
     ·refine hf.2 ?_;unfold fnd;rw [← hf.1,decide_eq_true h2,decide_eq_true h3];rfl
    rw [e] at hx h1;cases hr : f.r with
    | nil=>
     rw [hr] at hx;cases hx
    | cons k r=>
     rw [hr] at hx h1;rw [Zl] at hx h1;rcases List.mem_cons.1 hx with rfl | hx
     ·exact hgt
     ·exact XU hgt ((List.pairwise_cons.1 h1.1).1 x hx)
   ·rw [List.drop_of_length_le h2] at hx;cases hx
  ·exact Qgf hC.2.2.2 (fun g hg=>hL g (List.mem_cons_of_mem _ hg)) h1.2.1 x hx
structure Sz (mo rm : Int) (lo hi rt : Nat) : Prop where
 emo : mo = (hi : Int)
 erm : rm = (rt : Int)
 elo : lo = hi / 2
 hi3 : 3 ≤ hi
 hi8 : hi ≤ 8
 lr : lo ≤ rt
 rh : rt ≤ hi
theorem Qdi {mo rm : Int} (h : Yl mo rm = 0) : Sz mo rm (mo.toNat / 2) mo.toNat rm.toNat:=by
 have h1:=YH h;constructor <;> omega
structure VT (co : Int) (lo hi rt d : Nat) (T : BT) : Prop where
 idx : T.idx = 0
 bel : Bel lo hi d T
 root : T.es.length ≤ rt
 gap : ZB rt T
 srt : Srt co T.flat
 ents : ∀ x ∈ T.flat,X7 co x = 0
theorem Qaj {k : BT} {p : Nat × Nd} : ∀ {ks : List BT},p ∈ Qz ks → ∃ k ∈ ks,p ∈ k.nodes
 | [],h=>by
  rw [Qz] at h;cases h
 | x :: ks,h=>by
  rw [Qz] at h;rcases List.mem_append.1 h with h | h
  ·exact ⟨x,List.mem_cons_self ..,h⟩
  ·obtain ⟨k,hk,h2⟩:=Qaj (k:=k) h;exact ⟨k,List.mem_cons_of_mem _ hk,h2⟩
theorem Qg2 {lo hi : Nat} : ∀ {d : Nat} {T : BT},Bel lo hi d T → ∀ {n : Nat},hi ≤ n → T.es.length ≤ n → ∀ p ∈ T.nodes,p.2.es.length ≤ n + 1 ∧ p.2.cs.length ≤ n + 1
 | 0,.nd i es ks,h,n,hn,hl,p,hp=>by
  have e : ks = []:=h;rw [e,BT.nodes,Qz] at hp;rcases List.mem_cons.1 hp with rfl | hp
  ·exact ⟨Nat.le_succ_of_le hl,by show 0 ≤ _;omega⟩
  ·cases hp
 | d + 1,.nd i es ks,h,n,hn,hl,p,hp=>by
  rw [BT.nodes] at hp;have hl' : es.length ≤ n:=hl;have h1 : ks.length = es.length + 1:=h.1;rcases List.mem_cons.1 hp with rfl | hp
  ·refine ⟨Nat.le_succ_of_le hl,?_⟩;show (QL ks).length ≤ _;rw [QR];omega
  ·obtain ⟨k,hk,hp⟩:=Qaj (k:=default) hp;have h2:=Xu.1 (h.2 k hk);exact Qg2 h2.1 hn (by omega) p hp
theorem QS.sm {ns : List Nd} {T : BT} {lo hi d n : Nat} (h : QS ns T) (hB : Bel lo hi d T) (hn : hi ≤ n) (hl : T.es.length ≤ n) : Sm (n + 1) ns:=fun k=>by
 rcases Nat.lt_or_ge k ns.length with hk | hk
 ·by_cases hm : k ∈ T.nodes.map Prod.fst
  ·obtain ⟨p,hp,rfl⟩:=List.mem_map.1 hm;have h1:=RepN.at_ (i:=p.1) (x:=p.2) h hp;rw [h1.2];exact Qg2 hB hn hl p hp
  ·rw [h.rest k hk hm];exact ⟨Nat.zero_le _,Nat.zero_le _⟩
 ·rw [Yu hk];exact ⟨Nat.zero_le _,Nat.zero_le _⟩
theorem Qnh {ns : List Nd} {T : BT} (h : QS ns T) (h0 : T.idx = 0) : Zv ns = XG ns:=by
 have hr:=h.root;rw [h0] at hr;unfold Zv XG;rw [h.frs h0,Qa0 hr.1 (by rw [hr.2])]
structure RootGrown (mo rm : Int) (lo hi rt m : Nat) (ns : List Nd) (fl : List TEnt) : Prop where
 ok : RootOk mo rm ns
 okR : RootROk mo rm ns
 same : Qd4 mo rm ns = Qab mo rm ns
 tree : ∃ T d,QS (Qab mo rm ns) T ∧ T.idx = 0 ∧ Bel lo hi d T ∧ T.es.length ≤ rt ∧ ZB rt T ∧ T.flat = fl
 len : ns.length ≤ (Qab mo rm ns).length ∧ (Qab mo rm ns).length ≤ ns.length + 2
 last : XA (Qab mo rm ns)
theorem Qkx {mo rm : Int} {lo hi rt d m : Nat} {ns : List Nd} {T : BT} (hz : Sz mo rm lo hi rt) (hR : QS ns T) (h0 : T.idx = 0) (hB : Bel lo hi d T) (hb : T.es.length ≤ rt + 1) (hg : ZB rt T) (hs : Sm m ns) (hm : 1 ≤ m ∧ m ≤ 880) (hl : ns.length ≤ 880) (hu : XA ns) : RootGrown mo rm lo hi rt m ns T.flat:=by
 cases T with
 | nd i es ks=>
 have hi0 : i = 0:=h0;subst hi0;have hmo:=hz.emo;have hrm:=hz.erm;have hlo:=hz.elo;have hi3:=hz.hi3;have hi8:=hz.hi8;have hlr:=hz.lr;have hrh:=hz.rh;have hat : 0 < ns.length ∧ nth ns 0 = ⟨true,es,QL ks⟩:=QS.root hR;have hb' : es.length ≤ rt + 1:=hb;have hlow:=Qnh hR h0;have hrl:=(Qos hR).2;have hrl2 : QS (XG ns).2 (plug [⟨0,[],[],[]⟩] (.nd (Q0 ns).1 es ks)):=hrl;have hown : (XG ns).1 < (XG ns).2.length ∧ nth (XG ns).2 (XG ns).1 = ⟨true,es,QL ks⟩:=QS.at_ hrl2;have hC : XJ lo hi rt d [⟨0,[],[],[]⟩]:=⟨⟨fun k hk=>(nomatch hk),fun k hk=>(nomatch hk)⟩,rfl,⟨fun _=>Nat.zero_le _,fun h=>absurd rfl h⟩,trivial⟩;have hll:=Qha ns;have hsl : Sm 900 (XG ns).2:=(hs.low hm.1).mono (by omega);have hspl : QC mo < es.length → SpOk mo (XG ns).2 (XG ns).1:=fun h=>Qls hrl2 hC (show Bel lo hi d (.nd (Q0 ns).1 es ks) by cases d <;> exact hB) (by omega) (by omega) hsl h;have hsplR : SpOk mo (XG ns).2 (XG ns).1 → SpROk mo (XG ns).2 0 (XG ns).1:=fun h=>Qm8 hrl2 rfl h;have hspE : Qge mo (XG ns).2 0 (XG ns).1 = QaL mo (XG ns).2 (XG ns).1:=Qjy (mo:=mo) hrl2 rfl
 have hbig : mo < ((nth (XG ns).2 (XG ns).1).es.length : Int) → QC mo < es.length:=fun h=>by
  rw [hown.2] at h;simp only [] at h;unfold QC;omega
 have hnB : Bel lo hi d (.nd (Q0 ns).1 es ks):=by cases d <;> exact hB
 refine ⟨⟨hat.1,by omega,by rw [hat.2],fun _ h=>hspl (hbig h)⟩,⟨hat.1,by omega,by rw [hat.2],fun _ h=>by rw [hlow] at h ⊢;exact hsplR (hspl (hbig h))⟩,?_,?_,?_,?_⟩
 ·unfold Qd4 Qab;rw [hlow,hspE]
 ·unfold Qab;rw [hat.2,hown.2];simp only []
  by_cases h1 : rm < (es.length : Int)
  ·rw [if_pos h1]
   by_cases h2 : mo < (es.length : Int)
   ·rw [if_pos h2];have hsp:=(Qah (mo:=mo) hrl2).2.2;have hE : QC mo < es.length:=by unfold QC;omega
    have hle : es.length = hi + 1:=by omega
    refine ⟨_,d + 1,hsp,rfl,Qfz hmo hlo hC hnB hle,?_,fun e=>?_,?_⟩
    ·show (QI ([] : List TEnt) 0 _).length ≤ rt;rw [YN (Nat.zero_le _)];simp only [List.length_nil];omega
    ·exfalso;have e2 : (QI ([] : List TEnt) 0 (nth es (QC mo))).length = 0:=congrArg List.length e;rw [YN (Nat.zero_le _)] at e2;simp at e2
    ·have hf:=Qeh (mo:=mo) (o:=(Q0 (XG ns).2).1) hC hnB hE;refine hf.trans ?_;show (BT.nd 0 [] [BT.nd (Q0 ns).1 es ks]).flat = _;rw [BT.flat,QF,QF,List.append_nil,BT.flat,BT.flat]
   ·rw [if_neg h2];refine ⟨_,d + 1,hrl,rfl,⟨rfl,fun k hk=>?_⟩,Nat.zero_le _,fun _ k hk=>?_,?_⟩
    ·rcases List.mem_singleton.1 hk;exact Xu.2 ⟨hnB,by show lo ≤ es.length ∧ es.length ≤ hi;omega⟩
    ·have : BT.nd (Q0 ns).1 es ks = k:=(List.cons.inj hk).1;rw [← this];show rt < es.length;omega
    ·rw [BT.flat,QF,QF,List.append_nil,BT.flat,BT.flat]
  ·rw [if_neg h1];exact ⟨_,d,hR,rfl,hB,by show es.length ≤ rt;omega,hg,rfl⟩
 ·unfold Qab;split
  ·split
   ·have:=Qcp mo (XG ns).2 (XG ns).1;omega
   ·omega
  ·omega
 ·unfold Qab;split
  ·split
   ·exact hu.low.spl _ _
   ·exact hu.low
  ·exact hu
theorem QcT {co : Int} {lo hi rt d : Nat} {ns : List Nd} {T : BT} (hR : QS ns T) (hV : VT co lo hi rt d T) (key : List UInt8) : ∃ D T' d',plug D T' = T ∧ XJ lo hi rt d' D ∧ Bel lo hi d' T' ∧ ((D = [] → T'.es.length ≤ rt) ∧ (D ≠ [] → lo ≤ T'.es.length ∧ T'.es.length ≤ hi)) ∧ d' + D.length = d ∧ d < ns.length ∧
  (Qb co ns key).1 = (D.map Fr.i).reverse ++ [T'.idx] ∧ (Qb co ns key).2 = (plc co T'.es key,fnd co T'.es key) ∧ (fnd co T'.es key = true ∨ T'.ks = []) ∧ Qjs co key D:=by
 have h1:=QeG hV.bel;have h2:=hR.nlen;obtain ⟨D,T',d',e1,e2,e3,e4,e5,e6,e7,e8,e9⟩:=desc (key:=key) (rt:=rt) (co:=co) ns.length d [] T hR trivial hV.bel ⟨fun _=>hV.root,fun h=>absurd rfl h⟩ (by omega);rw [hV.idx] at e6 e7;simp only [List.append_nil] at e2 e4;exact ⟨D,T',d',e1,e2,e3,e4,e5,by omega,e6,e7,e8,e9⟩
theorem QcU (A : List Nat) (i : Nat) : Qo (A ++ [i]) = i:=by
 unfold Qo;rw [List.length_append,List.length_singleton,Nat.add_sub_cancel];exact Zn A i []
structure Inserted (co mo rm : Int) (lo hi rt : Nat) (ns : List Nd) (x : TEnt) (fl : List TEnt) : Prop where
 ok : InsOk co mo rm ns x
 okR : InsROk co mo rm ns x
 same : Qnf co mo rm ns x = Zc co mo rm ns x
 tree : ∃ T d,QS (Zc co mo rm ns x) T ∧ VT co lo hi rt d T ∧ T.flat = QI fl (plc co fl x.key) x
 len : ns.length ≤ (Zc co mo rm ns x).length ∧ (Zc co mo rm ns x).length ≤ 2 * ns.length + 2
 last : XA (Zc co mo rm ns x)
theorem Qa1 : ∀ (es : List TEnt) (ks : List BT),es.Sublist (QF es ks)
 | es,[]=>by rw [Q2];exact List.Sublist.refl _
 | [],k :: ks=>List.nil_sublist _
 | e :: es,k :: ks=>by
  rw [QF];exact ((Qa1 es ks).cons_cons e).trans (List.sublist_append_right _ _)
theorem QhO {co : Int} {lo hi rt d : Nat} {ns : List Nd} {T : BT} (hR : QS ns T) (hV : VT co lo hi rt d T) (key : List UInt8) : (Qb co ns key).2.2 = true ↔ Qiz co T.flat key:=by
 obtain ⟨D,T',d',e1,e2,e3,e4,e5,e6,e7,e8,e9,e10⟩:=QcT hR hV key;have hfl : T.flat = ZT D ++ (T'.flat ++ ZM D):=by rw [← e1];exact XS e2
 have hs:=hV.srt;rw [hfl] at hs;have h1:=List.pairwise_append.1 hs;have h2:=List.pairwise_append.1 h1.2.1;rw [e8,hfl];simp only [];cases T' with
 | nd i es ks=>
 constructor
 ·intro h;have hsub:=Qa1 es ks;have hses : Srt co es:=h2.1.sublist (by rw [BT.flat];exact hsub);obtain ⟨y,hy,hc⟩:=(QcV hses).2 h;exact ⟨y,List.mem_append_right _ (List.mem_append_left _ (by rw [BT.flat];exact hsub.subset hy)),hc⟩
 ·intro h;rcases e9 with h9 | h9
  ·exact h9
  ·have hk : ks = []:=h9;subst hk;obtain ⟨y,hy,hc⟩:=h;rw [ZA] at hy h2;refine (QcV (show Srt co es from h2.1)).1 ?_;rcases List.mem_append.1 hy with hy | hy
   ·have:=QfW e2 e10 h1.1 y hy;omega
   ·rcases List.mem_append.1 hy with hy | hy
    ·exact ⟨y,hy,hc⟩
    ·have:=Qgf e2 e10 h2.2.1 y hy;have:=X1 co y.key key;omega
theorem Qn9 {co mo rm : Int} {lo hi rt d : Nat} {ns : List Nd} {T : BT} {x : TEnt} (hz : Sz mo rm lo hi rt) (hR : QS ns T) (hV : VT co lo hi rt d T) (hl : ns.length ≤ 400) (hu : XA ns) (hx : X7 co x = 0) (hnf : ¬ (Qb co ns x.key).2.2 = true) : Inserted co mo rm lo hi rt ns x T.flat:=by
 have hnk : ¬ Qiz co T.flat x.key:=fun h=>hnf ((QhO hR hV x.key).2 h);have hsmT:=hR.sm hV.bel (Nat.le_refl hi) (Nat.le_trans hV.root hz.rh);obtain ⟨D,T',d',e1,e2,e3,e4,e5,e6,e7,e8,e9,e10⟩:=QcT hR hV x.key;rw [e8] at hnf;have hks : T'.ks = []:=e9.resolve_left hnf;cases T' with
 | nd i es ks=>
 have hk0 : ks = []:=hks;subst hk0;have hi8:=hz.hi8;have hi3:=hz.hi3;have hrh:=hz.rh;have hR1 : QS ns (plug D (.nd i es [])):=by rw [e1];exact hR
 have hat : i < ns.length ∧ nth ns i = ⟨true,es,[]⟩:=QS.at_ hR1;have hfl : T.flat = ZT D ++ (es ++ ZM D):=by rw [← e1,XS e2,ZA]
 have hsr:=hV.srt;rw [hfl] at hsr;have hs1:=List.pairwise_append.1 hsr;have hs2:=List.pairwise_append.1 hs1.2.1;have hple:=Qac co x.key es
 have hb4 : es.length ≤ hi:=by
  by_cases hD : D = []
  ·have : es.length ≤ rt:=e4.1 hD;omega
  ·exact (e4.2 hD).2
 have hlf : Qo (Qb co ns x.key).1 = i:=by rw [e7];exact QcU _ _
 have hlf2 : YL co ns x.key = i:=hlf;have hpl : (Qb co ns x.key).2.1 = plc co es x.key:=by rw [e8];rfl
 have hinsB : Qb8 co ns x = esN ns i (QI es (plc co es x.key) x):=by
  unfold Qb8;rw [hlf2,hpl,hat.2]
 have hPl : (Qb co ns x.key).1.length = D.length + 1:=by rw [e7];simp
 have hPr : (Qb co ns x.key).1.reverse = i :: D.map Fr.i:=by
  rw [e7];simp;rfl
 have hidx : (plug D (.nd i (QI es (plc co es x.key) x) [])).idx = 0:=by
  rw [Zj D (.nd i (QI es (plc co es x.key) x) []) (.nd i es []) rfl,e1];exact hV.idx
 have hgc : Qca rt D es.length:=QdM (T:=.nd i es []) e2 (by rw [e1];exact hV.gap);have hil : (QI es (plc co es x.key) x).length = es.length + 1:=YN hple
 have hG:=QfZ (lo:=lo) (hi:=hi) (rt:=rt) hz.emo hz.elo (by omega) hz.rh (Qb co ns x.key).1 D d' (hi + 2) (esN ns i (QI es (plc co es x.key) x)) (.nd i (QI es (plc co es x.key) x) []) (QfL hR1 _) hidx e2 (show Bel lo hi d' (.nd i _ []) by
   have:=e3.leaf rfl;subst this
   rfl) ⟨fun h=>by show (QI es _ x).length ≤ _;rw [hil];have:=e4.1 h;exact Nat.succ_le_succ this,fun h=>by show lo ≤ (QI es _ x).length ∧ (QI es _ x).length ≤ _;rw [hil];have h9:=e4.2 h;exact ⟨Nat.le_succ_of_le h9.1,Nat.succ_le_succ h9.2⟩⟩ (hgc.mono (by show es.length ≤ (QI es _ x).length;omega)) (fun _ e=>by
    intro k hk;cases hk) ((hsmT.mono (by omega)).es i (by rw [hil];omega)) (by omega) (by rw [XX];omega) (hu.es _ _) (by
    show (Qb co ns x.key).1.take (D.length + 1) = (i :: D.map Fr.i).reverse;rw [← hPl,List.take_length,← hPr,List.reverse_reverse])
 have hfl2 : (plug D (.nd i (QI es (plc co es x.key) x) [])).flat = QI T.flat (plc co T.flat x.key) x:=by
  rw [XS e2,ZA,hfl,QaX (QfW e2 e10 hs1.1),Qeu (Qgf e2 e10 hs2.2.1),Qkw hple]
 rw [hfl2] at hG;have hsrt:=Qjx (x:=x) hV.srt hnk;obtain ⟨T1,d1,g1,g2,g3,g4,g5,g6⟩:=hG.tree;have hglen:=hG.len;rw [XX] at hglen;have hRt:=Qkx hz g1 g2 g3 g4 g5 hG.sm (by omega) (by omega) hG.last;rw [g6] at hRt
 have hiT : Zc co mo rm ns x = Qab mo rm (XH mo (esN ns i (QI es (plc co es x.key) x)) (i :: D.map Fr.i)):=by
  unfold Zc;rw [if_neg (by rw [e8];exact hnf),hinsB,hPr];rfl
 have hesR : esN ns (Qo (Qb co ns x.key).1) (QI (nth ns (Qo (Qb co ns x.key).1)).es (plc co (nth ns (Qo (Qb co ns x.key).1)).es x.key) x) = esN ns i (QI es (plc co es x.key) x):=by
  rw [hlf,hat.2]
 have hsub : (Qb co ns x.key).1.length - 1 = D.length:=by omega
 refine ⟨⟨by omega,by omega,by rw [hlf2];exact hat.1,by rw [hlf2,hat.2];show es.length ≤ 900;omega,by rw [hlf2,hat.2,hpl];exact hple,by rw [hinsB,hPr];exact hG.ok,by rw [hinsB,hPr];exact hRt.ok⟩,⟨by omega,by omega,by rw [hlf];exact hat.1,by rw [hesR,hsub];exact hG.okR,by rw [hesR,hsub,hG.same];exact hRt.okR⟩,?_,?_,?_,?_⟩
 ·unfold Qnf;simp only [];rw [hesR,hsub,hG.same,hiT];exact hRt.same
 ·rw [hiT];obtain ⟨T2,d2,t1,t2,t3,t4,t5,t6⟩:=hRt.tree;refine ⟨T2,d2,t1,⟨t2,t3,t4,t5,by rw [t6];exact hsrt,fun y hy=>?_⟩,t6⟩;rw [t6] at hy;unfold QI at hy;rcases List.mem_append.1 hy with hy | hy
  ·exact hV.ents y (List.mem_of_mem_take hy)
  ·rcases List.mem_cons.1 hy with rfl | hy
   ·exact hx
   ·exact hV.ents y (List.mem_of_mem_drop hy)
 ·rw [hiT];have h9 : ns.length ≤ (XH mo (esN ns i (QI es (plc co es x.key) x)) (i :: D.map Fr.i)).length ∧ (XH mo (esN ns i (QI es (plc co es x.key) x)) (i :: D.map Fr.i)).length ≤ ns.length + D.length:=hglen;have h8:=hRt.len;simp only [BT.idx] at h8;omega
 ·rw [hiT];exact hRt.last
end Gx
