/- Contracts of the program's functions, proved by walking them with the rules of the Gx texts; without conditions beyond those that each contract names. -/
import Derived.WalkKit
import Derived.Deep.Draws
import Derived.TacticsIn
import Derived.OrdersIn
import Derived.RangeFuncLeaves
import Derived.Lib.Strings
import Derived.Laws.BytesArg
import Derived.Laws.IdiomStrings
import Derived.Deep.Quiet
import Derived.ProofKit
import Derived.OpenShut
import Derived.Laws.StructEq
import Derived.ChangeKeysEq
import Derived.Laws.Externs
import Derived.Lib.Overlaps
import Derived.Carry
import Derived.Laws.Small
import Derived.Lib.Bytealg
import Derived.Lib.Builder
import Derived.Laws.Pointers
import Derived.RangeFuncRecord
import Derived.Test.YtpkhkcchibbhmaaGreatDoorProg
import Derived.KernelRfl
import Derived.SizedLaws
import Derived.ChangeSame
import Derived.Handed
import Derived.Test.YtpkhkcchibbhmaaGreatDoorTie
import Derived.Test.YtpkhkcchibbhmaaGreatDoorCards
import Derived.SevenTiedAt
import Derived.LaidMore
import Derived.Lay
import Derived.Stop.Joined
import Derived.Test.YtpkhkcchibbhmaaGreatDoorP0
set_option linter.unusedSimpArgs false
set_option linter.unusedVariables false
set_option linter.unusedSectionVars false
set_option linter.unnecessarySimpa false
namespace Gx
open Go Go.RowKit
structure TEnt where
 key : List UInt8
 val : List UInt8
deriving DecidableEq,Inhabited
structure Nd where
 us : Bool
 es : List TEnt
 cs : List Int
deriving DecidableEq,Inhabited
structure Tre where
 co : Int
 mo : Int
 rm : Int
 ns : List Nd
deriving DecidableEq,Inhabited
structure LNd where
 us : Bool
 ea : Option Addr
 ec : Nat
 es : List TEnt
 ca : Option Addr
 cc : Nat
 cs : List Int
deriving Inhabited
def LNd.pl (n : LNd) : Nd:=⟨n.us,n.es,n.cs⟩
abbrev pln (L : List LNd) : List Nd:=L.map LNd.pl
def TEnt.vals (x : TEnt) : List Value:=[.string (bs x.key),.string (bs x.val)]
def inV (x : Int) : List Value:=[.int .i64 x]
def LNd.vals (n : LNd) : List Value:=[.bool n.us,.slice n.ea n.es.length n.ec,.slice n.ca n.cs.length n.cc]
theorem ev2 (x : TEnt) : x.vals.length = 2:=rfl
theorem iv1 (x : Int) : (inV x).length = 1:=rfl
theorem nv3 (n : LNd) : n.vals.length = 3:=rfl
theorem ev1 (x : TEnt) : ∀ u ∈ x.vals,u.oneCell' = true:=by
 intro u hu;simp only [TEnt.vals,List.mem_cons,List.mem_nil_iff,or_false] at hu;rcases hu with rfl | rfl <;> rfl
theorem Qrv (x : Int) : ∀ u ∈ inV x,u.oneCell' = true:=by
 intro u hu;simp only [inV,List.mem_cons,List.mem_nil_iff,or_false] at hu;subst hu;rfl
theorem nv1 (n : LNd) : ∀ u ∈ n.vals,u.oneCell' = true:=by
 intro u hu;simp only [LNd.vals,List.mem_cons,List.mem_nil_iff,or_false] at hu;rcases hu with rfl | rfl | rfl <;> rfl
def Nt (w : World) (M : List Nat) (a : Option Addr) (L : List LNd) : Prop:=Rw LNd.vals 3 w M a L ∧ ∀ n ∈ L,Rw TEnt.vals 2 w M n.ea n.es ∧ Rw inV 1 w M n.ca n.cs
section
variable {w w' : World} {M M' : List Nat} {As : List HA} {a : Option Addr} {L : List LNd}
theorem Nt.later (h : Nt w M a L) (hs : HS w M As w') : Nt w' [] a L:=⟨Rw.later h.1 hs,fun n hn=>⟨(h.2 n hn).1.later hs,(h.2 n hn).2.later hs⟩⟩
theorem Nt.keep (h : Nt w M a L) (hs : HS w M As w') : Nt w' (fps As) a L:=⟨Rw.keep h.1 hs,fun n hn=>⟨(h.2 n hn).1.keep hs,(h.2 n hn).2.keep hs⟩⟩
theorem Nt.mono (h : Nt w M a L) (hM : ∀ b ∈ M',b ∈ M) : Nt w M' a L:=⟨Rw.mono h.1 hM,fun n hn=>⟨(h.2 n hn).1.mono hM,(h.2 n hn).2.mono hM⟩⟩
theorem Nt.es (h : Nt w M a L) {k : Nat} (hk : k < L.length) : Rw TEnt.vals 2 w M (nth L k).ea (nth L k).es:=(h.2 _ (QC hk)).1
theorem Nt.cs (h : Nt w M a L) {k : Nat} (hk : k < L.length) : Rw inV 1 w M (nth L k).ca (nth L k).cs:=(h.2 _ (QC hk)).2
end
def HA.ents (et : Nat) (a : Option Addr) (cap : Nat) (l : List TEnt) : HA:=.own (.slice a l.length cap) et 2 l.length (l.flatMap TEnt.vals)
def HA.kids (a : Option Addr) (cap : Nat) (l : List Int) : HA:=.own (.slice a l.length cap) 3 1 l.length (l.flatMap inV)
def Qjz (et : Nat) (n : LNd) : HA:=.star [.ents et n.ea n.ec n.es,.kids n.ca n.cc n.cs]
def HA.nodes (et nt : Nat) (a : Option Addr) (cap : Nat) (L : List LNd) : HA:=.row nt 3 LNd.vals (Qjz et) a cap L
section
variable {w0 w : World} {M : List Nat} {As As' : List HA} {a : Option Addr} {cap et nt' : Nat} {L : List LNd}
theorem HS.nt (h : HS w0 M As w) (hp : QP As (.nodes et nt' a cap L) As') : Nt w [] a L:=by
 have h1:=HS.row_open (h.pick hp);refine ⟨h1.rw_own nv3 .here rfl,fun n hn=>?_⟩;obtain ⟨i,hi,e⟩:=List.getElem_of_mem hn;have e2 : nth L i = n:=Zk (by rw [List.getElem?_eq_getElem hi,e]);have h2:=h1.tail.sub_open hi;rw [e2] at h2;have h3:=HS.star_open h2;exact ⟨h3.rw_own ev2 .here rfl,h3.rw_own iv1 (.there .here) rfl⟩
end
def QbG : List UInt8 → List UInt8 → Int
 | [],[]=>0
 | [],_ :: _=>-1
 | _ :: _,[]=>1
 | a :: x,b :: y=>if a < b then -1 else if b < a then 1 else QbG x y
def QbL (c : UInt8) : UInt8:=if 97 ≤ c ∧ c ≤ 122 then c - 32 else c
def X4 (a b : Int) : Int:=if a < b then -1 else if b < a then 1 else 0
def Xm (co : Int) (a b : List UInt8) : Int:=
 if co = 2 then X4 (at4 a 0) (at4 b 0)
 else if co = 3 then if X4 (at4 a 0) (at4 b 0) ≠ 0 then X4 (at4 a 0) (at4 b 0) else X4 (at4 a 4) (at4 b 4)
 else if co = 1 then QbG (a.map QbL) (b.map QbL) else QbG a b
def QeB (s : List UInt8) (p : Nat) : Bool:=decide (at4 s p ≤ 2147483647)
def Xa (co : Int) (k : List UInt8) : Bool:=
 if co = 0 then decide (1 ≤ k.length ∧ k.length ≤ 40)
 else if co = 1 then decide (1 ≤ k.length ∧ k.length ≤ 32)
 else if co = 2 then decide (k.length = 4) && QeB k 0
 else decide (k.length = 8) && (QeB k 0 && QeB k 4)
def Qas (co : Int) (k : List UInt8) : Int:=if Xa co k then 0 else 3
def YS (co : Int) (x : TEnt) : Int:=if Qas co x.key = 0 then if x.val.length ≤ 64 then 0 else 8 else 3
def QB (co : Int) : Int:=if 0 ≤ co ∧ co ≤ 3 then 0 else 15
def Yn (mo rm : Int) : Int:=if (3 ≤ mo ∧ mo ≤ 8) ∧ (mo / 2 ≤ rm ∧ rm ≤ mo) then 0 else 2
def Qvs (s : List UInt8) (p : Nat) : List UInt8:=[s.getD (p + 3) 0,s.getD (p + 2) 0,s.getD (p + 1) 0,s.getD p 0]
def imgK (co : Int) (k : List UInt8) : List UInt8:=if co = 2 then Qvs k 0 else if co = 3 then Qvs k 0 ++ Qvs k 4 else if co = 1 then k.map QbL else k
def Asc (co : Int) (es : List TEnt) : Prop:=∀ k,k + 1 < es.length → Xm co (nth es k).key (nth es (k + 1)).key < 0
def cmpsK (co : Int) (es : List TEnt) (key : List UInt8) : List Int:=es.map fun x=>Xm co x.key key
def plc (co : Int) : List TEnt → List UInt8 → Nat
 | [],_=>0
 | x :: es,key=>if Xm co x.key key < 0 then plc co es key + 1 else 0
def fnd (co : Int) (es : List TEnt) (key : List UInt8) : Bool:=decide (plc co es key < es.length) && decide (Xm co (nth es (plc co es key)).key key = 0)
def QaW (co : Int) (es : List TEnt) (k : Nat) : Int:=if k = 0 ∨ Xm co (nth es (k - 1)).key (nth es k).key < 0 then 0 else 9
def QaC (co : Int) (es : List TEnt) : Int:=(XM ((List.range es.length).map (QaW co es)) 0).2
theorem QpN {co : Int} {es : List TEnt} (h : QaC co es = 0) : Asc co es:=fun k hk=>by
 unfold QaC at h;have h1:=Qir.1 h (QaW co es (k + 1)) (List.mem_map.2 ⟨k + 1,List.mem_range.2 hk,rfl⟩);unfold QaW at h1;split at h1
 ·rename_i h2;rcases h2 with h2 | h2
  ·cases h2
  ·exact h2
 ·exact absurd h1 (by decide)
def XW (ns : List Nd) : List Int → List Int → Int × List Int
 | [],seen=>(0,seen)
 | c :: cs,seen=>if (1 ≤ c ∧ c ≤ (ns.length : Int) - 1) ∧ (nth ns c.toNat).us = true then if c ∈ seen then (23,c :: seen) else XW ns cs (c :: seen) else (6,seen)
def Zf (co : Int) (es : List TEnt) : Int:=(XM (es.map (YS co)) 0).2
def YH (mo rm : Int) (i : Nat) : Int:=if i = 0 then rm else mo
def XN (t : Tre) (i : Nat) (seen : List Int) : Int × List Int:=
 let n:=nth t.ns i
 if n.us = true then
  if (n.es.length : Int) ≤ YH t.mo t.rm i then
   if n.cs.length = 0 ∨ n.cs.length = n.es.length + 1 then
    if Zf t.co n.es = 0 then
     if (XW t.ns n.cs seen).1 = 0 then (QaC t.co n.es,(XW t.ns n.cs seen).2) else XW t.ns n.cs seen
    else (Zf t.co n.es,seen)
   else (10,seen)
  else (16,seen)
 else if (0 < i ∧ i + 1 < t.ns.length) ∧ n.es.length + n.cs.length = 0 then (0,seen) else (3,seen)
def XY (t : Tre) : Nat → Nat → List Int → Int × Int
 | 0,_,_=>(0,0)
 | f + 1,i,seen=>if (XN t i seen).1 = 0 then XY t f (i + 1) (XN t i seen).2 else ((i : Int),(XN t i seen).1)
structure Vis where
 i : Nat
 d : Int
 lo : Option (List UInt8)
 hi : Option (List UInt8)
deriving Inhabited
def loK (es : List TEnt) (k : Nat) (lo : Option (List UInt8)) : Option (List UInt8):=if 0 < k then some (nth es (k - 1)).key else lo
def hiK (es : List TEnt) (k : Nat) (hi : Option (List UInt8)) : Option (List UInt8):=if k < es.length then some (nth es k).key else hi
def vis (ns : List Nd) : Nat → Vis → List Vis
 | 0,_=>[]
 | f + 1,v=>v :: (List.range (nth ns v.i).cs.length).flatMap fun k=>vis ns f ⟨((nth ns v.i).cs.getD k 0).toNat,v.d + 1,loK (nth ns v.i).es k v.lo,hiK (nth ns v.i).es k v.hi⟩
def QbX : Vis:=⟨0,1,none,none⟩
def YI (ns : List Nd) : List Vis:=vis ns ns.length QbX
def YK (ns : List Nd) : Nat → Nat → Int
 | 0,_=>0
 | f + 1,i=>if (nth ns i).cs.length = 0 then 0 else YK ns f ((nth ns i).cs.getD 0 0).toNat + 1
def Qdi (t : Tre) (deep : Int) (v : Vis) : Int:=
 let n:=nth t.ns v.i
 if 0 < v.i ∧ ((n.es.length : Int) < t.mo / 2 ∨ ((nth t.ns 0).es.length = 0 ∧ (v.i : Int) ∈ (nth t.ns 0).cs) ∧ (n.es.length : Int) ≤ t.rm) then 14
 else if (n.es.any fun x=>(v.lo.any fun b=>decide (0 ≤ Xm t.co b x.key)) || (v.hi.any fun b=>decide (0 ≤ Xm t.co x.key b))) = true then 9
 else if n.cs.length = 0 ∧ v.d ≠ deep + 1 then 22 else 0
def Qaa (ns : List Nd) (below : List Nat) : Nat → Nat → Option Nat
 | 0,_=>none
 | f + 1,i=>if (nth ns i).us = true ∧ i ∉ below then some i else Qaa ns below f (i + 1)
def X5 (t : Tre) (deep : Int) : List Vis → Int × Int
 | []=>(0,0)
 | v :: vs=>if Qdi t deep v = 0 then X5 t deep vs else ((v.i : Int),Qdi t deep v)
def Ze (t : Tre) : Int × Int:=
 if QB t.co = 0 then
  if Yn t.mo t.rm = 0 then
   if 0 < t.ns.length then
    if t.ns.length ≤ 120 then
     if (XY t t.ns.length 0 []).2 = 0 then
      match Qaa t.ns ((YI t.ns).map Vis.i) t.ns.length 0 with
      | some i=>((i : Int),21)
      | none=>X5 t (YK t.ns t.ns.length 0) (YI t.ns)
     else XY t t.ns.length 0 []
    else (0,8)
   else (0,10)
  else (0,2)
 else (0,15)
structure TOk (co : Int) (ns : List Nd) : Prop where
 kid : ∀ i,i < ns.length → ∀ c ∈ (nth ns i).cs,(1 ≤ c ∧ c ≤ (ns.length : Int) - 1) ∧ (nth ns c.toNat).us = true
 once : (ns.flatMap Nd.cs).Nodup
 shape : ∀ i,i < ns.length → (nth ns i).cs.length = 0 ∨ (nth ns i).cs.length = (nth ns i).es.length + 1
 free : ∀ i,i < ns.length → (nth ns i).us = false → (0 < i ∧ i + 1 < ns.length) ∧ (nth ns i).es = [] ∧ (nth ns i).cs = []
 asc : ∀ i,i < ns.length → Asc co (nth ns i).es
 ents : ∀ i,i < ns.length → ∀ x ∈ (nth ns i).es,YS co x = 0
theorem QiB {ns : List Nd} : ∀ {cs seen : List Int},(XW ns cs seen).1 = 0 → (∀ c ∈ cs,(1 ≤ c ∧ c ≤ (ns.length : Int) - 1) ∧ (nth ns c.toNat).us = true) ∧ (XW ns cs seen).2 = cs.reverse ++ seen ∧ (seen.Nodup → (cs.reverse ++ seen).Nodup)
 | [],seen,_=>⟨fun c hc=>(nomatch hc),rfl,fun h=>h⟩
 | c :: cs,seen,h=>by
  unfold XW at h ⊢;split at h
  ·rename_i h1;split at h
   ·cases h
   ·rename_i h2;rw [if_pos h1,if_neg h2];obtain ⟨h3,h4,h5⟩:=QiB h;refine ⟨fun x hx=>?_,?_,fun hs=>?_⟩
    ·rcases List.mem_cons.1 hx with rfl | hx
     ·exact h1
     ·exact h3 x hx
    ·rw [h4,List.reverse_cons,List.append_assoc];rfl
    ·have:=h5 (List.nodup_cons.2 ⟨h2,hs⟩);rw [List.reverse_cons,List.append_assoc];exact this
  ·cases h
theorem Qmh {t : Tre} {i : Nat} {seen : List Int} (h : (XN t i seen).1 = 0) :
  ((nth t.ns i).us = true → (∀ c ∈ (nth t.ns i).cs,(1 ≤ c ∧ c ≤ (t.ns.length : Int) - 1) ∧ (nth t.ns c.toNat).us = true) ∧ ((nth t.ns i).es.length : Int) ≤ YH t.mo t.rm i ∧ ((nth t.ns i).cs.length = 0 ∨ (nth t.ns i).cs.length = (nth t.ns i).es.length + 1) ∧ Zf t.co (nth t.ns i).es = 0 ∧ QaC t.co (nth t.ns i).es = 0) ∧
  ((nth t.ns i).us = false → (0 < i ∧ i + 1 < t.ns.length) ∧ (nth t.ns i).es = [] ∧ (nth t.ns i).cs = []) ∧
  (XN t i seen).2 = (nth t.ns i).cs.reverse ++ seen ∧ (seen.Nodup → ((nth t.ns i).cs.reverse ++ seen).Nodup):=by
 unfold XN at h ⊢;simp only [] at h ⊢;split at h
 ·rename_i hu;split at h
  ·rename_i h1;split at h
   ·rename_i h2;split at h
    ·rename_i h3;split at h
     ·rename_i h4;obtain ⟨k1,k2,k3⟩:=QiB h4;rw [if_pos hu,if_pos h1,if_pos h2,if_pos h3,if_pos h4];exact ⟨fun _=>⟨k1,h1,h2,h3,h⟩,fun hf=>absurd (hu.symm.trans hf) (by decide),k2,k3⟩
     ·rename_i h4;exact absurd h h4
    ·rename_i h3;exact absurd h h3
   ·cases h
  ·cases h
 ·rename_i hu;split at h
  ·rename_i h1;obtain ⟨h2,h3⟩:=h1;have e1 : (nth t.ns i).es = []:=List.eq_nil_of_length_eq_zero (by omega);have e2 : (nth t.ns i).cs = []:=List.eq_nil_of_length_eq_zero (by omega);rw [if_neg hu,if_pos ⟨h2,h3⟩,e2];exact ⟨fun h9=>absurd h9 hu,fun _=>⟨h2,e1,rfl⟩,rfl,fun h9=>h9⟩
  ·cases h
theorem Qd1 {t : Tre} : ∀ {f i : Nat} {seen : List Int},i + f = t.ns.length → (XY t f i seen).2 = 0 → seen.Nodup → (∀ j,i ≤ j → j < t.ns.length → ∃ s,(XN t j s).1 = 0) ∧ ((seen.reverse ++ (t.ns.drop i).flatMap Nd.cs)).Nodup
 | 0,i,seen,hi,h,hs=>by
  refine ⟨fun j h1 h2=>absurd h2 (by omega),?_⟩;rw [List.drop_of_length_le (by omega),List.flatMap_nil,List.append_nil];exact (List.reverse_perm seen).nodup_iff.2 hs
 | f + 1,i,seen,hi,h,hs=>by
  unfold XY at h;split at h
  ·rename_i h1;obtain ⟨h2,h3,h4,h5⟩:=Qmh h1;obtain ⟨h6,h7⟩:=Qd1 (f:=f) (i:=i + 1) (by omega) h (by rw [h4];exact h5 hs);refine ⟨fun j hj1 hj2=>?_,?_⟩
   ·rcases Nat.lt_or_ge i j with h8 | h8
    ·exact h6 j h8 hj2
    ·obtain rfl : i = j:=by omega
     exact ⟨seen,h1⟩
   ·rw [h4,List.reverse_append,List.reverse_reverse,List.append_assoc] at h7;rw [List.drop_eq_getElem_cons (show i < t.ns.length by omega),List.flatMap_cons];have e : t.ns[i] = nth t.ns i:=(Zk (List.getElem?_eq_getElem (by omega))).symm;rw [e];exact h7
  ·rename_i h1;exact absurd h h1
theorem Qmv {co : Int} {es : List TEnt} (h : Zf co es = 0) : ∀ x ∈ es,YS co x = 0:=fun x hx=>Qir.1 h _ (List.mem_map.2 ⟨x,hx,rfl⟩)
theorem Qhy {t : Tre} (h : (XY t t.ns.length 0 []).2 = 0) : TOk t.co t.ns:=by
 obtain ⟨h1,h2⟩:=Qd1 (f:=t.ns.length) (i:=0) (by omega) h List.nodup_nil;have key:=fun i (hi : i < t.ns.length)=>Qmh (h1 i (Nat.zero_le _) hi).choose_spec;have hF : ∀ i,i < t.ns.length → (nth t.ns i).us = false → (0 < i ∧ i + 1 < t.ns.length) ∧ (nth t.ns i).es = [] ∧ (nth t.ns i).cs = []:=fun i hi=>(key i hi).2.1;refine ⟨fun i hi c hc=>?_,by simpa using h2,fun i hi=>?_,hF,fun i hi=>?_,fun i hi x hx=>?_⟩
 ·cases e : (nth t.ns i).us with
  | true=>exact ((key i hi).1 e).1 c hc
  | false=>rw [(hF i hi e).2.2] at hc;cases hc
 ·cases e : (nth t.ns i).us with
  | true=>exact ((key i hi).1 e).2.2.1
  | false=>exact Or.inl (by rw [(hF i hi e).2.2];rfl)
 ·cases e : (nth t.ns i).us with
  | true=>exact QpN ((key i hi).1 e).2.2.2.2
  | false=>
   rw [(hF i hi e).2.1];intro k hk;exact absurd hk (Nat.not_lt_zero _)
 ·cases e : (nth t.ns i).us with
  | true=>exact Qmv ((key i hi).1 e).2.2.2.1 x hx
  | false=>rw [(hF i hi e).2.1] at hx;cases hx
theorem Qg6 {α : Type} : ∀ {A B : List α} {x : α},(A ++ B).Nodup → x ∈ A → x ∈ B → False:=fun h h1 h2=>(List.nodup_append.1 h).2.2 _ h1 _ h2 rfl
theorem QeF {α β : Type} [Inhabited α] {f : α → List β} : ∀ {l : List α},(l.flatMap f).Nodup → ∀ {i j : Nat} {c : β},i < l.length → j < l.length → c ∈ f (nth l i) → c ∈ f (nth l j) → i = j
 | [],_,i,j,c,hi,_,_,_=>absurd hi (Nat.not_lt_zero _)
 | x :: l,h,i,j,c,hi,hj,h1,h2=>by
  rw [List.flatMap_cons] at h;have hm : ∀ k,k < l.length → c ∈ f (nth l k) → c ∈ l.flatMap f:=fun k hk hc=>List.mem_flatMap.2 ⟨_,QC hk,hc⟩;cases i with
  | zero=>
   cases j with
   | zero=>rfl
   | succ j=>exact (Qg6 h h1 (hm j (by simpa using hj) h2)).elim
  | succ i=>
   cases j with
   | zero=>exact (Qg6 h h2 (hm i (by simpa using hi) h1)).elim
   | succ j=>rw [QeF (List.nodup_append.1 h).2.1 (by simpa using hi) (by simpa using hj) h1 h2]
def Way (ns : List Nd) : List Nat → Prop
 | []=>False
 | [r]=>r = 0
 | c :: p :: P=>((c : Int) ∈ (nth ns p).cs ∧ p < ns.length) ∧ Way ns (p :: P)
theorem Qc2 {co : Int} {ns : List Nd} (ht : TOk co ns) (h0 : 0 < ns.length) : ∀ {P : List Nat},Way ns P → ∀ x ∈ P,x < ns.length
 | [],h,_,_=>h.elim
 | [r],h,x,hx=>by
  rw [List.mem_singleton.1 hx,show r = 0 from h];exact h0
 | c :: p :: P,h,x,hx=>by
  rcases List.mem_cons.1 hx with rfl | hx
  ·have:=(ht.kid p h.1.2 _ h.1.1).1;omega
  ·exact Qc2 ht h0 h.2 x hx
theorem Qml {ns : List Nd} : ∀ {P : List Nat},Way ns P → ∀ j,j + 1 < P.length → ((nth P j : Nat) : Int) ∈ (nth ns (nth P (j + 1))).cs ∧ nth P (j + 1) < ns.length
 | [],h,_,_=>h.elim
 | [r],h,j,hj=>absurd hj (by simp)
 | c :: p :: P,h,0,hj=>h.1
 | c :: p :: P,h,j + 1,hj=>Qml h.2 j (by simpa using hj)
theorem Qjf {ns : List Nd} : ∀ {P : List Nat},Way ns P → nth P (P.length - 1) = 0
 | [],h=>h.elim
 | [r],h=>h
 | c :: p :: P,h=>by
  have h1:=Qjf h.2;show nth (p :: P) P.length = 0;exact h1
theorem QgF {co : Int} {ns : List Nd} (ht : TOk co ns) : ∀ {P : List Nat},Way ns P → P.Nodup
 | [],h=>h.elim
 | [r],h=>by simp
 | c :: p :: P,h=>by
  have h1:=QgF ht h.2;refine List.nodup_cons.2 ⟨fun hc=>?_,h1⟩;obtain ⟨j,hj,e⟩:=List.getElem_of_mem hc;have e2 : nth (p :: P) j = c:=Zk (by rw [List.getElem?_eq_getElem hj,e]);have hk:=ht.kid p h.1.2 _ h.1.1;rcases Nat.lt_or_ge (j + 1) (p :: P).length with h2 | h2
  ·have h3:=Qml h.2 j h2;rw [e2] at h3;have h4:=QeF ht.once h.1.2 h3.2 h.1.1 h3.1
   have h5 : (p :: P)[0]? = (p :: P)[j + 1]?:=by
    rw [Qac h2,← h4];rfl
   have:=(List.getElem?_inj (by simp) h1).1 h5;omega
  ·have h3:=Qjf h.2;rw [show (p :: P).length - 1 = j by omega,e2] at h3;omega
theorem QjK : ∀ (n : Nat) (l : List Nat),l.Nodup → (∀ x ∈ l,x < n) → l.length ≤ n
 | 0,l,_,h=>by
  cases l with
  | nil=>exact Nat.le_refl _
  | cons x l=>exact absurd (h x (List.mem_cons_self ..)) (Nat.not_lt_zero _)
 | n + 1,l,hd,h=>by
  have h1:=QjK n (l.erase n) (hd.erase n) (fun x hx=>by
   have h2:=(hd.mem_erase_iff).1 hx;have:=h x h2.2;omega)
  have h2:=List.length_erase_le (a:=n) (l:=l);rw [List.length_erase] at h1;split at h1 <;> omega
theorem Qbe {co : Int} {ns : List Nd} (ht : TOk co ns) (h0 : 0 < ns.length) {P : List Nat} (h : Way ns P) : P.length ≤ ns.length:=QjK _ _ (QgF ht h) (Qc2 ht h0 h)
end Gx
namespace Gx
open Go Go.RowKit
theorem QjB : ∀ a b,Lib.compareBytes a b = QbG a b
 | [],[]=>rfl
 | [],_ :: _=>rfl
 | _ :: _,[]=>rfl
 | a :: x,b :: y=>by
  unfold Lib.compareBytes QbG;rw [QjB x y]
section
variable {P : Program} {o : Oper} {L : Qe}
def Qvf (P : Program) (f : FuncId) : Prop := ∃ fn, P.funcs[f]? = some fn ∧ (fn.name == "runtime.NumGoroutine") = false ∧ fn.body.isNone = true ∧ Extern.findNext fn = none ∧ Extern.find fn = some Extern.BytealgCompare.compare
theorem QeN {f : FuncId} {x y : Operand} {a b : List UInt8} {at' : Array TypeId} {C : World → Prop} (ho : o.op = .call { callee:=.value (.func f),args:=#[x,y],argTypes:=at' }) (hx : ev L x = some (.string (bs a))) (hy : ev L y = some (.string (bs b))) (hf : Qvf P f) : OpQ P o L C (.int .i64 (QbG a b)):=by
 intro ρ w hρ hw;obtain ⟨fn,h1,h2,h3,h4,h5⟩:=hf;have hcall:=run_callFunc_extern h1 h2 h3 h4 h5 #[.string (bs a),.string (bs b)] w;rw [Lib.run_compareString,bs_data,bs_data,QjB] at hcall
 have : (execOp ρ o).run P w = .ok (.value (.int .i64 (QbG a b))) w:=by
  unfold execOp;simp only [ho,resolve,Sem.run_bind,hρ (.func f) _ rfl,Deferred.ofValue,Sem.run_pure,Result.andThen_ok,invoke,List.map_toArray,List.map_cons,List.map_nil,hρ _ _ hx,hρ _ _ hy,Array.empty_append,Array.append_empty,hcall]
 rw [this];exact ⟨rfl,Below.refl _ _⟩
end
end Gx
namespace Gx
open Go Go.RowKit
end Gx
namespace Gx
open Go Go.RowKit
section
variable {S : Type} (st : S → Vis → S) (er : S → Vis → Int × Int)
def XG : S → List Vis → (Int × Int) × S
 | s,[]=>((0,0),s)
 | s,v :: vs=>if (er s v).2 = 0 then XG (st s v) vs else (er s v,st s v)
theorem QbV : ∀ (A B : List Vis) (s : S),XG st er s (A ++ B) = if (XG st er s A).1.2 = 0 then XG st er (XG st er s A).2 B else XG st er s A
 | [],B,s=>rfl
 | v :: A,B,s=>by
  rw [List.cons_append,XG,XG]
  by_cases h : (er s v).2 = 0
  ·rw [if_pos h,if_pos h];exact QbV A B _
  ·rw [if_neg h,if_neg h,if_neg h]
theorem Qoz {A B : List Vis} {s : S} (h : ¬ (XG st er s A).1.2 = 0) : XG st er s (A ++ B) = XG st er s A:=by rw [QbV,if_neg h]
theorem Qmn {A B : List Vis} {s : S} (h : (XG st er s A).1.2 = 0) : XG st er s (A ++ B) = XG st er (XG st er s A).2 B:=by rw [QbV,if_pos h]
theorem Qn3 : ∀ {A : List Vis} {s : S},(XG st er s A).1.2 = 0 → (XG st er s A).1 = (0,0)
 | [],s,_=>rfl
 | v :: A,s,h=>by
  rw [XG] at h ⊢;split at h
  ·rename_i h1;rw [if_pos h1];exact Qn3 h
  ·rename_i h1;exact absurd h h1
end
def XQ (ns : List Nd) (v : Vis) (k : Nat) : Vis:=⟨((nth ns v.i).cs.getD k 0).toNat,v.d + 1,loK (nth ns v.i).es k v.lo,hiK (nth ns v.i).es k v.hi⟩
def QaB (ns : List Nd) (f : Nat) (v : Vis) (k : Nat) : List Vis:=v :: (List.range k).flatMap fun k=>vis ns f (XQ ns v k)
theorem Qkw (ns : List Nd) (f : Nat) (v : Vis) : QaB ns f v 0 = [v]:=rfl
theorem XS (ns : List Nd) (f : Nat) (v : Vis) (k : Nat) : QaB ns f v (k + 1) = QaB ns f v k ++ vis ns f (XQ ns v k):=by
 unfold QaB;rw [List.range_succ,List.flatMap_append,List.flatMap_singleton];rfl
theorem Y6 (ns : List Nd) (f : Nat) (v : Vis) : vis ns (f + 1) v = QaB ns f v (nth ns v.i).cs.length:=rfl
theorem QaJ (ns : List Nd) (f : Nat) (v : Vis) {k m : Nat} (h : k ≤ m) : ∃ B,QaB ns f v m = QaB ns f v k ++ B:=by
 induction m with
 | zero=>
  obtain rfl : k = 0:=by omega
  exact ⟨[],by rw [List.append_nil]⟩
 | succ m ih=>
  rcases Nat.lt_or_ge m k with h1 | h1
  ·obtain rfl : k = m + 1:=by omega
   exact ⟨[],by rw [List.append_nil]⟩
  ·obtain ⟨B,e⟩:=ih h1;exact ⟨B ++ vis ns f (XQ ns v m),by rw [XS,e,List.append_assoc]⟩
theorem Qdm {ns : List Nd} {i : Nat} {P : List Nat} (h : Way ns (i :: P)) (hi : i < ns.length) {k : Nat} (hk : k < (nth ns i).cs.length) (hc : 0 ≤ (nth ns i).cs.getD k 0) : Way ns (((nth ns i).cs.getD k 0).toNat :: i :: P):=by
 refine ⟨⟨?_,hi⟩,h⟩;rw [Int.toNat_of_nonneg hc,List.getD_eq_getElem?_getD,List.getElem?_eq_getElem hk];exact List.getElem_mem hk
theorem Qfv {co : Int} {ns : List Nd} (ht : TOk co ns) {i k : Nat} (hi : i < ns.length) (hk : k < (nth ns i).cs.length) : 1 ≤ (nth ns i).cs.getD k 0 ∧ (nth ns i).cs.getD k 0 ≤ (ns.length : Int) - 1 ∧ (nth ns ((nth ns i).cs.getD k 0).toNat).us = true:=by
 have hm : (nth ns i).cs.getD k 0 ∈ (nth ns i).cs:=by
  rw [List.getD_eq_getElem?_getD,List.getElem?_eq_getElem hk];exact List.getElem_mem hk
 have h:=ht.kid i hi _ hm;exact ⟨h.1.1,h.1.2,h.2⟩
def Qvh (co : Int) (ns : List Nd) (key : List UInt8) : Nat → Nat → List Nat × Nat × Bool
 | 0,_=>([],0,false)
 | f + 1,i=>if fnd co (nth ns i).es key = true ∨ (nth ns i).cs.length = 0 then ([i],plc co (nth ns i).es key,fnd co (nth ns i).es key)
   else (i :: (Qvh co ns key f ((nth ns i).cs.getD (plc co (nth ns i).es key) 0).toNat).1,(Qvh co ns key f ((nth ns i).cs.getD (plc co (nth ns i).es key) 0).toNat).2)
def Xd (co : Int) (ns : List Nd) (key : List UInt8) : List Nat × Nat × Bool:=Qvh co ns key ns.length 0
structure Bd (ns : List Nd) : Prop where
 len : ns.length ≤ 1000
 es : ∀ i,i < ns.length → (nth ns i).es.length ≤ 1000
 cs : ∀ i,i < ns.length → (nth ns i).cs.length ≤ 1000
theorem Qi (L : List LNd) : (pln L).length = L.length:=by simp
theorem Q3 {L : List LNd} {i : Nat} (h : i < L.length) : nth (pln L) i = (nth L i).pl:=by
 apply Zk;rw [List.getElem?_map,Qac h];rfl
theorem QsM (L M : List LNd) : pln (L ++ M) = pln L ++ pln M:=by simp
def Z8 (w : World) (M : List Nat) (p : Option Addr) (o : Option (List UInt8)) : Prop:=match o with
 | none=>p = none
 | some k=>∃ b off,p = some ⟨b,off,none⟩ ∧ Rd w M b off (.string (bs k))
theorem Z8.keep {w w' : World} {M : List Nat} {As : List HA} {p : Option Addr} {o : Option (List UInt8)} (h : Z8 w M p o) (hs : HS w M As w') : Z8 w' (fps As) p o:=by
 cases o with
 | none=>exact h
 | some k=>
  obtain ⟨b,off,e,hr⟩:=h;exact ⟨b,off,e,hs.keep hr⟩
theorem Z8.mono {w : World} {M M' : List Nat} {p : Option Addr} {o : Option (List UInt8)} (h : Z8 w M p o) (hM : ∀ b ∈ M',b ∈ M) : Z8 w M' p o:=by
 cases o with
 | none=>exact h
 | some k=>
  obtain ⟨b,off,e,hr⟩:=h;exact ⟨b,off,e,hr.mono hM⟩
theorem Z8.of_some {w : World} {M : List Nat} {p : Option Addr} {o : Option (List UInt8)} (h : Z8 w M p o) (hp : p.isSome = true) : ∃ k b off,o = some k ∧ p = some ⟨b,off,none⟩ ∧ Rd w M b off (.string (bs k)):=by
 cases o with
 | none=>
  have : p = none:=h;subst this;cases hp
 | some k=>
  obtain ⟨b,off,e,hr⟩:=h;exact ⟨k,b,off,rfl,e,hr⟩
theorem Z8.of_none {w : World} {M : List Nat} {p : Option Addr} {o : Option (List UInt8)} (h : Z8 w M p o) (hp : p.isSome = false) : o = none:=by
 cases o with
 | none=>rfl
 | some k=>
  obtain ⟨b,off,e,hr⟩:=h;subst e;cases hp
theorem Q6 {As Cs Ds : List HA} (h : QaK As Cs Ds) : ∀ b ∈ fps Cs,b ∈ fps As:=fun b hb=>by
 obtain ⟨A,hA,hb⟩:=List.mem_flatMap.1 hb;exact List.mem_flatMap.2 ⟨A,(List.Perm.mem_iff h).2 (List.mem_append_left _ hA),hb⟩
theorem HS.rd_blkF {w0 w : World} {M : List Nat} {As Cs Ds Es : List HA} {b i t tot : Nat} {cs : List Value} {v : Value} (h : HS w0 M As w) (hp : QaK As Cs Ds) (hp2 : QP Ds (.blk b t tot cs) Es) (hv : cs[i]? = some v) : Rd w (fps Cs) b i v:=by
 have h1 : HS w0 M (Cs ++ Ds) w:=h.perm hp;refine ⟨(h1.ok _ (List.mem_append_right _ hp2.mem) |> QW.lt),fun hb=>?_,QW.cell (h1.ok _ (List.mem_append_right _ hp2.mem)) hv⟩;obtain ⟨A,hA,hb⟩:=List.mem_flatMap.1 hb;exact (List.pairwise_append.1 h1.sep).2.2 A hA _ hp2.mem b hb (List.mem_singleton.2 rfl)
section
variable (t : Tre) (i : Nat)
def nE1 : Int:=if ((nth t.ns i).es.length : Int) ≤ YH t.mo t.rm i then if (nth t.ns i).cs.length = 0 ∨ (nth t.ns i).cs.length = (nth t.ns i).es.length + 1 then 0 else 10 else 16
def nE2 : Int:=if nE1 t i = 0 then Zf t.co (nth t.ns i).es else nE1 t i
def nE3 (seen : List Int) : Int × List Int:=if nE2 t i = 0 then XW t.ns (nth t.ns i).cs seen else (nE2 t i,seen)
def nE4 (seen : List Int) : Int:=if (nE3 t i seen).1 = 0 then QaC t.co (nth t.ns i).es else (nE3 t i seen).1
theorem QnA {seen : List Int} (h : (nth t.ns i).us = true) : XN t i seen = (nE4 t i seen,(nE3 t i seen).2):=by
 unfold XN nE4 nE3 nE2 nE1;simp only [];rw [if_pos h]
 by_cases h1 : ((nth t.ns i).es.length : Int) ≤ YH t.mo t.rm i
 ·simp only [if_pos h1]
  by_cases h2 : (nth t.ns i).cs.length = 0 ∨ (nth t.ns i).cs.length = (nth t.ns i).es.length + 1
  ·simp only [if_pos h2,if_true]
   by_cases h3 : Zf t.co (nth t.ns i).es = 0
   ·simp only [if_pos h3]
    by_cases h4 : (XW t.ns (nth t.ns i).cs seen).1 = 0
    ·simp only [if_pos h4]
    ·simp only [if_neg h4]
   ·simp only [if_neg h3]
  ·simp only [if_neg h2,show ¬ ((10 : Int) = 0) by decide,if_false]
 ·simp only [if_neg h1,show ¬ ((16 : Int) = 0) by decide,if_false]
theorem Qws (h : nE2 t i = 0) : Zf t.co (nth t.ns i).es = 0:=by
 unfold nE2 at h;split at h
 ·exact h
 ·rename_i h1;exact absurd h h1
theorem QwE {seen : List Int} (h : (nE3 t i seen).1 = 0) : nE2 t i = 0:=by
 unfold nE3 at h;split at h
 ·assumption
 ·exact h
end
def QcK (ns : List Nd) (c : Int) : Prop:=(1 ≤ c ∧ c ≤ (ns.length : Int) - 1) ∧ (nth ns c.toNat).us = true
instance (ns : List Nd) (c : Int) : Decidable (QcK ns c):=inferInstanceAs (Decidable (_ ∧ _))
def Qb9 (ns : List Nd) (c : Int) (seen : List Int) : Int:=if QcK ns c then if c ∈ seen then 23 else 0 else 6
def QdL (ns : List Nd) (c : Int) (seen : List Int) : List Int:=if QcK ns c then c :: seen else seen
theorem Qa8 (ns : List Nd) (c : Int) (cs seen : List Int) : XW ns (c :: cs) seen = if Qb9 ns c seen = 0 then XW ns cs (QdL ns c seen) else (Qb9 ns c seen,QdL ns c seen):=by
 unfold Qb9 QdL;rw [XW]
 by_cases h : QcK ns c
 ·rw [if_pos h,if_pos h,if_pos (show (1 ≤ c ∧ c ≤ (ns.length : Int) - 1) ∧ (nth ns c.toNat).us = true from h)]
  by_cases h2 : c ∈ seen
  ·rw [if_pos h2,if_pos h2];rfl
  ·rw [if_neg h2,if_neg h2];rfl
 ·rw [if_neg h,if_neg h,if_neg (show ¬ ((1 ≤ c ∧ c ≤ (ns.length : Int) - 1) ∧ (nth ns c.toNat).us = true) from h)];rfl
theorem Qcj {cs : List Int} {k : Nat} (h : k < cs.length) : cs.drop k = cs.getD k 0 :: cs.drop (k + 1):=by
 rw [List.drop_eq_getElem_cons h,List.getD_eq_getElem?_getD,List.getElem?_eq_getElem h];rfl
theorem Qca {co : Int} {es : List TEnt} {k : Nat} (h : k < es.length) : (es.map (YS co)).getD k 0 = YS co (nth es k):=by
 rw [QaX (d:=default) h];rfl
theorem Qb0 {co : Int} {es : List TEnt} {k : Nat} (h : k < es.length) : ((List.range es.length).map (QaW co es)).getD k 0 = QaW co es k:=by
 rw [QaX (d:=0) (by simpa using h),List.getD_eq_getElem?_getD,List.getElem?_range h];rfl
theorem QdZ {co : Int} {x : TEnt} (h : YS co x = 0) : Xa co x.key = true:=by
 unfold YS at h;split at h
 ·rename_i h1;unfold Qas at h1;split at h1
  ·assumption
  ·cases h1
 ·cases h
theorem QnI {co : Int} {k : List UInt8} (h : Xa co k = true) : 1 ≤ k.length ∧ k.length ≤ 40:=by
 unfold Xa at h;split at h
 ·have:=of_decide_eq_true h;omega
 ·split at h
  ·have:=of_decide_eq_true h;omega
  ·split at h
   ·rw [Bool.and_eq_true] at h;have:=of_decide_eq_true h.1;omega
   ·rw [Bool.and_eq_true] at h;have:=of_decide_eq_true h.1;omega
theorem HS.thenF {w w1 w2 : World} {M : List Nat} {As Bs : List HA} (h : HS w M As w1) (hc : HS w1 (fps As) Bs w2) : HS w M Bs w2:=by
 have h1 : HS w M (As ++ []) w1:=by rw [List.append_nil];exact h
 have h2:=h1.callM (Mc:=fps As) (fun b hb=>by obtain ⟨A,hA,hb⟩:=List.mem_flatMap.1 hb;exact ⟨A,hA,hb⟩) hc;rw [List.append_nil] at h2;exact h2
def QdD (cs : List Int) (n : Int) : List Bool:=cs.map fun c=>decide (n = c)
theorem QbH (cs : List Int) (n : Int) : (QdD cs n).length = cs.length:=by simp [QdD]
theorem QiT {cs : List Int} {n : Int} {k : Nat} (h : k < cs.length) : (QdD cs n).getD k false = decide (n = cs.getD k 0):=by
 unfold QdD;rw [QaX (d:=0) h]
theorem QqE (cs : List Int) (n : Int) : (QdD cs n).any id = decide (n ∈ cs):=by
 unfold QdD;rw [List.any_map]
 by_cases h : n ∈ cs
 ·rw [decide_eq_true h,List.any_eq_true];exact ⟨n,h,by simp⟩
 ·rw [decide_eq_false h,List.any_eq_false];intro x hx;simp only [Function.comp,id,decide_eq_true_eq];intro e;exact h (e ▸ hx)
def Z0 (t : Tre) (v : Vis) : Bool:=decide (0 < v.i) && (decide (((nth t.ns v.i).es.length : Int) < t.mo / 2) || ((decide ((nth t.ns 0).es.length = 0) && decide ((v.i : Int) ∈ (nth t.ns 0).cs)) && decide (((nth t.ns v.i).es.length : Int) ≤ t.rm)))
def Z7 (t : Tre) (v : Vis) (x : TEnt) : Bool:=(v.lo.any fun b=>decide (0 ≤ Xm t.co b x.key)) || (v.hi.any fun b=>decide (0 ≤ Xm t.co x.key b))
def Zy (t : Tre) (v : Vis) : Bool:=(nth t.ns v.i).es.any (Z7 t v)
def erV (t : Tre) (s : Int) (v : Vis) : Int × Int:=((v.i : Int),if Z0 t v = true then 14 else if Zy t v = true then 9 else if (nth t.ns v.i).cs.length = 0 then (if (if s = 0 then v.d else s) = v.d then 0 else 22) else 0)
def stV (t : Tre) (s : Int) (v : Vis) : Int:=if Z0 t v = true then s else if Zy t v = true then s else if (nth t.ns v.i).cs.length = 0 then (if s = 0 then v.d else s) else s
theorem Qcr (t : Tre) (deep : Int) (v : Vis) : Qdi t deep v = if Z0 t v = true then 14 else if Zy t v = true then 9 else if (nth t.ns v.i).cs.length = 0 ∧ v.d ≠ deep + 1 then 22 else 0:=by
 unfold Qdi;simp only []
 have h : Z0 t v = true ↔ (0 < v.i ∧ (((nth t.ns v.i).es.length : Int) < t.mo / 2 ∨ ((nth t.ns 0).es.length = 0 ∧ (v.i : Int) ∈ (nth t.ns 0).cs) ∧ ((nth t.ns v.i).es.length : Int) ≤ t.rm)):=by
  unfold Z0;simp only [Bool.and_eq_true,Bool.or_eq_true,decide_eq_true_eq]
 by_cases h1 : Z0 t v = true
 ·rw [if_pos (h.1 h1),if_pos h1]
 ·rw [if_neg (fun h2=>h1 (h.2 h2)),if_neg h1];rfl
theorem QgZ (t : Tre) : ∀ (vs : List Vis) (s : Int),s ≠ 0 → (XG (stV t) (erV t) s vs).1 = X5 t (s - 1) vs
 | [],s,_=>rfl
 | v :: vs,s,hs=>by
  have he : (erV t s v).2 = Qdi t (s - 1) v:=by
   rw [Qcr];unfold erV;simp only [if_neg hs]
   by_cases h1 : Z0 t v = true
   ·rw [if_pos h1,if_pos h1]
   ·rw [if_neg h1,if_neg h1]
    by_cases h2 : Zy t v = true
    ·rw [if_pos h2,if_pos h2]
    ·rw [if_neg h2,if_neg h2]
     by_cases h3 : (nth t.ns v.i).cs.length = 0
     ·rw [if_pos h3]
      by_cases h4 : s = v.d
      ·rw [if_pos h4,if_neg (fun h5=>h5.2 (by omega))]
      ·rw [if_neg h4,if_pos ⟨h3,by omega⟩]
     ·rw [if_neg h3,if_neg (fun h5=>h3 h5.1)]
  have hst : stV t s v = s:=by
   unfold stV;simp only [if_neg hs,ite_self]
  rw [XG,X5,he,hst];split
  ·exact QgZ t vs s hs
  ·rw [show erV t s v = ((v.i : Int),(erV t s v).2) from rfl,he]
theorem QgT {t : Tre} (hT : TOk t.co t.ns) (h0 : 0 < t.ns.length) (deep : Int) : ∀ (f : Nat) (v : Vis) (P : List Nat) (rest : List Vis),Gx.Way t.ns (v.i :: P) → P.length + f = t.ns.length → 1 ≤ v.d → deep + 1 = v.d + YK t.ns f v.i → (XG (stV t) (erV t) 0 (vis t.ns f v ++ rest)).1 = X5 t deep (vis t.ns f v ++ rest)
 | 0,v,P,rest,hw,hf,_,_=>by
  have:=Qbe hT h0 hw;simp only [List.length_cons] at this;omega
 | f + 1,v,P,rest,hw,hf,hd,he=>by
  have hi:=Qc2 hT h0 hw v.i (List.mem_cons_self ..);rw [YK] at he;rw [vis,List.cons_append,XG,X5,Qcr]
  by_cases h1 : Z0 t v = true
  ·have e1 : (erV t 0 v).2 = 14:=by unfold erV;simp only [if_pos h1]
   rw [if_pos h1,e1,if_neg (by decide),if_neg (by decide),show erV t 0 v = ((v.i : Int),(erV t 0 v).2) from rfl,e1]
  ·rw [if_neg h1]
   by_cases h2 : Zy t v = true
   ·have e1 : (erV t 0 v).2 = 9:=by unfold erV;simp only [if_neg h1,if_pos h2]
    rw [if_pos h2,e1,if_neg (by decide),if_neg (by decide),show erV t 0 v = ((v.i : Int),(erV t 0 v).2) from rfl,e1]
   ·rw [if_neg h2]
    by_cases h3 : (nth t.ns v.i).cs.length = 0
    ·rw [if_pos h3] at he;have e1 : (erV t 0 v).2 = 0:=by unfold erV;simp only [if_neg h1,if_neg h2,if_pos h3,if_true]
     have e2 : stV t 0 v = v.d:=by unfold stV;rw [if_neg h1,if_neg h2,if_pos h3,if_pos rfl]
     have e3 : (if (nth t.ns v.i).cs.length = 0 ∧ v.d ≠ deep + 1 then (22 : Int) else 0) = 0:=if_neg (fun h5=>h5.2 (by omega));rw [e1,if_pos rfl,e2,e3,if_pos rfl,h3,List.range_zero,List.flatMap_nil,List.nil_append,QgZ t rest v.d (by omega),show v.d - 1 = deep by omega]
    ·rw [if_neg h3] at he;have e1 : (erV t 0 v).2 = 0:=by unfold erV;simp only [if_neg h1,if_neg h2,if_neg h3]
     have e2 : stV t 0 v = 0:=by unfold stV;rw [if_neg h1,if_neg h2,if_neg h3]
     have hk:=Qfv hT hi (k:=0) (by omega);have e3 : (if (nth t.ns v.i).cs.length = 0 ∧ v.d ≠ deep + 1 then (22 : Int) else 0) = 0:=if_neg (fun h5=>h3 h5.1);rw [e1,if_pos rfl,e2,e3,if_pos rfl];obtain ⟨m,hm⟩ : ∃ m,(nth t.ns v.i).cs.length = m + 1:=⟨(nth t.ns v.i).cs.length - 1,by omega⟩;rw [hm,List.range_succ_eq_map,List.flatMap_cons,List.append_assoc];refine QgT hT h0 deep f _ (v.i :: P) _ (Qdm hw hi (by omega) (by omega)) (by simp only [List.length_cons];omega) (by show 1 ≤ v.d + 1;omega) ?_;show deep + 1 = v.d + 1 + YK t.ns f ((nth t.ns v.i).cs.getD 0 0).toNat;omega
theorem run_shape {t : Tre} (hT : TOk t.co t.ns) (h0 : 0 < t.ns.length) : (XG (stV t) (erV t) 0 (YI t.ns)).1 = X5 t (YK t.ns t.ns.length 0) (YI t.ns):=by
 have h:=QgT hT h0 (YK t.ns t.ns.length 0) t.ns.length QbX [] [] rfl (by simp) (by decide) (by show _ = 1 + _;rw [show QbX.i = 0 from rfl];omega);rw [List.append_nil] at h;exact h
def QeS (s : List Bool) (v : Vis) : List Bool:=s.set v.i true
theorem Qmj : ∀ (vs : List Vis) (s : List Bool),(XG QeS (fun _ _=>(0,0)) s vs).1 = (0,0) ∧ (XG QeS (fun _ _=>(0,0)) s vs).2.length = s.length ∧ ∀ i,i < s.length → (XG QeS (fun _ _=>(0,0)) s vs).2.getD i false = (s.getD i false || decide (i ∈ vs.map Vis.i))
 | [],s=>⟨rfl,rfl,fun i _=>by simp [XG]⟩
 | v :: vs,s=>by
  obtain ⟨h1,h2,h3⟩:=Qmj vs (QeS s v);rw [XG,if_pos rfl];have hl : (QeS s v).length = s.length:=by simp [QeS]
  refine ⟨h1,h2.trans hl,fun i hi=>?_⟩;rw [h3 i (by omega)];simp only [QeS,List.getD_eq_getElem?_getD,List.getElem?_set,List.map_cons,List.mem_cons]
  by_cases e : v.i = i
  ·subst e;rw [if_pos rfl,if_pos hi];simp
  ·rw [if_neg e];simp [Ne.symm e]
theorem QiG {S : Type} {st : S → Vis → S} {er : S → Vis → Int × Int} {I : S → Prop} (hI : ∀ s v,I s → I (st s v)) : ∀ (vs : List Vis) (s : S),I s → I (XG st er s vs).2
 | [],s,h=>h
 | v :: vs,s,h=>by
  rw [XG];split
  ·exact QiG hI vs _ (hI _ _ h)
  ·exact hI _ _ h
def KOk (co : Int) (o : Option (List UInt8)) : Prop:=∀ k,o = some k → Xa co k = true ∧ k.length ≤ 1000000
theorem QdE {co : Int} {ns : List Nd} (hT : TOk co ns) {i : Nat} (hi : i < ns.length) : ∀ x ∈ (nth ns i).es,Xa co x.key = true ∧ x.key.length ≤ 1000000:=fun x hx=>by
 have h:=QdZ (hT.ents i hi x hx);have:=(QnI h).2;exact ⟨h,by omega⟩
theorem Qgf {co : Int} {ns : List Nd} (hT : TOk co ns) {v : Vis} (hi : v.i < ns.length) {k : Nat} (hk : k ≤ (nth ns v.i).es.length) (h : KOk co v.lo) : KOk co (XQ ns v k).lo:=by
 intro x hx;unfold XQ loK at hx;simp only [] at hx;split at hx
 ·injection hx with hx
  rw [← hx];exact QdE hT hi _ (QC (by omega))
 ·exact h x hx
theorem Qgj {co : Int} {ns : List Nd} (hT : TOk co ns) {v : Vis} (hi : v.i < ns.length) {k : Nat} (h : KOk co v.hi) : KOk co (XQ ns v k).hi:=by
 intro x hx;unfold XQ hiK at hx;simp only [] at hx;split at hx
 ·injection hx with hx
  rw [← hx];exact QdE hT hi _ (QC (by assumption))
 ·exact h x hx
def Qbz (t : Tre) : Int × Int:=match Qaa t.ns ((YI t.ns).map Vis.i) t.ns.length 0 with
 | some i=>((i : Int),21)
 | none=>X5 t (YK t.ns t.ns.length 0) (YI t.ns)
theorem Qks {t : Tre} {deep : Int} : ∀ {vs : List Vis},(X5 t deep vs).2 = 0 → X5 t deep vs = (0,0)
 | [],_=>rfl
 | v :: vs,h=>by
  rw [X5] at h ⊢;split at h
  ·rename_i h1;rw [if_pos h1];exact Qks h
  ·rename_i h1;exact absurd h h1
theorem Qmm {t : Tre} (h : (Qbz t).2 = 0) : (Qbz t).1 = 0:=by
 unfold Qbz at h ⊢;split at h
 ·cases h
 ·rw [Qks h]
def Y9 (n : Nat) : Int:=if 0 < n then if n ≤ 120 then 0 else 8 else 10
theorem Qcm {t : Tre} (h : ¬ (if QB t.co = 0 then Yn t.mo t.rm else QB t.co) = 0) : Ze t = (0,if QB t.co = 0 then Yn t.mo t.rm else QB t.co):=by
 unfold Ze
 by_cases h1 : QB t.co = 0
 ·rw [if_pos h1] at h;rw [if_pos h1,if_pos h1,if_neg h];congr 1;unfold Yn at h ⊢;split at h
  ·exact absurd rfl h
  ·rename_i h2;rw [if_neg h2]
 ·rw [if_neg h1,if_neg h1];congr 1;unfold QB at h1 ⊢;split at h1
  ·exact absurd rfl h1
  ·rename_i h2;rw [if_neg h2]
theorem Qio {t : Tre} (h : (if QB t.co = 0 then Yn t.mo t.rm else QB t.co) = 0) : QB t.co = 0 ∧ Yn t.mo t.rm = 0:=by
 split at h
 ·rename_i h1;exact ⟨h1,h⟩
 ·rename_i h1;exact absurd h h1
theorem Qpq {mo rm : Int} (h : Yn mo rm = 0) : (3 ≤ mo ∧ mo ≤ 8) ∧ (mo / 2 ≤ rm ∧ rm ≤ mo):=by
 unfold Yn at h;split at h
 ·assumption
 ·cases h
theorem Qd2 {t : Tre} (h : (if QB t.co = 0 then Yn t.mo t.rm else QB t.co) = 0) (h2 : ¬ Y9 t.ns.length = 0) : Ze t = (0,Y9 t.ns.length):=by
 obtain ⟨h3,h4⟩:=Qio h;unfold Ze Y9 at *;rw [if_pos h3,if_pos h4];split at h2
 ·rename_i h5;rw [if_pos h5];split at h2
  ·exact absurd rfl h2
  ·rename_i h6;rw [if_neg h6,if_pos h5,if_neg h6]
 ·rename_i h5;rw [if_neg h5,if_neg h5]
theorem QkE {n : Nat} (h : Y9 n = 0) : 0 < n ∧ n ≤ 120:=by
 unfold Y9 at h;split at h
 ·split at h
  ·exact ⟨by assumption,by assumption⟩
  ·cases h
 ·cases h
theorem Qej {t : Tre} (h : (if QB t.co = 0 then Yn t.mo t.rm else QB t.co) = 0) (h2 : Y9 t.ns.length = 0) : Ze t = if (XY t t.ns.length 0 []).2 = 0 then Qbz t else XY t t.ns.length 0 []:=by
 obtain ⟨h3,h4⟩:=Qio h;obtain ⟨h5,h6⟩:=QkE h2;unfold Ze;rw [if_pos h3,if_pos h4,if_pos h5,if_pos h6];rfl
theorem QkO {t : Tre} (h : (Ze t).2 = 0) : QB t.co = 0 ∧ Yn t.mo t.rm = 0 ∧ 0 < t.ns.length ∧ t.ns.length ≤ 120 ∧ (XY t t.ns.length 0 []).2 = 0 ∧ (Qbz t).2 = 0 ∧ Ze t = (0,0):=by
 by_cases h1 : (if QB t.co = 0 then Yn t.mo t.rm else QB t.co) = 0
 ·by_cases h2 : Y9 t.ns.length = 0
  ·rw [Qej h1 h2] at h ⊢;obtain ⟨h3,h4⟩:=Qio h1;obtain ⟨h5,h6⟩:=QkE h2;split at h
   ·rename_i h7;rw [if_pos h7];exact ⟨h3,h4,h5,h6,h7,h,Prod.ext (Qmm h) h⟩
   ·rename_i h7;exact absurd h h7
  ·rw [Qd2 h1 h2] at h;exact absurd h h2
 ·rw [Qcm h1] at h;exact absurd h h1
theorem QpX {l : List Bool} {k : Nat} (h : k < l.length) : (l.map Value.bool)[k]? = some (.bool (l.getD k false)):=by
 rw [List.getElem?_map,List.getElem?_eq_getElem h,List.getD_eq_getElem?_getD,List.getElem?_eq_getElem h];rfl
theorem QfL {t : Tre} {k : Nat} {seen : List Int} (h : k < t.ns.length) : XY t (t.ns.length - k) k seen = if (XN t k seen).1 = 0 then XY t (t.ns.length - (k + 1)) (k + 1) (XN t k seen).2 else ((k : Int),(XN t k seen).1):=by
 rw [show t.ns.length - k = t.ns.length - (k + 1) + 1 by omega,XY]
theorem Qg9 {ns : List Nd} {below : List Nat} {k : Nat} (h : k < ns.length) : Qaa ns below (ns.length - k) k = if (nth ns k).us = true ∧ k ∉ below then some k else Qaa ns below (ns.length - (k + 1)) (k + 1):=by
 rw [show ns.length - k = ns.length - (k + 1) + 1 by omega,Qaa]
theorem Qdg {t : Tre} {i : Nat} (h : Qaa t.ns ((YI t.ns).map Vis.i) t.ns.length 0 = some i) : Qbz t = ((i : Int),21):=by
 unfold Qbz;rw [h]
theorem Qc3 {t : Tre} (h : Qaa t.ns ((YI t.ns).map Vis.i) t.ns.length 0 = none) : Qbz t = X5 t (YK t.ns t.ns.length 0) (YI t.ns):=by
 unfold Qbz;rw [h]
theorem Qqc {L : List LNd} {k : Nat} (hk : k < L.length) {D : List LNd} (hD : pln D = (pln L).take k) {x : LNd} (hx : x.pl = (nth L k).pl) : pln (D ++ [x]) = (pln L).take (k + 1):=by
 rw [QsM,hD,List.take_succ_eq_append_getElem (by rw [Qi];exact hk)];congr 1;have e : (pln L)[k]'(by rw [Qi];exact hk) = nth (pln L) k:=(Zk (List.getElem?_eq_getElem _)).symm;rw [e,Q3 hk,← hx];rfl
end Gx
namespace Gx
open Go Go.RowKit
section
variable {P : Program} {o : Oper} {L : Qe} {w0 : World} {M : List Nat} {As As' : List HA}
def QoV (P : Program) (t te : TypeId) : Prop:=P.underlying t = some (.pointer te) ∧ ∃ j,P.info? te = some j ∧ j.size ≠ 0
theorem Qmx {t te : TypeId} {n : Nat} {b : Bool} (h : P.underlying t = some (.pointer te)) (h2 : tsz P te = some (n,b)) (hn : n ≠ 0) : QoV P t te:=by
 refine ⟨h,?_⟩;unfold tsz at h2;cases hi : P.info? te with
 | none=>rw [hi] at h2;cases h2
 | some j=>
  refine ⟨j,rfl,fun h0=>hn ?_⟩;rw [hi] at h2;cases hd : P.underlying te with
  | none=>rw [hd] at h2;cases h2
  | some d=>
   rw [hd] at h2;injection h2 with h2
   injection h2 with h3 h4
   omega
theorem ptee {t te : TypeId} (h : P.underlying t = some (.pointer te)) : P.underlying t = some (.pointer (P.pointee t)):=by
 rw [h];simp [Program.pointee,h]
theorem QgU {t t' te : TypeId} {x y : Operand} {p : Option Addr} (ho : o.op = .binOp .eql t x y t') (hx : ev L x = some (.pointer p)) (hy : ev L y = some (.pointer none)) (ht : QoV P t te) : OpP P o L (.bool p.isNone):=by
 intro ρ w hρ;have hg : (eqGuard .eql t x y (.pointer p) (.pointer none)).run P w = .ok () w:=by unfold eqGuard;simp
 simp only [execOp,ho,hρ _ _ hx,hρ _ _ hy,Sem.run_bind,hg,run_eql_pointer_nil w t p (ptee ht.1),Result.andThen_ok,Sem.run_pure]
theorem QbQ {t t' te : TypeId} {x y : Operand} {p : Option Addr} (ho : o.op = .binOp .neq t x y t') (hx : ev L x = some (.pointer p)) (hy : ev L y = some (.pointer none)) (ht : QoV P t te) : OpP P o L (.bool p.isSome):=by
 intro ρ w hρ;have hg : (eqGuard .neq t x y (.pointer p) (.pointer none)).run P w = .ok () w:=by unfold eqGuard;simp
 have h:=run_neq_pointer_nil w t p (ptee ht.1);simp only [execOp,ho,hρ _ _ hx,hρ _ _ hy,Sem.run_bind,hg,h,Result.andThen_ok,Sem.run_pure];cases p <;> rfl
end
end Gx
namespace Gx
open Go Go.RowKit
section
variable {P : Program} {o : Oper} {L : Qe} {w0 : World} {M : List Nat} {As As' : List HA}
end
section
variable {w0 w : World} {M : List Nat} {As As' As'' : List HA} {gn cap et nt' : Nat} {a : Option Addr} {L : List LNd}
end
def usN (ns : List Nd) (i : Nat) (us : Bool) : List Nd:=ns.set i { nth ns i with us:=us }
def esN (ns : List Nd) (i : Nat) (es : List TEnt) : List Nd:=ns.set i { nth ns i with es:=es }
def csN (ns : List Nd) (i : Nat) (cs : List Int) : List Nd:=ns.set i { nth ns i with cs:=cs }
def QkZ (ns : List Nd) : Nat:=ixB (ns.map fun n=>!n.us)
def Qba (ns : List Nd) : Nat × List Nd:=if QkZ ns < ns.length then (QkZ ns,usN ns (QkZ ns) true) else (ns.length,ns ++ [⟨true,[],[]⟩])
def ZL (i : Int) : List Nd → Nat → Nat × Nat
 | [],_=>(0,0)
 | n :: ns,p=>if ixB (QdD n.cs i) < n.cs.length then (p,ixB (QdD n.cs i)) else ZL i ns (p + 1)
def Z9 (mo : Int) : Nat:=((mo + 1) / 2).toNat
def Zi (mo : Int) (ns : List Nd) (i : Nat) : List Nd:=
 if (nth (Qba ns).2 i).cs.length = 0 then esN (esN (Qba ns).2 (Qba ns).1 ((nth (Qba ns).2 i).es.drop (Z9 mo + 1))) i ((nth (Qba ns).2 i).es.take (Z9 mo))
 else csN (csN (esN (esN (Qba ns).2 (Qba ns).1 ((nth (Qba ns).2 i).es.drop (Z9 mo + 1))) i ((nth (Qba ns).2 i).es.take (Z9 mo))) (Qba ns).1 ((nth (Qba ns).2 i).cs.drop (Z9 mo + 1))) i ((nth (Qba ns).2 i).cs.take (Z9 mo + 1))
def addP (ns : List Nd) (p k : Nat) (up : TEnt) (own : Nat) : List Nd:=csN (esN ns p (QcU (nth ns p).es k up)) p (QcU (nth ns p).cs (k + 1) (own : Int))
def splN (mo : Int) (ns : List Nd) (i : Nat) : List Nd:=addP (Zi mo ns i) (ZL (i : Int) (Zi mo ns i) 0).1 (ZL (i : Int) (Zi mo ns i) 0).2 (nth (nth (Qba ns).2 i).es (Z9 mo)) (Qba ns).1
structure SplOk (mo : Int) (ns : List Nd) (i : Nat) : Prop where
 mo0 : 0 ≤ mo ∧ mo ≤ 1000
 bd : Bd ns
 lt : i < ns.length
 us : (nth ns i).us = true
 es : Z9 mo < (nth ns i).es.length
 cs : (nth ns i).cs.length = 0 ∨ Z9 mo + 1 ≤ (nth ns i).cs.length
 par : (ZL (i : Int) (Zi mo ns i) 0).1 < (Zi mo ns i).length
 parE : (ZL (i : Int) (Zi mo ns i) 0).2 ≤ (nth (Zi mo ns i) (ZL (i : Int) (Zi mo ns i) 0).1).es.length
 parC : (ZL (i : Int) (Zi mo ns i) 0).2 + 1 ≤ (nth (Zi mo ns i) (ZL (i : Int) (Zi mo ns i) 0).1).cs.length
def Qex (ns : List Nd) : Nat × List Nd:=((Qba ns).1,csN (esN (csN (esN (Qba ns).2 (Qba ns).1 (nth ns 0).es) (Qba ns).1 (nth ns 0).cs) 0 []) 0 [((Qba ns).1 : Int)])
def Qt1 (mo : Int) (ns : List Nd) (i : Nat) : List Nd:=if 0 < i ∧ mo < ((nth ns i).es.length : Int) then splN mo ns i else ns
def Quw (mo : Int) (ns : List Nd) (P : List Nat) : List Nd:=P.foldl (Qt1 mo) ns
def grwR (mo rm : Int) (ns : List Nd) : List Nd:=if rm < ((nth ns 0).es.length : Int) then if mo < ((nth (Qex ns).2 (Qex ns).1).es.length : Int) then splN mo (Qex ns).2 (Qex ns).1 else (Qex ns).2 else ns
def grwN (mo rm : Int) (ns : List Nd) (P : List Nat) : List Nd:=grwR mo rm (Quw mo ns P)
def insN (co mo rm : Int) (ns : List Nd) (x : TEnt) : List Nd:=
 let p:=Xd co ns x.key
 let leaf:=nth p.1 (p.1.length - 1)
 grwN mo rm (esN ns leaf (QcU (nth ns leaf).es p.2.1 x)) p.1.reverse
abbrev LNd.noE (n : LNd) : LNd:={ n with ea:=none,ec:=0,es:=[] }
abbrev LNd.noC (n : LNd) : LNd:={ n with ca:=none,cc:=0,cs:=[] }
abbrev ownE (et : Nat) (n : LNd) : HA:=.own (.slice n.ea n.es.length n.ec) et 2 n.es.length (n.es.flatMap TEnt.vals)
abbrev ownC (n : LNd) : HA:=.own (.slice n.ca n.cs.length n.cc) 3 1 n.cs.length (n.cs.flatMap inV)
section
variable {w0 w : World} {M : List Nat} {As As' As'' : List HA} {et : Nat} {L : List LNd} {i : Nat}
end
structure NdSet (L L' : List LNd) (i : Nat) (x : LNd) : Prop where
 lt : i < L.length
 eq : L' = L.set i x
section
variable {w0 w : World} {M : List Nat} {As A1 A2 A3 : List HA} {et : Nat} {L : List LNd} {i gn cap nt' : Nat}
end
def Sm (m : Nat) (ns : List Nd) : Prop:=∀ k,(nth ns k).es.length ≤ m ∧ (nth ns k).cs.length ≤ m
theorem Qh4 {α : Type} [Inhabited α] {l : List α} {k : Nat} (h : l.length ≤ k) : nth l k = default:=by
 unfold nth;rw [List.getD_eq_getElem?_getD,List.getElem?_eq_none h];rfl
structure SpOk (mo : Int) (ns : List Nd) (i : Nat) : Prop where
 mo0 : 0 ≤ mo ∧ mo ≤ 1000
 len : ns.length ≤ 900
 sm : Sm 900 ns
 lt : i < ns.length
 us : (nth ns i).us = true
 es : Z9 mo < (nth ns i).es.length
 cs : (nth ns i).cs.length = 0 ∨ Z9 mo + 1 ≤ (nth ns i).cs.length
 par : (ZL (i : Int) (Zi mo ns i) 0).1 < (Zi mo ns i).length
 parE : (ZL (i : Int) (Zi mo ns i) 0).2 ≤ (nth (Zi mo ns i) (ZL (i : Int) (Zi mo ns i) 0).1).es.length
 parC : (ZL (i : Int) (Zi mo ns i) 0).2 + 1 ≤ (nth (Zi mo ns i) (ZL (i : Int) (Zi mo ns i) 0).1).cs.length
abbrev LNd.non (n : LNd) : LNd:=⟨n.us,none,0,[],none,0,[]⟩
section
variable {w0 w : World} {M : List Nat} {As A1 A2 A3 : List HA} {et : Nat} {L : List LNd} {i j gn cap nt' : Nat}
end
end Gx
namespace Gx
open Go Go.RowKit
def HA.obj (b : Nat) (o : Obj) : HA:=⟨[b],fun w=>w.heap[b]? = some o,fun w w' h hk=>(h b (List.mem_singleton.2 rfl)).trans hk⟩
section
variable {w0 w : World} {M : List Nat} {As As' : List HA}
theorem HS.allocObj (h : HS w0 M As w) (o : Obj) : HS w0 M (.obj w.heap.size o :: As) (w.alloc o):=h.alloc o _ rfl (World.alloc_heap_new w o)
theorem HS.obj_get {b : Nat} {o : Obj} (h : HS w0 M As w) (hp : QP As (.obj b o) As') : w.heap[b]? = some o:=h.ok _ hp.mem
theorem HS.putObj {b : Nat} {o : Obj} (h : HS w0 M As w) (hp : QP As (.obj b o) As') (o' : Obj) : HS w0 M (.obj b o' :: As') (w.putObj b o'):=by
 have h1:=h.pick hp;have hb : w.heap[b]? = some o:=h1.head;have hlt : b < w.heap.size:=(Array.getElem?_eq_some_iff.1 hb).1;refine h1.swap (fun _ hx=>hx) rfl rfl rfl (by simp [World.putObj]) (fun c hc=>World.putObj_heap_other (fun e=>hc (by subst e;exact List.mem_singleton.2 rfl))) (World.putObj_heap_same hlt)
end
def Qil (P : Program) (l : Nat) (args : Array Value) (w : World) (R : Ending → World → Prop) : Prop:=
 ∃ f tmps assign body,(Instr.yield l args).run P w = .ok (.round l f tmps assign body) w ∧ RoundIn Fence.wide 0 P l f tmps assign body w R
section
variable {P : Program} {o : Oper} {L : Qe}
theorem QsB {C : World → Prop} {G : Type} {V : G → Value} {F : G → Prop} {C' : G → World → Prop} {x : Operand} {args : Array Operand} {vs : List Value} {ts : Array TypeId} {l : Nat} (ho : o.op = .call { callee:=.value x,args:=args,argTypes:=ts }) (hx : ev L x = some (.func (.yield l) #[] #[]))
  (ha : evs L args.toList = some vs) (hy : ∀ w,C w → Qil P l vs.toArray w fun e w'=>∃ g,e = .returned (V g) ∧ F g ∧ C' g w') : OpH P o L C V F C':=by
 intro ρ w hρ hw;obtain ⟨f,tmps,assign,body,hr,hR⟩:=hy w hw;have e1 : args.map ρ = vs.toArray:=by rw [← QdJ hρ ha,← List.map_toArray]
 unfold execOp;simp only [ho,resolve,Sem.run_bind,hρ _ _ hx,Deferred.ofValue,e1,Sem.run_pure,Result.andThen_ok,invoke,Array.empty_append,hr];exact RoundIn.mono hR fun e w' ⟨g,he,hf,hc⟩=>⟨V g,he,g,rfl,hf,hc⟩
end
def rdy (fid : FuncId) (tmps : Array Value) (ps : Array Tmp) (assign body : Code) (D : Nat) : Loop:={ state:=.ready,pending:=none,fn:=fid,tmps:=tmps,params:=ps,assign:=assign,body:=body,defers:=D }
section
variable {X : Ctx} {k : List KI} {L : Qe} {w0 : World} {M : List Nat} {As As' : List HA}
theorem Qiw {C : World → Prop} {l : Nat} (hrd : X.rd = some l) (h : ∀ w,C w → ∃ r,w.heap[l]? = some (.loop r) ∧ X.R (.returned (.bool true)) (w.putObj l (.loop { r with state:=.ready,pending:=none }))) : S X [] L C:=by
 intro a w ha hw;show (match X.rd with | none=>bodyPostM X.F 0 X.P X.fn X.R .normal a w | some l=>roundPost X.P l X.R .normal a w);rw [hrd];obtain ⟨r,h1,h2⟩:=h w hw;exact ⟨_,_,run_endRound none h1,h2⟩
theorem Qql {l D : Nat} {fid : FuncId} {tmps : Array Value} {ps : Array Tmp} {assign body : Code} (hrd : X.rd = some l) (hp : QP As (.obj l (.loop { rdy fid tmps ps assign body D with state:=.busy })) As') (h : ∀ w,HS w0 M (.obj l (.loop (rdy fid tmps ps assign body D)) :: As') w → X.R (.returned (.bool true)) w) : S X [] L (HS w0 M As):=
 Qiw hrd fun w hw=>⟨_,hw.obj_get hp,h _ (hw.putObj hp _)⟩
theorem Qff (d : List Nat) : ∀ k,post { X with df:=d } k = post X k
 | []=>by funext e a w;rfl
 | Sum.inl c :: k=>by funext e a w;cases e <;> simp only [post,Qff d k]
 | Sum.inr (Sum.inl id) :: k=>by funext e a w;cases e <;> simp only [post,Qff d k]
 | Sum.inr (Sum.inr J) :: k=>by funext e a w;cases e <;> simp only [post,Qff d k]
theorem Qrw {g : Operand} {ps : Array Tmp} {assign body : Code} {gf : FuncId} {lb : Array Value} {G : Type} {Bs : G → List HA} (hrd : X.rd = none) (hdf : X.df = []) (hg : ev L g = some (.func (.func gf) #[] lb)) (hfn : Qt X.P gf = true)
  (hit : ∀ (fid : FuncId) (D l : Nat) (a : Act) (w1 : World) (ob : Obj),ob = .loop (rdy fid a.tmps ps assign body D) → FR X.n [] L a → HS w0 M (.obj l ob :: .obj D (.deferred (some [])) :: As) w1 →
   Calls X.P gf (#[.func (.yield l) #[] #[]] ++ lb) w1 fun e w2=>(∃ v,e = .returned v) ∧ ∃ x,HS w0 M (.obj l ob :: .obj D (.deferred (some [])) :: Bs x) w2)
  (next : ∀ D x,S { X with df:=[D] } k L (HS w0 M (.obj D (.deferred (some [])) :: Bs x))) : S X (.c (.rangeFunc g ps assign body) :: k) L (HS w0 M As):=by
 intro a w ha hw;have ha0 : FR X.n [] L a:=by rw [← hdf];exact ha
 refine wpIn_rangeFunc (F:=X.F) (n:=0) fun fid _=>?_;have hro : X.F.round = none:=hrd;rw [hro];have hw1:=(hw.allocObj (.deferred (some []))).allocObj (.loop (rdy fid a.tmps ps assign body w.heap.size));rw [World.size_alloc] at hw1;have hen:=run_enterLoop_outer (P:=X.P) (w:=w) fid a.tmps ps assign body;obtain ⟨W1,hW1⟩ : ∃ W1,(w.alloc (.deferred (some []))).alloc (.loop (rdy fid a.tmps ps assign body w.heap.size)) = W1:=⟨_,rfl⟩;rw [hW1] at hw1;rw [show (Loop.mk .ready none fid a.tmps ps assign body w.heap.size) = rdy fid a.tmps ps assign body w.heap.size from rfl,hW1] at hen
 refine ⟨w.heap.size + 1,[{ target:=.collected w.heap.size,args:=#[] }],W1,{ target:=.fn (.func gf) lb,args:=#[.func (.yield (w.heap.size + 1)) #[] #[]] },W1,gf,
  #[.func (.yield (w.heap.size + 1)) #[] #[]] ++ lb,W1,hen,?_,fun _ _=>trivial,?_,fun h=>(by cases h),?_⟩
 ·simp only [resolve,ha.evl hg];simp [go_sem]
 ·simp [invoke,go_sem,QdP hfn]
 ·refine CallsIn.mono (X.callsIn (hit fid _ _ a _ _ rfl ha0 hw1)) fun e w2 he=>?_;obtain ⟨⟨v,rfl⟩,x,hx⟩:=he;refine ⟨none,_,run_endLoop (hx.obj_get .here) (by simp [rdy]),?_⟩;have h3:=next w.heap.size x { a with defers:=[{ target:=.collected w.heap.size,args:=#[] }] ++ a.defers } _ ⟨by show _ ++ a.defers = _;rw [ha0.defers];rfl,ha0.size,ha0.slot⟩ (hx.putObj .here (.loop { rdy fid a.tmps ps assign body w.heap.size with state:=.exhausted })).tail
  rw [Qff] at h3;exact h3
end
end Gx
namespace Gx
open Go Go.RowKit
theorem Qq6 {X : Ctx} {k : List KI} {L : Qe} {C : World → Prop} {α : Type} {c : Code} (md : List Nat) (Lm : α → Qe) (I : α → Prop) (h1 : S X (.c c :: .join (AtI X.n X.df (fun x=>Lm x ++ QcP md L) (fun _=>C) I) :: k) L C) (h2 : ∀ x,I x → S X k (Lm x ++ QcP md L) C) : S X (.c c :: k) L C:=
 Yi md Lm (fun _=>C) I h1 h2
end Gx
namespace Gx
open Go Go.RowKit
def HA.pure (p : Prop) : HA:=⟨[],fun _=>p,fun _ _ _ h=>h⟩
section
variable {w0 w : World} {M : List Nat} {As As' : List HA} {p : Prop}
theorem Quq {X : Ctx} {L : Qe} {D : Nat} (hr : X.fn.results = #[]) (hp : QP As (.obj D (.deferred (some []))) As') (h : ∀ w,HS w0 M As' w → X.R (.returned (.tuple #[])) w) (hrd : X.rd = none:=by rfl) (hdf : X.df = [D]:=by rfl) : S X [] L (HS w0 M As):=by
 intro a w ha hw;show (match X.rd with | none=>bodyPostM X.F 0 X.P X.fn X.R .normal a w | some l=>roundPost X.P l X.R .normal a w);rw [hrd];show LeavesInM X.F 0 X.P X.fn a.tmps X.R a.defers .returning w;rw [ha.defers,hdf];have h1:=(hw.putObj hp (.deferred none)).tail;exact ⟨by simp,.inl ⟨D,_,rfl,run_takeDeferred (hw.obj_get hp),.tuple #[],results_none hr _ _ _,h _ h1⟩⟩
end
end Gx
namespace Gx
open Go Go.RowKit
abbrev iN (P : List Nat) : List Int:=P.map fun i : Nat=>(i : Int)
def Qtn (mo : Int) : List Nd → List Nat → Prop
 | _,[]=>True
 | ns,i :: P=>(i < ns.length ∧ (0 < i → mo < ((nth ns i).es.length : Int) → SpOk mo ns i)) ∧ Qtn mo (Qt1 mo ns i) P
structure RootOk (mo rm : Int) (ns : List Nd) : Prop where
 lt : 0 < ns.length
 len : ns.length ≤ 900
 us : (nth ns 0).us = true
 spl : rm < ((nth ns 0).es.length : Int) → mo < ((nth (Qex ns).2 (Qex ns).1).es.length : Int) → SpOk mo (Qex ns).2 (Qex ns).1
def QeG (co : Int) (ns : List Nd) (key : List UInt8) : Nat:=nth (Xd co ns key).1 ((Xd co ns key).1.length - 1)
def Qra (co : Int) (ns : List Nd) (x : TEnt) : List Nd:=esN ns (QeG co ns x.key) (QcU (nth ns (QeG co ns x.key)).es (Xd co ns x.key).2.1 x)
def insT (co mo rm : Int) (ns : List Nd) (x : TEnt) : List Nd:=if (Xd co ns x.key).2.2 = true then ns else grwN mo rm (Qra co ns x) (Xd co ns x.key).1.reverse
def insE (co mo rm : Int) (ns : List Nd) (x : TEnt) : Int:=if (Xd co ns x.key).2.2 = true then 5 else if (insT co mo rm ns x).length ≤ 120 then 0 else 16
structure InsOk (co mo rm : Int) (ns : List Nd) (x : TEnt) : Prop where
 ne : 0 < (Xd co ns x.key).1.length
 len : (Xd co ns x.key).1.length ≤ 900
 lf : QeG co ns x.key < ns.length
 es : (nth ns (QeG co ns x.key)).es.length ≤ 900
 pl : (Xd co ns x.key).2.1 ≤ (nth ns (QeG co ns x.key)).es.length
 grw : Qtn mo (Qra co ns x) (Xd co ns x.key).1.reverse
 root : RootOk mo rm (Quw mo (Qra co ns x) (Xd co ns x.key).1.reverse)
section
variable {w0 w : World} {M : List Nat} {As As' : List HA} {a : Option Addr} {cap : Nat} {P : List Nat}
theorem HS.kids_some {l : List Int} (hn : 0 < l.length) (h : HS w0 M As w) (hp : QP As (.kids a cap l) As') : ∃ g,a = some ⟨g,0,none⟩:=by
 obtain ⟨g,e,_⟩:=HS.own_blk hn hp h;exact ⟨g,e⟩
end
section
variable {w0 w : World} {M : List Nat} {As A1 A2 A3 : List HA} {et : Nat} {L : List LNd} {i t gn cap nt' : Nat} {y : LNd}
end
section
variable {w0 w : World} {M : List Nat} {As A1 A2 A3 : List HA} {et : Nat} {L : List LNd} {i gn cap nt' : Nat}
end
def givF (ns : List Nd) (p k f t : Nat) : List Nd:=
 let P:=nth ns p;let F:=nth ns f;let T:=nth ns t
 let n:=esN (esN (esN ns t (QcU T.es 0 (nth P.es k))) p (P.es.set k (nth F.es (F.es.length - 1)))) f (F.es.take (F.es.length - 1))
 if F.cs.length = 0 then n else csN (csN n t (QcU T.cs 0 (F.cs.getD (F.cs.length - 1) 0))) f (F.cs.take (F.cs.length - 1))
def givB (ns : List Nd) (p k f t : Nat) : List Nd:=
 let P:=nth ns p;let F:=nth ns f;let T:=nth ns t
 let n:=esN (esN (esN ns t (T.es ++ [nth P.es k])) p (P.es.set k (nth F.es 0))) f (Qei F.es 0)
 if F.cs.length = 0 then n else csN (csN n t (T.cs ++ [F.cs.getD 0 0])) f (Qei F.cs 0)
structure GivOk (ns : List Nd) (p k f t : Nat) : Prop where
 pl : p < ns.length
 fl : f < ns.length
 tl : t < ns.length
 pf : p ≠ f
 pt : p ≠ t
 ft : f ≠ t
 ke : k < (nth ns p).es.length
 kc : k + 1 < (nth ns p).cs.length
 fe : 0 < (nth ns f).es.length
 len : ns.length ≤ 900
 sm : Sm 900 ns
abbrev LNd.gone : LNd:=⟨false,none,0,[],none,0,[]⟩
section
variable {w0 w : World} {M : List Nat} {As A1 A2 A3 : List HA} {et : Nat} {L : List LNd} {i j gn cap nt' : Nat}
end
def mrgN (ns : List Nd) (p k t f : Nat) : List Nd:=
 (csN (esN (csN (esN ns t ((nth ns t).es ++ nth (nth ns p).es k :: (nth ns f).es)) t ((nth ns t).cs ++ (nth ns f).cs)) p (Qei (nth ns p).es k)) p (Qei (nth ns p).cs (k + 1))).set f ⟨false,[],[]⟩
structure MrgOk (ns : List Nd) (p k f t : Nat) : Prop where
 pl : p < ns.length
 fl : f < ns.length
 tl : t < ns.length
 pf : p ≠ f
 pt : p ≠ t
 ft : f ≠ t
 ke : k < (nth ns p).es.length
 kc : k + 1 < (nth ns p).cs.length
 len : ns.length ≤ 900
 sm : Sm 900 ns
def kdN (ns : List Nd) (p k : Nat) : Nat:=((nth ns p).cs.getD k 0).toNat
def Qs7 (mo : Int) (ns : List Nd) (p : Nat) (x : Int) : Bool:=(decide (0 ≤ x) && decide (x ≤ ((nth ns p).cs.length : Int) - 1)) && decide (mo / 2 < ((nth ns (kdN ns p x.toNat)).es.length : Int))
def filP (mo : Int) (ns : List Nd) (p k : Nat) : List Nd:=
 if Qs7 mo ns p ((k : Int) - 1) = true then givF ns p (k - 1) (kdN ns p (k - 1)) (kdN ns p k)
 else if Qs7 mo ns p ((k : Int) + 1) = true then givB ns p k (kdN ns p (k + 1)) (kdN ns p k)
 else if 0 < k then mrgN ns p (k - 1) (kdN ns p (k - 1)) (kdN ns p k)
 else if 1 < (nth ns p).cs.length then mrgN ns p k (kdN ns p k) (kdN ns p (k + 1))
 else ns
def filN (mo : Int) (ns : List Nd) (i : Nat) : List Nd:=filP mo ns (ZL (i : Int) ns 0).1 (ZL (i : Int) ns 0).2
structure FilOk (mo : Int) (ns : List Nd) (p k : Nat) : Prop where
 mo0 : 0 ≤ mo ∧ mo ≤ 1000
 pl : p < ns.length
 kl : k < (nth ns p).cs.length
 sh : (nth ns p).cs.length = (nth ns p).es.length + 1
 kid : ∀ x,x < (nth ns p).cs.length → 0 ≤ (nth ns p).cs.getD x 0 ∧ kdN ns p x < ns.length ∧ p ≠ kdN ns p x
 dis : ∀ x y,x < (nth ns p).cs.length → y < (nth ns p).cs.length → x ≠ y → kdN ns p x ≠ kdN ns p y
 len : ns.length ≤ 900
 sm : Sm 900 ns
section
variable {mo : Int} {ns : List Nd} {p k : Nat}
end
def tln (ns : List Nd) : Nat → Nat
 | 0=>0
 | n + 1=>if (nth ns n).us = true then n + 1 else tln ns n
def trmN (ns : List Nd) : List Nd:=ns.take (tln ns ns.length)
section
variable {w0 w : World} {M : List Nat} {As As' : List HA} {et : Nat} {L : List LNd}
end
def rgtN (ns : List Nd) : Nat → Nat → List Nat
 | 0,i=>[i]
 | f + 1,i=>if (nth ns i).cs.length = 0 then [i] else i :: rgtN ns f (kdN ns i ((nth ns i).cs.length - 1))
def Qto (ns : List Nd) : Nat → Nat → Prop
 | 0,_=>False
 | f + 1,i=>i < ns.length ∧ ((nth ns i).cs.length = 0 ∨ (0 ≤ (nth ns i).cs.getD ((nth ns i).cs.length - 1) 0 ∧ Qto ns f (kdN ns i ((nth ns i).cs.length - 1))))
def Q1 (P : List Nat) : Nat:=nth P (P.length - 1)
def ZM (ns : List Nd) (P : List Nat) (at' : Nat) : List Nat:=if (nth ns (Q1 P)).cs.length = 0 then P else P ++ rgtN ns ns.length (kdN ns (Q1 P) at')
def QuW (ns : List Nd) (P : List Nat) (at' : Nat) : Nat:=if (nth ns (Q1 P)).cs.length = 0 then at' else (nth ns (Q1 (ZM ns P at'))).es.length - 1
def QmB (ns : List Nd) (P : List Nat) (at' : Nat) : List Nd:=if (nth ns (Q1 P)).cs.length = 0 then ns else esN ns (Q1 P) ((nth ns (Q1 P)).es.set at' (nth (nth ns (Q1 (ZM ns P at'))).es ((nth ns (Q1 (ZM ns P at'))).es.length - 1)))
def Qox (ns : List Nd) (P : List Nat) (at' : Nat) : List Nd:=esN (QmB ns P at') (Q1 (ZM ns P at')) (Qei (nth (QmB ns P at') (Q1 (ZM ns P at'))).es (QuW ns P at'))
def QuL (mo : Int) (ns : List Nd) (i : Nat) : List Nd:=if 0 < i ∧ ((nth ns i).es.length : Int) < mo / 2 then filN mo ns i else ns
def QvB (mo : Int) (ns : List Nd) (P : List Nat) : List Nd:=P.foldl (QuL mo) ns
def rotN (rm : Int) (ns : List Nd) : List Nd:=
 if (nth ns 0).es.length = 0 ∧ (nth ns 0).cs.length = 1 then
  if ((nth ns (kdN ns 0 0)).es.length : Int) ≤ rm then (ns.set 0 (nth ns (kdN ns 0 0))).set (kdN ns 0 0) ⟨false,[],[]⟩ else ns
 else ns
def remN (mo rm : Int) (ns : List Nd) (P : List Nat) (at' : Nat) : List Nd:=trmN (rotN rm (QvB mo (Qox ns P at') (ZM ns P at').reverse))
def Qp7 (mo : Int) : List Nd → List Nat → Prop
 | _,[]=>True
 | ns,i :: P=>(i < ns.length ∧ (0 < i → ((nth ns i).es.length : Int) < mo / 2 → FilOk mo ns (ZL (i : Int) ns 0).1 (ZL (i : Int) ns 0).2)) ∧ Qp7 mo (QuL mo ns i) P
structure RotOk (rm : Int) (ns : List Nd) : Prop where
 lt : 0 < ns.length
 len : ns.length ≤ 900
 us : (nth ns 0).us = true
 kid : (nth ns 0).cs.length = 1 → 0 < (nth ns 0).cs.getD 0 0 ∧ kdN ns 0 0 < ns.length ∧ (nth ns (kdN ns 0 0)).us = true
structure RemOk (mo rm : Int) (ns : List Nd) (P : List Nat) (at' : Nat) : Prop where
 mo0 : 0 ≤ mo ∧ mo ≤ 1000
 ne : 0 < P.length
 len : P.length ≤ 900
 nl : ns.length ≤ 900
 sm : Sm 900 ns
 lst : Q1 P < ns.length
 atk : at' < (nth ns (Q1 P)).es.length
 rgt : 0 < (nth ns (Q1 P)).cs.length → at' < (nth ns (Q1 P)).cs.length ∧ 0 ≤ (nth ns (Q1 P)).cs.getD at' 0 ∧ Qto ns ns.length (kdN ns (Q1 P) at') ∧ Q1 P ≠ Q1 (ZM ns P at') ∧ 0 < (nth ns (Q1 (ZM ns P at'))).es.length ∧ Q1 (ZM ns P at') < ns.length
 qn : 0 < (ZM ns P at').length ∧ (ZM ns P at').length ≤ 1900
 ql : Q1 (ZM ns P at') < ns.length
 dl : QuW ns P at' < (nth (QmB ns P at') (Q1 (ZM ns P at'))).es.length
 sm1 : Sm 900 (QmB ns P at')
 fil : Qp7 mo (Qox ns P at') (ZM ns P at').reverse
 rot : RotOk rm (QvB mo (Qox ns P at') (ZM ns P at').reverse)
abbrev ownP (a : Option Addr) (c : Nat) (P : List Nat) : HA:=.own (.slice a P.length c) 3 1 P.length (P.map fun i : Nat=>Value.int .i64 (i : Int))
section
variable {w0 w : World} {M : List Nat} {As A1 A2 A3 : List HA} {a : Option Addr} {c : Nat} {P : List Nat}
end
section
variable {w0 w : World} {M : List Nat} {As A1 A2 A3 : List HA} {et : Nat} {L : List LNd} {i j gn cap nt' : Nat}
end
section
variable {ns : List Nd} {P : List Nat} {k : Nat} {I F : Nd} {rm : Int}
end
theorem Qd5 {α : Type} [Inhabited α] {l m : List α} (hl : l.length = m.length) (h : ∀ j,j < l.length → nth l j = nth m j) : l = m:=by
 apply List.ext_getElem?;intro j;rcases Nat.lt_or_ge j l.length with hj | hj
 ·rw [Qac hj,Qac (by omega),h j hj]
 ·rw [List.getElem?_eq_none hj,List.getElem?_eq_none (by omega)]
def chgK (a b : List Nd) (k : Nat) : List Nat:=(List.range k).filter fun i=>decide (nth a i ≠ nth b i)
def chgN (a b : List Nd) : List Nat:=chgK a b (max a.length b.length)
theorem Qsg {x y : TEnt} (h1 : (bs x.key).data.toList = (bs y.key).data.toList) (h2 : (bs x.val).data.toList = (bs y.val).data.toList) : x = y:=by
 cases x;cases y;simp [bs] at h1 h2;rw [h1,h2]
theorem XJ (L : List LNd) (k : Nat) : nth (pln L) k = (nth L k).pl:=by
 rcases Nat.lt_or_ge k L.length with h | h
 ·exact Q3 h
 ·rw [Qh4 (by rw [Qi];exact h),Qh4 h];rfl
theorem QwR (n m : Nd) : decide (n = m) = (decide (n.us = m.us) && (decide (n.es = m.es) && decide (n.cs = m.cs))):=by
 cases n;cases m;simp only [Nd.mk.injEq];rw [Bool.decide_and,Bool.decide_and]
theorem Qpk (n m : LNd) : ((n.us == m.us && decide (n.es = m.es)) && decide (n.cs = m.cs)) = decide (n.pl = m.pl):=by
 rw [QwR,Bool.and_assoc];rfl
abbrev LNd.fre : LNd:=⟨true,none,0,[],none,0,[]⟩
section
variable {w0 w : World} {M : List Nat} {As A1 A2 A3 : List HA} {et : Nat} {L : List LNd} {i j gn cap nt' : Nat}
end
section
variable {w0 w : World} {M : List Nat} {As A1 A2 A3 : List HA} {et : Nat} {L : List LNd} {i gn cap nt' : Nat}
end
def frsI (ns : List Nd) : Nat → Nat → Nat
 | 0,i=>i
 | f + 1,i=>if i < ns.length then if (nth ns i).us = true then frsI ns f (i + 1) else i else i
def QvL (ns : List Nd) : Nat:=frsI ns ns.length 1
def QfJ (ns : List Nd) : Nat × List Nd:=if QvL ns < ns.length then (QvL ns,ns.set (QvL ns) ⟨true,[],[]⟩) else (ns.length,ns ++ [⟨true,[],[]⟩])
def ixR (cs : List Int) (c : Int) : Nat:=if ixB (QdD cs c) < cs.length then ixB (QdD cs c) else 0
def QcN (mo : Int) (ns : List Nd) (i : Nat) : List Nd:=
 let F:=(QfJ ns).2;let o:=(QfJ ns).1;let x:=nth F i
 let n:=esN (esN F o (x.es.drop (Z9 mo + 1))) i (x.es.take (Z9 mo))
 if x.cs.length = 0 then n else csN (csN n o (x.cs.drop (Z9 mo + 1))) i (x.cs.take (Z9 mo + 1))
def Qsa (mo : Int) (ns : List Nd) (p i : Nat) : List Nd:=addP (QcN mo ns i) p (ixR (nth (QcN mo ns i) p).cs (i : Int)) (nth (nth (QfJ ns).2 i).es (Z9 mo)) (QfJ ns).1
def Qeg (ns : List Nd) : Nat × List Nd:=((QfJ ns).1,csN (esN (csN (esN (QfJ ns).2 (QfJ ns).1 (nth (QfJ ns).2 0).es) (QfJ ns).1 (nth (QfJ ns).2 0).cs) 0 []) 0 [((QfJ ns).1 : Int)])
def Ql9 (mo : Int) (P : List Nat) : Nat → List Nd → List Nd
 | 0,ns=>ns
 | k + 1,ns=>Ql9 mo P k (if mo < ((nth ns (nth P (k + 1))).es.length : Int) then Qsa mo ns (nth P k) (nth P (k + 1)) else ns)
def QwW (mo rm : Int) (ns : List Nd) : List Nd:=if rm < ((nth ns 0).es.length : Int) then if mo < ((nth (Qeg ns).2 (Qeg ns).1).es.length : Int) then Qsa mo (Qeg ns).2 0 (Qeg ns).1 else (Qeg ns).2 else ns
def insR (co mo rm : Int) (ns : List Nd) (x : TEnt) : List Nd:=
 let P:=(Xd co ns x.key).1;let lf:=Q1 P
 QwW mo rm (Ql9 mo P (P.length - 1) (esN ns lf (QcU (nth ns lf).es (plc co (nth ns lf).es x.key) x)))
structure SpROk (mo : Int) (ns : List Nd) (p i : Nat) : Prop where
 mo0 : 0 ≤ mo ∧ mo ≤ 1000
 len : ns.length ≤ 900
 sm : Sm 900 ns
 lt : i < ns.length
 us : (nth ns i).us = true
 es : Z9 mo < (nth ns i).es.length
 cs : (nth ns i).cs.length = 0 ∨ Z9 mo + 1 ≤ (nth ns i).cs.length
 par : p < ns.length
 parE : ixR (nth (QcN mo ns i) p).cs (i : Int) ≤ (nth (QcN mo ns i) p).es.length
 parC : ixR (nth (QcN mo ns i) p).cs (i : Int) + 1 ≤ (nth (QcN mo ns i) p).cs.length
def Qn2 (mo : Int) (P : List Nat) : Nat → List Nd → Prop
 | 0,_=>True
 | k + 1,ns=>(nth P (k + 1) < ns.length ∧ (mo < ((nth ns (nth P (k + 1))).es.length : Int) → SpROk mo ns (nth P k) (nth P (k + 1)))) ∧ Qn2 mo P k (if mo < ((nth ns (nth P (k + 1))).es.length : Int) then Qsa mo ns (nth P k) (nth P (k + 1)) else ns)
structure RootROk (mo rm : Int) (ns : List Nd) : Prop where
 lt : 0 < ns.length
 len : ns.length ≤ 900
 us : (nth ns 0).us = true
 spl : rm < ((nth ns 0).es.length : Int) → mo < ((nth (Qeg ns).2 (Qeg ns).1).es.length : Int) → SpROk mo (Qeg ns).2 0 (Qeg ns).1
structure InsROk (co mo rm : Int) (ns : List Nd) (x : TEnt) : Prop where
 ne : 0 < (Xd co ns x.key).1.length
 len : (Xd co ns x.key).1.length ≤ 900
 lf : Q1 (Xd co ns x.key).1 < ns.length
 grw : Qn2 mo (Xd co ns x.key).1 ((Xd co ns x.key).1.length - 1) (esN ns (Q1 (Xd co ns x.key).1) (QcU (nth ns (Q1 (Xd co ns x.key).1)).es (plc co (nth ns (Q1 (Xd co ns x.key).1)).es x.key) x))
 root : RootROk mo rm (Ql9 mo (Xd co ns x.key).1 ((Xd co ns x.key).1.length - 1) (esN ns (Q1 (Xd co ns x.key).1) (QcU (nth ns (Q1 (Xd co ns x.key).1)).es (plc co (nth ns (Q1 (Xd co ns x.key).1)).es x.key) x)))
def Qs8 (co : Int) (ns : List Nd) (x : TEnt) : List Nd:=esN ns (Q1 (Xd co ns x.key).1) (QcU (nth ns (Q1 (Xd co ns x.key).1)).es (plc co (nth ns (Q1 (Xd co ns x.key).1)).es x.key) x)
def smB (m : Nat) (ns : List Nd) : Bool:=ns.all fun n=>decide (n.es.length ≤ m) && decide (n.cs.length ≤ m)
def bdB (ns : List Nd) : Bool:=decide (ns.length ≤ 1000) && smB 1000 ns
def spRB (mo : Int) (ns : List Nd) (p i : Nat) : Bool:=decide ((0 ≤ mo ∧ mo ≤ 1000) ∧ ns.length ≤ 900 ∧ smB 900 ns = true ∧ i < ns.length ∧ (nth ns i).us = true ∧ Z9 mo < (nth ns i).es.length ∧ ((nth ns i).cs.length = 0 ∨ Z9 mo + 1 ≤ (nth ns i).cs.length) ∧ p < ns.length ∧ ixR (nth (QcN mo ns i) p).cs (i : Int) ≤ (nth (QcN mo ns i) p).es.length ∧ ixR (nth (QcN mo ns i) p).cs (i : Int) + 1 ≤ (nth (QcN mo ns i) p).cs.length)
def QsY (mo : Int) (P : List Nat) : Nat → List Nd → Bool
 | 0,_=>true
 | k + 1,ns=>(decide (nth P (k + 1) < ns.length) && (!decide (mo < ((nth ns (nth P (k + 1))).es.length : Int)) || spRB mo ns (nth P k) (nth P (k + 1)))) && QsY mo P k (if mo < ((nth ns (nth P (k + 1))).es.length : Int) then Qsa mo ns (nth P k) (nth P (k + 1)) else ns)
def Qut (mo rm : Int) (ns : List Nd) : Bool:=decide (0 < ns.length ∧ ns.length ≤ 900 ∧ (nth ns 0).us = true ∧ (rm < ((nth ns 0).es.length : Int) → mo < ((nth (Qeg ns).2 (Qeg ns).1).es.length : Int) → spRB mo (Qeg ns).2 0 (Qeg ns).1 = true))
def Qvn (co mo rm : Int) (ns : List Nd) (x : TEnt) : Bool:=decide (0 < (Xd co ns x.key).1.length ∧ (Xd co ns x.key).1.length ≤ 900 ∧ Q1 (Xd co ns x.key).1 < ns.length ∧ QsY mo (Xd co ns x.key).1 ((Xd co ns x.key).1.length - 1) (Qs8 co ns x) = true ∧ Qut mo rm (Ql9 mo (Xd co ns x.key).1 ((Xd co ns x.key).1.length - 1) (Qs8 co ns x)) = true)
def spB (mo : Int) (ns : List Nd) (i : Nat) : Bool:=decide ((0 ≤ mo ∧ mo ≤ 1000) ∧ ns.length ≤ 900 ∧ smB 900 ns = true ∧ i < ns.length ∧ (nth ns i).us = true ∧ Z9 mo < (nth ns i).es.length ∧ ((nth ns i).cs.length = 0 ∨ Z9 mo + 1 ≤ (nth ns i).cs.length) ∧ (ZL (i : Int) (Zi mo ns i) 0).1 < (Zi mo ns i).length ∧ (ZL (i : Int) (Zi mo ns i) 0).2 ≤ (nth (Zi mo ns i) (ZL (i : Int) (Zi mo ns i) 0).1).es.length ∧ (ZL (i : Int) (Zi mo ns i) 0).2 + 1 ≤ (nth (Zi mo ns i) (ZL (i : Int) (Zi mo ns i) 0).1).cs.length)
def grwB (mo : Int) : List Nd → List Nat → Bool
 | _,[]=>true
 | ns,i :: P=>(decide (i < ns.length) && (!decide (0 < i ∧ mo < ((nth ns i).es.length : Int)) || spB mo ns i)) && grwB mo (Qt1 mo ns i) P
def Qwo (mo rm : Int) (ns : List Nd) : Bool:=decide (0 < ns.length ∧ ns.length ≤ 900 ∧ (nth ns 0).us = true ∧ (rm < ((nth ns 0).es.length : Int) → mo < ((nth (Qex ns).2 (Qex ns).1).es.length : Int) → spB mo (Qex ns).2 (Qex ns).1 = true))
def insOB (co mo rm : Int) (ns : List Nd) (x : TEnt) : Bool:=decide (0 < (Xd co ns x.key).1.length ∧ (Xd co ns x.key).1.length ≤ 900 ∧ QeG co ns x.key < ns.length ∧ (nth ns (QeG co ns x.key)).es.length ≤ 900 ∧ (Xd co ns x.key).2.1 ≤ (nth ns (QeG co ns x.key)).es.length ∧ grwB mo (Qra co ns x) (Xd co ns x.key).1.reverse = true ∧ Qwo mo rm (Quw mo (Qra co ns x) (Xd co ns x.key).1.reverse) = true)
def filB (mo : Int) (ns : List Nd) (p k : Nat) : Bool:=decide ((0 ≤ mo ∧ mo ≤ 1000) ∧ p < ns.length ∧ k < (nth ns p).cs.length ∧ (nth ns p).cs.length = (nth ns p).es.length + 1 ∧ (∀ x,x < (nth ns p).cs.length → 0 ≤ (nth ns p).cs.getD x 0 ∧ kdN ns p x < ns.length ∧ p ≠ kdN ns p x) ∧ (∀ x,x < (nth ns p).cs.length → ∀ y,y < (nth ns p).cs.length → x ≠ y → kdN ns p x ≠ kdN ns p y) ∧ ns.length ≤ 900 ∧ smB 900 ns = true)
def Qtg (mo : Int) : List Nd → List Nat → Bool
 | _,[]=>true
 | ns,i :: P=>(decide (i < ns.length) && (!decide (0 < i ∧ ((nth ns i).es.length : Int) < mo / 2) || filB mo ns (ZL (i : Int) ns 0).1 (ZL (i : Int) ns 0).2)) && Qtg mo (QuL mo ns i) P
def rotB (ns : List Nd) : Bool:=decide (0 < ns.length ∧ ns.length ≤ 900 ∧ (nth ns 0).us = true ∧ ((nth ns 0).cs.length = 1 → 0 < (nth ns 0).cs.getD 0 0 ∧ kdN ns 0 0 < ns.length ∧ (nth ns (kdN ns 0 0)).us = true))
def rgtB (ns : List Nd) : Nat → Nat → Bool
 | 0,_=>false
 | f + 1,i=>decide (i < ns.length) && (decide ((nth ns i).cs.length = 0) || (decide (0 ≤ (nth ns i).cs.getD ((nth ns i).cs.length - 1) 0) && rgtB ns f (kdN ns i ((nth ns i).cs.length - 1))))
def remB (mo rm : Int) (ns : List Nd) (P : List Nat) (k : Nat) : Bool:=decide ((0 ≤ mo ∧ mo ≤ 1000) ∧ 0 < P.length ∧ P.length ≤ 900 ∧ ns.length ≤ 900 ∧ smB 900 ns = true ∧ Q1 P < ns.length ∧ k < (nth ns (Q1 P)).es.length ∧ (0 < (nth ns (Q1 P)).cs.length → k < (nth ns (Q1 P)).cs.length ∧ 0 ≤ (nth ns (Q1 P)).cs.getD k 0 ∧ rgtB ns ns.length (kdN ns (Q1 P) k) = true ∧ Q1 P ≠ Q1 (ZM ns P k) ∧ 0 < (nth ns (Q1 (ZM ns P k))).es.length ∧ Q1 (ZM ns P k) < ns.length) ∧ (0 < (ZM ns P k).length ∧ (ZM ns P k).length ≤ 1900) ∧ Q1 (ZM ns P k) < ns.length ∧ QuW ns P k < (nth (QmB ns P k) (Q1 (ZM ns P k))).es.length ∧ smB 900 (QmB ns P k) = true ∧ Qtg mo (Qox ns P k) (ZM ns P k).reverse = true ∧ rotB (QvB mo (Qox ns P k) (ZM ns P k).reverse) = true)
def QqO (k : Nat) : TEnt:=⟨[UInt8.ofNat (97 + k)],[]⟩
def Qem : Nat → List Nd
 | 0=>[⟨true,[],[]⟩]
 | k + 1=>insR 0 4 2 (Qem k) (QqO k)
def letB (k : Nat) : Bool:=decide (0 < (Qem k).length) && (bdB (Qem k) && (decide ((XY ⟨0,4,2,Qem k⟩ (Qem k).length 0 []).2 = 0) && (Qvn 0 4 2 (Qem k) (QqO k) && Xa 0 (QqO k).key)))
structure LetOk (k : Nat) : Prop where
 n0 : 0 < (Qem k).length
 bd : Bd (Qem k)
 tok : TOk 0 (Qem k)
 ins : InsROk 0 4 2 (Qem k) (QqO k)
 key : Xa 0 (QqO k).key = true
abbrev aK : TEnt:=⟨[107],[]⟩
abbrev i0 : Int:=((0 : Nat) : Int)
abbrev aR : List Nd:=remN 4 2 (Qem 11) (Xd i0 (Qem 11) [99]).1 (Xd i0 (Qem 11) [99]).2.1
end Gx
namespace Gx
open Go Go.RowKit
section
variable {X : Ctx} {ops : Array Oper} {F : List Nat} {fuel i : Nat} {listed : Array Bool} {k : List KI} {L : Qe} {d ty : Nat} {op : Op} {pos : String} {aft : Array Edge} {w0 : World} {M : List Nat} {As Bs : List HA}
theorem QsW {B : World → Prop} {G : Type} {V : G → Value} {Fg : G → Prop} {C' : G → World → Prop} {j : Nat} {want b : Bool} (i dj : Nat) (hi : ops[i]? = some ⟨some d,op,ty,pos,aft,some (j,want)⟩) (hj : (ops[j]?).bind (·.dst) = some dj) (hb : Qe.get L dj = some (.bool b)) (hw : b = want) (h : OpH X.P ⟨some d,op,ty,pos,aft,none⟩ L (HS w0 M As) V Fg C') (hr : (Region.ready .any ops listed == [i]) = true) (hB : ∀ w,HS w0 M As w → B w) (hd : Nat.blt d X.n = true)
  (next : ∀ g,Fg g → D X ops F B fuel (listed.setIfInBounds i true) k ((d,V g) :: L) (C' g)) : D X ops F B (fuel + 1) listed k L (HS w0 M As):=by
 intro hcl a ha;have hy : yielded ops a.tmps j = some b:=by simp [yielded,hj,ha.slot _ _ hb]
 have hr' : Region.ready .any ops listed = [i]:=by simpa using hr
 refine Qfl hr' (fun _=>⟨hB,HS.stab _ _ _⟩) ?_;unfold Yo;simp only [hi];rw [if_pos (by simp [Region.wanted,hy,hw])];exact ⟨G,V,Fg,C',fun w hw=>h a.eval w ha.agr hw,fun g hg=>next g hg (hcl.set (by rw [hr'];exact List.mem_singleton.2 rfl)) _ (ha.put d _ hd)⟩
end
end Gx
namespace Gx
open Go Go.RowKit
section
variable {w0 w : World} {M : List Nat} {As Cs Ds Es Fs : List HA}
end
end Gx
namespace Gx
open Go Go.RowKit
end Gx
namespace Gx
open Go Go.RowKit
section
variable {X : Ctx} {ops : Array Oper} {k : List KI} {L : Qe} {C : World → Prop}
end
end Gx
namespace Gx
open Go Go.RowKit
section
variable {P : Program} {o : Oper} {L : Qe} {w0 : World} {M : List Nat} {As : List HA}
end
section
variable {X : Ctx} {ops : Array Oper} {k : List KI} {L : Qe} {C : World → Prop}
end
def endsL (fid : FuncId) (tmps : Array Value) (ps : Array Tmp) (assign body : Code) (D : Nat) : Option Nat → Obj
 | none=>.loop (rdy fid tmps ps assign body D)
 | some id=>.loop { rdy fid tmps ps assign body D with state:=.done,pending:=some (.exit id) }
section
variable {X : Ctx} {k : List KI} {L : Qe} {w0 : World} {M : List Nat} {As As' : List HA}
def rngK (k : List KI) : Option Nat → List KI
 | none=>k
 | some id=>.c (.exit id) :: k
end
def doneO (id : Nat) : Obj → Obj
 | .loop r=>.loop { r with state:=.done,pending:=some (.exit id) }
 | o=>o
inductive RunY {S α : Type} (st : S → α → S → Prop) (co : S → Bool) : S → List α → S → Bool → Prop
 | nil (s : S) : RunY st co s [] s true
 | go {s s' s'' : S} {x : α} {l : List α} {b : Bool} (h : st s x s') (hc : co s' = true) (hr : RunY st co s' l s'' b) : RunY st co s (x :: l) s'' b
 | stop {s s' : S} {x : α} {l : List α} (h : st s x s') (hc : co s' = false) : RunY st co s (x :: l) s' false
section
variable {S α : Type} {st : S → α → S → Prop} {co : S → Bool} {s s1 s2 : S} {A B : List α} {b : Bool}
end
end Gx
namespace Gx
open Go Go.RowKit
class TFd (P : Program) (t f : Nat) (off ft : outParam Nat) : Prop where h : tfd P t f = some (off,ft)
class TSz (P : Program) (t : Nat) (n : outParam Nat) (ag : outParam Bool) : Prop where h : tsz P t = some (n,ag)
class TSe (P : Program) (t : Nat) (e : outParam Nat) : Prop where h : P.underlying t = some (.slice e)
section
variable {X : Ctx} {ops : Array Oper} {rest : List Oper} {k : List KI} {L : Qe} {d ty : Nat} {pos : String} {aft : Array Edge} {C : World → Prop}
theorem oFa {st f x b i off ft sz : Nat} {ag : Bool} [h1 : TFd X.P st f off ft] [h2 : TSz X.P ft sz ag] (next : O X ops rest k ((d,.pointer (some ⟨b,i + off,none⟩)) :: L) C) (hx : Qe.get L x = some (.pointer (some ⟨b,i,none⟩)):=by rfl) (hs : Nat.blt 0 sz = true:=by rfl) (hd : Nat.blt d X.n = true:=by rfl) :
  O X ops (⟨some d,.fieldAddr st (.tmp x) f,ty,pos,aft,none⟩ :: rest) k L C:=o_p (Qal rfl hx h1.h h2.h hs) hd next
theorem oLs {t e x n cap : Nat} {a : Option Addr} [h1 : TSe X.P t e] (next : O X ops rest k ((d,.int .i64 n) :: L) C) (hx : Qe.get L x = some (.slice a n cap):=by rfl) (hd : Nat.blt d X.n = true:=by rfl) :
  O X ops (⟨some d,.call { callee:=.builtin .len,args:=#[.tmp x],argTypes:=#[t] },ty,pos,aft,none⟩ :: rest) k L C:=o_p (QQ (x:=.tmp x) rfl hx h1.h) hd next
theorem oLd {w0 : World} {M : List Nat} {As As' : List HA} {t x b tot i : Nat} {bt : TypeId} {cs : List Value} {v : Value} [h1 : TSz X.P t 1 false] (next : O X ops rest k ((d,v) :: L) (HS w0 M As)) (hx : Qe.get L x = some (.pointer (some ⟨b,i,none⟩)):=by rfl) (hp : QP As (.blk b bt tot cs) As':=by repeat (first | exact .here | apply QP.there)) (hv : cs[i]? = some v:=by rfl) (hd : Nat.blt d X.n = true:=by rfl) :
  O X ops (⟨some d,.load t (.tmp x),ty,pos,aft,none⟩ :: rest) k L (HS w0 M As):=o_q (YA rfl hx h1.h hp hv) hd next
theorem oLn {w0 : World} {M : List Nat} {As As' : List HA} {t x b tot i n : Nat} {bt : TypeId} {cs : List Value} [h1 : TSz X.P t n true] (next : O X ops rest k ((d,.agg (cut cs i n).toArray) :: L) (HS w0 M As)) (hx : Qe.get L x = some (.pointer (some ⟨b,i,none⟩)):=by rfl) (hp : QP As (.blk b bt tot cs) As':=by repeat (first | exact .here | apply QP.there)) (hl : Nat.ble (i + n) cs.length = true:=by rfl) (hd : Nat.blt d X.n = true:=by rfl) :
  O X ops (⟨some d,.load t (.tmp x),ty,pos,aft,none⟩ :: rest) k L (HS w0 M As):=o_q (Qfn rfl hx h1.h hp hl) hd next
theorem oOf {j : Nat} {want b : Bool} {op : Op} (dj : Nat) (hb : b = !want) (next : O X ops rest k ((d,undef) :: L) C) (hj : (ops[j]?).bind (·.dst) = some dj:=by rfl) (hs : Qe.get L dj = some (.bool b):=by rfl) (hd : Nat.blt d X.n = true:=by rfl) : O X ops (⟨some d,op,ty,pos,aft,some (j,want)⟩ :: rest) k L C:=Qtj dj b hj hs hb hd next
theorem oOn {j : Nat} {want b : Bool} {op : Op} {dst : Option Nat} (dj : Nat) (hb : b = want) (next : O X ops (⟨dst,op,ty,pos,aft,none⟩ :: rest) k L C) (hj : (ops[j]?).bind (·.dst) = some dj:=by rfl) (hs : Qe.get L dj = some (.bool b):=by rfl) : O X ops (⟨dst,op,ty,pos,aft,some (j,want)⟩ :: rest) k L C:=o_on dj b hj hs hb next
end
section
variable {X : Ctx} {ops : Array Oper} {F : List Nat} {fuel : Nat} {listed : Array Bool} {k : List KI} {L : Qe} {d ty : Nat} {pos : String} {aft : Array Edge} {C B : World → Prop} {w0 : World} {M : List Nat} {As As' Bs : List HA}
theorem dFa (i : Nat) {st f x b o off ft sz : Nat} {ag : Bool} (next : D X ops F B fuel (listed.setIfInBounds i true) k ((d,.pointer (some ⟨b,o + off,none⟩)) :: L) C) (hi : ops[i]? = some ⟨some d,.fieldAddr st (.tmp x) f,ty,pos,aft,none⟩:=by rfl) (hx : Qe.get L x = some (.pointer (some ⟨b,o,none⟩)):=by rfl) (h1 : TFd X.P st f off ft:=by infer_instance) (h2 : TSz X.P ft sz ag:=by infer_instance) (hs : Nat.blt 0 sz = true:=by rfl) (hok : QN ops listed i = true:=by kernel_rfl) (hF : F.all (fun f=>!Nat.beq f i) = true:=by rfl) (hd : Nat.blt d X.n = true:=by rfl) : D X ops F B (fuel + 1) listed k L C:=d_p i hi (Qal rfl hx h1.h h2.h hs) hok hF hd next
theorem dFo {j : Nat} {want c : Bool} (i dj : Nat) {st f x b o off ft sz : Nat} {ag : Bool} (hw : c = want) (next : D X ops F B fuel (listed.setIfInBounds i true) k ((d,.pointer (some ⟨b,o + off,none⟩)) :: L) C) (hi : ops[i]? = some ⟨some d,.fieldAddr st (.tmp x) f,ty,pos,aft,some (j,want)⟩:=by rfl) (hj : (ops[j]?).bind (·.dst) = some dj:=by rfl) (hb : Qe.get L dj = some (.bool c):=by rfl) (hx : Qe.get L x = some (.pointer (some ⟨b,o,none⟩)):=by rfl) (h1 : TFd X.P st f off ft:=by infer_instance) (h2 : TSz X.P ft sz ag:=by infer_instance) (hs : Nat.blt 0 sz = true:=by rfl) (hok : QN ops listed i = true:=by kernel_rfl) (hF : F.all (fun f=>!Nat.beq f i) = true:=by rfl) (hd : Nat.blt d X.n = true:=by rfl) : D X ops F B (fuel + 1) listed k L C:=Qlg i dj hi hj hb hw (Qal rfl hx h1.h h2.h hs) hok hF hd next
theorem dPo {j : Nat} {want c : Bool} {op : Op} {v : Value} (i dj : Nat) (hw : c = want) (next : D X ops F B fuel (listed.setIfInBounds i true) k ((d,v) :: L) C) (hi : ops[i]? = some ⟨some d,op,ty,pos,aft,some (j,want)⟩:=by rfl) (hj : (ops[j]?).bind (·.dst) = some dj:=by rfl) (hb : Qe.get L dj = some (.bool c):=by rfl) (h : OpP X.P ⟨some d,op,ty,pos,aft,none⟩ L v:=by exact ZX rfl) (hok : QN ops listed i = true:=by kernel_rfl) (hF : F.all (fun f=>!Nat.beq f i) = true:=by rfl) (hd : Nat.blt d X.n = true:=by rfl) : D X ops F B (fuel + 1) listed k L C:=Qlg i dj hi hj hb hw h hok hF hd next
theorem dOf {j : Nat} {want c : Bool} {op : Op} (i dj : Nat) (hw : c = !want) (next : D X ops F B fuel (listed.setIfInBounds i true) k ((d,undef) :: L) C) (hi : ops[i]? = some ⟨some d,op,ty,pos,aft,some (j,want)⟩:=by rfl) (hj : (ops[j]?).bind (·.dst) = some dj:=by rfl) (hb : Qe.get L dj = some (.bool c):=by rfl) (hok : QN ops listed i = true:=by kernel_rfl) (hF : F.all (fun f=>!Nat.beq f i) = true:=by rfl) (hd : Nat.blt d X.n = true:=by rfl) : D X ops F B (fuel + 1) listed k L C:=Qtr i dj hi hj hb hw hok hF hd next
theorem dOu {j : Nat} {want : Bool} {op : Op} (i dj : Nat) (next : D X ops F B fuel (listed.setIfInBounds i true) k ((d,undef) :: L) C) (hi : ops[i]? = some ⟨some d,op,ty,pos,aft,some (j,want)⟩:=by rfl) (hj : (ops[j]?).bind (·.dst) = some dj:=by rfl) (hb : Qe.get L dj = some undef:=by rfl) (hok : QN ops listed i = true:=by kernel_rfl) (hF : F.all (fun f=>!Nat.beq f i) = true:=by rfl) (hd : Nat.blt d X.n = true:=by rfl) : D X ops F B (fuel + 1) listed k L C:=QqQ i dj hi hj hb hok hF hd next
theorem dNi (next : S X k L (HS w0 M As)) (hB : ∀ w,HS w0 M As w → B w:=by (intro w h;first | exact h | exact h.ent aEt)) (hr : (Region.ready .any ops listed == []) = true:=by kernel_rfl) : D X ops F B 0 listed k L (HS w0 M As):=Qta hr hB next
theorem dBa (next : D X ops F (HS w0 M As) fuel listed k L (HS w0 M As)) (hB : ∀ w,HS w0 M As w → B w:=by (intro w h;exact h.ent aEt)) : D X ops F B fuel listed k L (HS w0 M As):=Qvm hB next
theorem dLd (i : Nat) (ps : List (List Nat)) {t x b tot o : Nat} {bt : TypeId} {cs : List Value} {v : Value} (next : D X ops F (HS w0 M Bs) fuel (listed.setIfInBounds i true) k ((d,v) :: L) C) (hi : ops[i]? = some ⟨some d,.load t (.tmp x),ty,pos,aft,none⟩:=by rfl) (hx : Qe.get L x = some (.pointer (some ⟨b,o,none⟩)):=by rfl) (h1 : TSz X.P t 1 false:=by infer_instance) (hp : QP Bs (.blk b bt tot cs) As':=by repeat (first | exact .here | apply QP.there)) (hv : cs[o]? = some v:=by rfl) (hok : QN ops listed i = true:=by kernel_rfl) (hF : XV ops F i ps = true:=by kernel_rfl) (hn : ZD F listed = true:=by kernel_rfl) (hd : Nat.blt d X.n = true:=by rfl) : D X ops F (HS w0 M Bs) (fuel + 1) listed k L C:=d_q i ps hi (YA rfl hx h1.h hp hv) hok hF hn hd next
theorem dLn (i : Nat) (ps : List (List Nat)) {t x b tot o n : Nat} {bt : TypeId} {cs : List Value} (next : D X ops F (HS w0 M Bs) fuel (listed.setIfInBounds i true) k ((d,.agg (cut cs o n).toArray) :: L) C) (hi : ops[i]? = some ⟨some d,.load t (.tmp x),ty,pos,aft,none⟩:=by rfl) (hx : Qe.get L x = some (.pointer (some ⟨b,o,none⟩)):=by rfl) (h1 : TSz X.P t n true:=by infer_instance) (hp : QP Bs (.blk b bt tot cs) As':=by repeat (first | exact .here | apply QP.there)) (hl : Nat.ble (o + n) cs.length = true:=by rfl) (hok : QN ops listed i = true:=by kernel_rfl) (hF : XV ops F i ps = true:=by kernel_rfl) (hn : ZD F listed = true:=by kernel_rfl) (hd : Nat.blt d X.n = true:=by rfl) : D X ops F (HS w0 M Bs) (fuel + 1) listed k L C:=d_q i ps hi (Qfn rfl hx h1.h hp hl) hok hF hn hd next
end
section
variable {X : Ctx} {ops : Array Oper} {F : List Nat} {fuel : Nat} {listed : Array Bool} {rest : List Oper} {k : List KI} {L : Qe} {d ty : Nat} {pos : String} {aft : Array Edge} {w0 : World} {M : List Nat} {As As' : List HA}
theorem oSt {t x b tot i n : Nat} {y : Operand} {bt : TypeId} {ag : Bool} {cs : List Value} {v : Value} [hs : TSz X.P t n ag] (next : O X ops rest k L (HS w0 M As')) (hx : Qe.get L x = some (.pointer (some ⟨b,i,none⟩)):=by rfl) (hy : ev L y = some v:=by rfl) (hn : v.cells.toList.length = n:=by rfl)
  (hp : Put As (.blk b bt tot cs) (.blk b bt tot (Qh cs i v.cells.toList)) As':=by repeat (first | exact .here | apply Put.there)) (hl : i + n ≤ cs.length:=by (simp only [Qk,List.length_set,List.length_cons,List.length_nil,List.length_map];omega)) (h1 : v.cells.toList.all (·.oneCell') = true:=by rfl) :
  O X ops (⟨none,.store t (.tmp x) y,ty,pos,aft,none⟩ :: rest) k L (HS w0 M As):=QiH (Qbt rfl hx hy hs.h hn hp hl h1) fun _ _=>next
theorem oAl {t : TypeId} {z : List Value} (next : ∀ b,True → O X ops rest k ((d,.pointer (some ⟨b,0,none⟩)) :: L) (HS w0 M (.blk b t z.length z :: As))) (hz : QO X.P t = some z) (hd : Nat.blt d X.n = true:=by rfl) : O X ops (⟨some d,.alloc t,ty,pos,aft,none⟩ :: rest) k L (HS w0 M As):=o_h (Qck rfl hz) hd next
theorem oBx {t : TypeId} {x : Operand} {v : Value} (next : ∀ b,True → O X ops rest k ((d,.pointer (some ⟨b,0,none⟩)) :: L) (HS w0 M (.blk b t v.cells.toList.length v.cells.toList :: As))) (hx : ev L x = some v:=by rfl) (hd : Nat.blt d X.n = true:=by rfl) : O X ops (⟨some d,.box t x,ty,pos,aft,none⟩ :: rest) k L (HS w0 M As):=o_h (Qmk rfl hx) hd next
theorem oWr {v : Int} {C : World → Prop} (next : O X ops rest k ((d,.int .i64 v) :: L) C) (h1 : -9223372036854775808 ≤ v:=by omega) (h2 : v ≤ 9223372036854775807:=by omega) : O X ops rest k ((d,.int .i64 (IntKind.i64.wrap v)) :: L) C:=Qq (QjX h1 h2) next
theorem dWr {v : Int} {C B : World → Prop} (next : D X ops F B fuel listed k ((d,.int .i64 v) :: L) C) (h1 : -9223372036854775808 ≤ v:=by omega) (h2 : v ≤ 9223372036854775807:=by omega) : D X ops F B fuel listed k ((d,.int .i64 (IntKind.i64.wrap v)) :: L) C:=QD (QjX h1 h2) next
theorem oJn {X : Ctx} {k : List KI} {L : Qe} {LJ : Unit → Qe} {C : World → Prop} {CJ : Unit → World → Prop} (m dp : Nat) {v : Value} (hJ : LJ () = (dp,v) :: L.drop m:=by exact rfl) (hv : Qe.get L dp = some v:=by exact rfl) (hf : Qim L m = true:=by exact rfl) (hC : ∀ w,C w → CJ () w:=by (intro w h;first | exact h | exact h.ent aEt)) : S X (.join (At X.n X.df LJ CJ) :: k) L C:=QsC m dp v hJ hv hf hC
theorem dSt {B : World → Prop} (i : Nat) {t x b tot o n : Nat} {y : Operand} {bt : TypeId} {ag : Bool} {cs : List Value} {v : Value} (next : D X ops F B fuel (listed.setIfInBounds i true) k L (HS w0 M As')) (hi : ops[i]? = some ⟨none,.store t (.tmp x) y,ty,pos,aft,none⟩:=by rfl) (hx : Qe.get L x = some (.pointer (some ⟨b,o,none⟩)):=by rfl) (hy : ev L y = some v:=by rfl) (hs : TSz X.P t n ag:=by infer_instance) (hn : v.cells.toList.length = n:=by rfl)
  (hp : Put As (.blk b bt tot cs) (.blk b bt tot (Qh cs o v.cells.toList)) As':=by repeat (first | exact .here | apply Put.there)) (hl : o + n ≤ cs.length) (h1 : v.cells.toList.all (·.oneCell') = true:=by rfl) (hr : (Region.ready .any ops listed == [i]) = true:=by kernel_rfl) (hB : ∀ w,HS w0 M As w → B w:=by (intro w h;exact h.ent aEt)) :
  D X ops F B (fuel + 1) listed k L (HS w0 M As):=d_h0 i hi (Qbt rfl hx hy hs.h hn hp hl h1) hr hB fun _ _=>next
theorem dTu {B : World → Prop} (F' : List Nat) (next : D X ops F' (HS w0 M As) fuel listed k L (HS w0 M As)) (hf : F.any (fun f=>listed.getD f false) = true:=by kernel_rfl) : D X ops F B fuel listed k L (HS w0 M As):=Quh F' hf next
end
section
variable {X : Ctx} {ops : Array Oper} {F : List Nat} {fuel : Nat} {listed : Array Bool} {k : List KI} {L : Qe} {d ty : Nat} {pos : String} {aft : Array Edge} {op : Op} {w0 : World} {M : List Nat} {As Bs : List HA}
theorem dQ {C : World → Prop} {v : Value} (i : Nat) (ps : List (List Nat)) (hi : ops[i]? = some ⟨some d,op,ty,pos,aft,none⟩) (h : OpQ X.P ⟨some d,op,ty,pos,aft,none⟩ L (HS w0 M Bs) v) (next : D X ops F (HS w0 M Bs) fuel (listed.setIfInBounds i true) k ((d,v) :: L) C) (hok : QN ops listed i = true:=by kernel_rfl) (hF : XV ops F i ps = true:=by kernel_rfl) (hn : ZD F listed = true:=by kernel_rfl) (hd : Nat.blt d X.n = true:=by rfl) : D X ops F (HS w0 M Bs) (fuel + 1) listed k L C:=d_q i ps hi h hok hF hn hd next
theorem dV {C : World → Prop} {B : World → Prop} {v : Value} (i : Nat) (hi : ops[i]? = some ⟨some d,op,ty,pos,aft,none⟩) (h : OpP X.P ⟨some d,op,ty,pos,aft,none⟩ L v) (next : D X ops F B fuel (listed.setIfInBounds i true) k ((d,v) :: L) C) (hok : QN ops listed i = true:=by kernel_rfl) (hF : F.all (fun f=>!Nat.beq f i) = true:=by rfl) (hd : Nat.blt d X.n = true:=by rfl) : D X ops F B (fuel + 1) listed k L C:=d_p i hi h hok hF hd next
theorem dH {B : World → Prop} {G : Type} {V : G → Value} {Fg : G → Prop} {C' : G → World → Prop} (i : Nat) (hi : ops[i]? = some ⟨some d,op,ty,pos,aft,none⟩) (h : OpH X.P ⟨some d,op,ty,pos,aft,none⟩ L (HS w0 M As) V Fg C') (next : ∀ g,Fg g → D X ops F B fuel (listed.setIfInBounds i true) k ((d,V g) :: L) (C' g)) (hr : (Region.ready .any ops listed == [i]) = true:=by kernel_rfl) (hB : ∀ w,HS w0 M As w → B w:=by (intro w h;exact h.ent aEt)) (hd : Nat.blt d X.n = true:=by rfl) : D X ops F B (fuel + 1) listed k L (HS w0 M As):=d_h i hi h hr hB hd next
theorem dVo {C : World → Prop} {B : World → Prop} {v : Value} {j : Nat} {want b : Bool} (i dj : Nat) (hw : b = want) (hi : ops[i]? = some ⟨some d,op,ty,pos,aft,some (j,want)⟩) (hj : (ops[j]?).bind (·.dst) = some dj) (hb : Qe.get L dj = some (.bool b)) (h : OpP X.P ⟨some d,op,ty,pos,aft,none⟩ L v) (next : D X ops F B fuel (listed.setIfInBounds i true) k ((d,v) :: L) C) (hok : QN ops listed i = true:=by kernel_rfl) (hF : F.all (fun f=>!Nat.beq f i) = true:=by rfl) (hd : Nat.blt d X.n = true:=by rfl) : D X ops F B (fuel + 1) listed k L C:=Qlg i dj hi hj hb hw h hok hF hd next
theorem dQo {C : World → Prop} {v : Value} {j : Nat} {want b : Bool} (i dj : Nat) (ps : List (List Nat)) (hw : b = want) (hi : ops[i]? = some ⟨some d,op,ty,pos,aft,some (j,want)⟩) (hj : (ops[j]?).bind (·.dst) = some dj) (hb : Qe.get L dj = some (.bool b)) (h : OpQ X.P ⟨some d,op,ty,pos,aft,none⟩ L (HS w0 M Bs) v) (next : D X ops F (HS w0 M Bs) fuel (listed.setIfInBounds i true) k ((d,v) :: L) C) (hok : QN ops listed i = true:=by kernel_rfl) (hF : XV ops F i ps = true:=by kernel_rfl) (hn : ZD F listed = true:=by kernel_rfl) (hd : Nat.blt d X.n = true:=by rfl) : D X ops F (HS w0 M Bs) (fuel + 1) listed k L C:=QsU i dj ps hi hj hb hw h hok hF hn hd next
theorem rT {t : Nat} {v : Value} (hr : X.fn.results = [ResultVar.tmp t].toArray) (hv : Qe.get L t = some v) (h : ∀ w,HS w0 M As w → X.R (.returned (QT [v])) w) (hrd : X.rd = none:=by rfl) (hdf : X.df = []:=by rfl) : S X (.c .ret :: k) L (HS w0 M As):=Qs hr (.tmp hv .nil) h hrd hdf
end
theorem aS {p q : Prop} (hq : q) (h : q → p:=by (intro hq;first | refine Qmf ?_ | refine Qi6 ?_ | refine Qs9 ?_ | refine Qpd ?_ | refine Qig ?_ | refine Qtd ?_ | refine oP ?_ | refine oFa ?_ | refine oLs ?_ | refine oLd ?_ | refine oLn ?_);exact hq) : p:=h hq
theorem aS2 {p q : Prop} (hq : q) (h : q → p:=by (intro hq;iterate 2 refine aS ?_);exact hq) : p:=h hq
theorem aS3 {p q : Prop} (hq : q) (h : q → p:=by (intro hq;iterate 3 refine aS ?_);exact hq) : p:=h hq
theorem aS4 {p q : Prop} (hq : q) (h : q → p:=by (intro hq;iterate 4 refine aS ?_);exact hq) : p:=h hq
theorem aS5 {p q : Prop} (hq : q) (h : q → p:=by (intro hq;iterate 5 refine aS ?_);exact hq) : p:=h hq
theorem aS6 {p q : Prop} (hq : q) (h : q → p:=by (intro hq;iterate 6 refine aS ?_);exact hq) : p:=h hq
theorem aS7 {p q : Prop} (hq : q) (h : q → p:=by (intro hq;iterate 7 refine aS ?_);exact hq) : p:=h hq
theorem aS8 {p q : Prop} (hq : q) (h : q → p:=by (intro hq;iterate 8 refine aS ?_);exact hq) : p:=h hq
theorem aS9 {p q : Prop} (hq : q) (h : q → p:=by (intro hq;iterate 9 refine aS ?_);exact hq) : p:=h hq
theorem Qaq {p q : Prop} (hq : q) (h : q → p:=by (intro hq;iterate 10 refine aS ?_);exact hq) : p:=h hq
theorem QeX {p q : Prop} (hq : q) (h : q → p:=by (intro hq;iterate 11 refine aS ?_);exact hq) : p:=h hq
theorem Qeq {p q : Prop} (hq : q) (h : q → p:=by (intro hq;iterate 12 refine aS ?_);exact hq) : p:=h hq
theorem dT {p : Prop} [Decidable p] : (decide p = true) = p:=decide_eq_true_eq
theorem dN {p : Prop} [Decidable p] : decide p = false ↔ ¬p:=decide_eq_false_iff_not
end Gx
namespace Go.Proofs
open Go Go.RowKit Gx
instance : TSe Tryz.prog 28 3:=⟨Tryz.underlying28⟩
instance : TSe Tryz.prog 35 69:=⟨Tryz.underlying35⟩
instance : TSe Tryz.prog 67 27:=⟨Tryz.underlying67⟩
instance : TSe Tryz.prog 139 5:=⟨Tryz.underlying139⟩
instance : TSe Tryz.prog 183 29:=⟨Tryz.underlying183⟩
end Go.Proofs
/- What chapter 13's texts stand on. -/
namespace Go.Proofs
open Go Go.RowKit Gx
attribute [local irreducible] Go.Calls Gx.S Gx.O Gx.D Gx.OpP Gx.OpQ Gx.OpH
set_option maxRecDepth 20000
theorem ZE : tsl Tryz.prog 183 = some (29,1,8):=by kernel_rfl
theorem Qrd : tsz Tryz.prog 29 = some (1,false):=by kernel_rfl
theorem Qek : Qt Tryz.prog 182 = true:=by kernel_rfl
theorem Y8 : Qt Tryz.prog 167 = true:=by kernel_rfl
theorem Qvq : Qt Tryz.prog 124 = true:=by kernel_rfl
theorem Qdr : QO Tryz.prog 29 = some [.int .i64 0]:=by kernel_rfl
theorem Qfr : Qt Tryz.prog 125 = true:=by kernel_rfl
theorem YM : Qt Tryz.prog 40 = true:=by kernel_rfl
theorem Qnc (w : World) (n lo hi : Int) : Calls Tryz.prog 182 #[.int .i64 n,.int .i64 lo,.int .i64 hi] w fun en w'=>en = .returned (.bool (decide (lo ≤ n) && decide (n ≤ hi))) ∧ Below w.heap.size w w':=by
 refine enter (args:=[_,_,_]) Tryz.func182 Tryz.ntmps182 rfl rfl (HS.refl w []) ?_
 refine Qaq ?_
 refine Xn 4 10 14 _ _ rfl
  (by
   intro hg1
   have hs2:=hg1;try simp only [dT] at hs2
   refine oOn 10 hg1 ?_
   refine aS ?_
   refine oOn 10 hg1 ?_
   refine aS ?_
   refine oOn 10 hg1 ?_
   refine aS ?_
   refine o_p (Qg rfl rfl hg1 rfl) rfl ?_
   refine aS ?_
   exact oJn 4 14)
  (by
   intro hg3
   have hs4:=hg3;try simp only [dN] at hs4
   refine oOf 10 hg3 ?_
   refine oOf 10 hg3 ?_
   refine oOf 10 hg3 ?_
   refine o_p (Qf rfl rfl hg3 rfl) rfl ?_
   refine aS ?_
   exact oJn 4 14) ?_
 refine aS2 ?_
 exact rT rfl rfl (fun w' h'=>⟨rfl,h'.below⟩)
theorem c40 (w : World) (n lo hi : Int) : Calls Tryz.prog 40 #[.int .i64 n,.int .i64 lo,.int .i64 hi] w fun en w'=>en = .returned (.bool (decide (lo ≤ n) && decide (n ≤ hi))) ∧ Below w.heap.size w w':=by
 refine enter (args:=[_,_,_]) Tryz.func40 Tryz.ntmps40 rfl rfl (HS.refl w []) ?_
 refine Qaq ?_
 refine Xn 4 10 14 _ _ rfl
  (by
   intro hg1
   have hs2:=hg1;try simp only [dT] at hs2
   refine oOn 10 hg1 ?_
   refine aS ?_
   refine oOn 10 hg1 ?_
   refine aS ?_
   refine oOn 10 hg1 ?_
   refine aS ?_
   refine o_p (Qg rfl rfl hg1 rfl) rfl ?_
   refine aS ?_
   exact oJn 4 14)
  (by
   intro hg3
   have hs4:=hg3;try simp only [dN] at hs4
   refine oOf 10 hg3 ?_
   refine oOf 10 hg3 ?_
   refine oOf 10 hg3 ?_
   refine o_p (Qf rfl rfl hg3 rfl) rfl ?_
   refine aS ?_
   exact oJn 4 14) ?_
 refine aS2 ?_
 exact rT rfl rfl (fun w' h'=>⟨rfl,h'.below⟩)
theorem QdO (w : World) (ok : Bool) (e : Int) : Calls Tryz.prog 167 #[.bool ok,.int .i64 e] w fun en w'=>en = .returned (.int .i64 (cond ok 0 e)) ∧ Below w.heap.size w w':=by
 refine enter (args:=[_,_]) Tryz.func167 Tryz.ntmps167 rfl rfl (HS.refl w []) ?_
 refine aS9 ?_
 refine Qb rfl (fun h1=>?_) fun h1=>?_
 ·skip
  refine aS4 ?_
  exact rT rfl rfl (fun w' h'=>⟨by simp_all [QT],h'.below⟩)
 skip
 refine aS6 ?_
 exact rT rfl rfl (fun w' h'=>⟨by simp_all [QT],h'.below⟩)
theorem c125 (w : World) (a : Option Addr) (cap : Nat) (es : List Int) (hs : Sl w [] a 1 es.length (fun i=>[.int .i64 (es.getD i 0)])) (hm : es.length ≤ 1000) : Calls Tryz.prog 125 #[.slice a es.length cap] w fun en w'=>en = .returned (.int .i64 (Yw es)) ∧ Below w.heap.size w w':=by
 refine enter (args:=[_]) Tryz.func125 Tryz.ntmps125 rfl rfl (HS.refl w []) ?_
 refine Qeq ?_
 refine Qx (α:=Nat) [2,4,7,8,9,10,11,12,13,14] (fun k=>[(7,.int .i64 (k : Int))]) (fun _=>_) (fun k=>k ≤ es.length ∧ Yw es = Yw (es.drop k)) (fun k=>es.length - k) 0 ⟨by omega,rfl⟩ aSx (fun w h=>h) (fun k hk=>?_)
 obtain ⟨hk1,hk2⟩:=hk
 refine aS5 ?_
 refine Qb rfl (fun h1=>?_) fun h1=>?_
 ·try simp only [dT] at h1
  refine aS5 ?_
  refine o_p (Qc rfl rfl rfl ZE _ rfl (by omega) (hs.some (by omega))) rfl ?_
  refine o_q (Qd rfl rfl Qrd (hs.rd (i:=k) (j:=0) (by omega) rfl)) rfl ?_
  refine aS7 ?_
  refine Qb rfl (fun h2=>?_) fun h2=>?_
  ·try simp only [Bool.not_eq_true',decide_eq_false_iff_not] at h2
   refine aS5 ?_
   exact rT rfl rfl (fun w' h'=>⟨by simp only [QT];rw [hk2,YX (by omega),if_neg (by assumption)],h'.below⟩)
  try simp only [Bool.not_eq_false',decide_eq_true_eq] at h2
  refine aS4 ?_
  try refine oWr ?_
  refine aS2 ?_
  exact Qu (k+1) (by omega) ⟨by omega,by rw [hk2,YX (by omega),if_pos (by assumption)]⟩ aSx (fun w h=>h)
 try simp only [dN] at h1
 refine Qp rfl ?_
 refine aS4 ?_
 exact rT rfl rfl (fun w' h'=>⟨by simp only [QT];rw [hk2,Qc8 (by omega)],h'.below⟩)
theorem QqH {w0 w : World} {M : List Nat} {As As' : List HA} {b cap n : Nat} {t : TypeId} {tot : Nat} {cs : List Value} (h : HS w0 M As w) (hp : QP As (.blk b t tot cs) As') (hc : cs.all Qg3 = true) (hn : cs.length = n) (hl : n ≤ 1000) :
    Calls Tryz.prog 125 #[.slice (some ⟨b,0,none⟩) n cap] w fun en w'=>en = .returned (.int .i64 (Zh cs)) ∧ Below w.heap.size w w':=by
  subst hn;have:=c125 w (some ⟨b,0,none⟩) cap (cs.map Go.RowKit.intOf) (by simpa using h.sl_ints hp hc) (by simpa using hl);rw [Qcy hc] at this
  simpa using this
theorem c124 (w : World) (n : Int) : Calls Tryz.prog 124 #[.int .i64 n] w fun en w'=>en = .returned (.int .i64 (QB n)) ∧ Below w.heap.size w w':=by
 refine enter (args:=[_]) Tryz.func124 Tryz.ntmps124 rfl rfl (HS.refl w []) ?_
 refine aS7 ?_
 refine o_q (Qa rfl Qek rfl (fun w1 h1=>Qnc w1 _ _ _)) rfl ?_
 refine o_q (Qa rfl Y8 rfl (fun w1 h1=>QdO w1 _ _)) rfl ?_
 refine aS2 ?_
 exact rT rfl rfl (fun w' h'=>⟨by simp only [QT,QB,cond_eq_ite,Bool.and_eq_true,decide_eq_true_eq],h'.below⟩)
theorem QdK {a b : Int} : Zh [.int .i64 a,.int .i64 b] = if a = 0 then b else a:=by
  simp only [Zh]
  grind
theorem c155 (w : World) (co mo rm : Int) : Calls Tryz.prog 155 #[.int .i64 co,.int .i64 mo,.int .i64 rm] w fun en w'=>en = .returned (.int .i64 (if QB co = 0 then Yn mo rm else QB co)) ∧ Below w.heap.size w w':=by
 refine enter (args:=[_,_,_]) Tryz.func155 Tryz.ntmps155 rfl rfl (HS.refl w []) ?_
 refine aS7 ?_
 refine o_q (Qa rfl Qek rfl (fun w1 h1=>Qnc w1 _ _ _)) rfl ?_
 refine aS ?_
 refine Xn 6 10 16 _ _ rfl
  (by
   intro hg1
   have hs2:=hg1;try simp only [Bool.and_eq_true,decide_eq_true_eq] at hs2
   refine oOn 10 hg1 ?_
   refine aS ?_
   refine oOn 10 hg1 ?_
   refine aS ?_
   refine oOn 10 hg1 ?_
   refine o_p (QaR rfl rfl rfl (by omega) (by omega) (by omega)) rfl ?_
   refine oOn 10 hg1 ?_
   refine aS ?_
   refine oOn 10 hg1 ?_
   refine o_q (Qa rfl Qek rfl (fun w1 h1=>Qnc w1 _ _ _)) rfl ?_
   refine o_p (Qg rfl rfl hg1 rfl) rfl ?_
   refine aS ?_
   exact oJn 6 16)
  (by
   intro hg3
   have hs4:=hg3;try simp only [Bool.and_eq_false_iff,decide_eq_false_iff_not] at hs4
   refine oOf 10 hg3 ?_
   refine oOf 10 hg3 ?_
   refine oOf 10 hg3 ?_
   refine oOf 10 hg3 ?_
   refine oOf 10 hg3 ?_
   refine o_p (Qf rfl rfl hg3 rfl) rfl ?_
   refine aS ?_
   exact oJn 6 16) ?_
 refine aS5 ?_
 refine o_q (Qa rfl Qvq rfl (fun w1 h1=>c124 w1 _)) rfl ?_
 refine aS ?_
 refine o_q (Qa rfl Y8 rfl (fun w1 h1=>QdO w1 _ _)) rfl ?_
 refine o_h (Qr (cs:=[_,_]) rfl rfl ZE Qdr rfl rfl rfl) rfl (fun b5 _=>?_)
 refine o_q (Qa rfl Qfr rfl (fun w1 h1=>QqH h1 aPk (by rfl) (by rfl) (by decide))) rfl ?_
 refine aS2 ?_
 exact rT rfl rfl (fun w' h'=>⟨by simp only [QT];rw [QdK];simp only [Yn,cond_eq_ite,Bool.and_eq_true,decide_eq_true_eq],h'.below⟩)
theorem c96 (w : World) (n : Int) : Calls Tryz.prog 96 #[.int .i64 n] w fun en w'=>en = .returned (.int .i64 (QB n)) ∧ Below w.heap.size w w':=by
 refine enter (args:=[_]) Tryz.func96 Tryz.ntmps96 rfl rfl (HS.refl w []) ?_
 refine aS8 ?_
 refine o_q (Qa rfl YM rfl (fun w1 h1=>c40 w1 _ _ _)) rfl ?_
 refine aS2 ?_
 refine Qb rfl (fun h1=>?_) fun h1=>?_
 ·try simp only [Bool.not_eq_true',Bool.and_eq_false_iff,decide_eq_false_iff_not] at h1
  have hz : QB n = 15:=by have hq:=h1;unfold QB;rw [if_neg (by first | omega | (simp at hq;omega))]
  refine aS4 ?_
  exact rT rfl rfl (fun w' h'=>⟨by rw [hz];rfl,h'.below⟩)
 try simp only [Bool.not_eq_false',Bool.and_eq_true,decide_eq_true_eq] at h1
 have hz : QB n = 0:=by have hq:=h1;unfold QB;rw [if_pos (by first | omega | (simp at hq;omega))]
 refine aS5 ?_
 exact rT rfl rfl (fun w' h'=>⟨by rw [hz];rfl,h'.below⟩)
theorem c97 (w : World) (mo rm : Int) : Calls Tryz.prog 97 #[.int .i64 mo,.int .i64 rm] w fun en w'=>en = .returned (.int .i64 (Yn mo rm)) ∧ Below w.heap.size w w':=by
 refine enter (args:=[_,_]) Tryz.func97 Tryz.ntmps97 rfl rfl (HS.refl w []) ?_
 refine aS8 ?_
 refine o_q (Qa rfl YM rfl (fun w1 h1=>c40 w1 _ _ _)) rfl ?_
 refine aS2 ?_
 refine Xt 7 8 15 _ _ rfl
  (by
   intro hg1
   have hs2:=hg1;try simp only [Bool.not_eq_false',Bool.and_eq_true,decide_eq_true_eq] at hs2
   refine oOn 8 hg1 ?_
   refine aS ?_
   refine oOn 8 hg1 ?_
   refine aS ?_
   refine oOn 8 hg1 ?_
   refine o_p (QaR rfl rfl rfl (by omega) (by omega) (by omega)) rfl ?_
   refine oOn 8 hg1 ?_
   refine aS ?_
   refine oOn 8 hg1 ?_
   refine o_q (Qa rfl YM rfl (fun w1 h1=>c40 w1 _ _ _)) rfl ?_
   refine oOn 8 hg1 ?_
   refine aS ?_
   refine o_p (Qf rfl rfl hg1 rfl) rfl ?_
   refine aS ?_
   exact oJn 7 15)
  (by
   intro hg3
   have hs4:=hg3;try simp only [Bool.not_eq_true',Bool.and_eq_false_iff,decide_eq_false_iff_not] at hs4
   refine oOf 8 hg3 ?_
   refine oOf 8 hg3 ?_
   refine oOf 8 hg3 ?_
   refine oOf 8 hg3 ?_
   refine oOf 8 hg3 ?_
   refine oOf 8 hg3 ?_
   refine o_p (Qg rfl rfl hg3 rfl) rfl ?_
   refine aS ?_
   exact oJn 7 15) ?_
 refine aS ?_
 refine Qb rfl (fun h5=>?_) fun h5=>?_
 ·try simp only [Bool.or_eq_true,Bool.not_eq_true',Bool.and_eq_false_iff,decide_eq_false_iff_not] at h5
  have hz : Yn mo rm = 2:=by have hq:=h5;unfold Yn;rw [if_neg (by first | omega | (simp at hq;omega))]
  refine aS4 ?_
  exact rT rfl rfl (fun w' h'=>⟨by rw [hz];rfl,h'.below⟩)
 try simp only [Bool.or_eq_false_iff,Bool.not_eq_false',Bool.and_eq_true,decide_eq_true_eq] at h5
 have hz : Yn mo rm = 0:=by have hq:=h5;unfold Yn;rw [if_pos (by first | omega | (simp at hq;omega))]
 refine aS5 ?_
 exact rT rfl rfl (fun w' h'=>⟨by rw [hz];rfl,h'.below⟩)
end Go.Proofs
namespace Go.Proofs
open Go Go.RowKit Gx
theorem QnR {α : Type} [Inhabited α] {vals : α → List Value} {sz n : Nat} {W : World} {a : Option Addr} {cell : Nat → List Value} {Q : α → Prop} (hs : Sl W [] a sz n cell) (hr : ∀ i,i < n → ∃ x,cell i = vals x ∧ Q x) : ∃ l : List α,n = l.length ∧ Rw vals sz W [] a l ∧ (∀ x ∈ l,Q x) ∧ ∀ i,i < n → cell i = vals (nth l i):=by
 have hr2 : ∀ i,∃ x,i < n → cell i = vals x ∧ Q x:=fun i=>by
  by_cases hi : i < n
  ·obtain ⟨x,h⟩:=hr i hi;exact ⟨x,fun _=>h⟩
  ·exact ⟨default,fun h=>absurd h hi⟩
 obtain ⟨f,hf⟩:=Classical.axiomOfChoice hr2
 have hg : ∀ i,i < n → nth ((List.range n).map f) i = f i:=fun i hi=>by
  simp only [nth,List.getD_eq_getElem?_getD,List.getElem?_map,List.getElem?_range hi,Option.map_some,Option.getD_some]
 refine ⟨(List.range n).map f,by simp,⟨fun hn=>?_⟩,fun x hx=>?_,fun i hi=>?_⟩
 ·rw [List.length_map,List.length_range] at hn;obtain ⟨b,o,e,h2⟩:=hs.at_ hn;refine ⟨b,o,e,fun i hi=>?_⟩;rw [List.length_map,List.length_range] at hi;have h3:=h2 i hi;rw [(hf i hi).1] at h3;rw [hg i hi];exact h3
 ·obtain ⟨i,hi,rfl⟩:=List.mem_map.1 hx;exact (hf i (List.mem_range.1 hi)).2
 ·rw [hg i hi];exact (hf i hi).1
theorem Qmc : Tryz.prog.cellsOf 3 = 1:=by kernel_rfl
theorem QrZ : Tryz.prog.cellsOf 4 = 1:=by kernel_rfl
theorem Qro : Tryz.prog.cellsOf 9 = 1:=by kernel_rfl
theorem Qgu : Tryz.prog.cellsOf 27 = 2:=by kernel_rfl
theorem Qow : Tryz.prog.cellsOf 28 = 1:=by kernel_rfl
theorem QpT : Tryz.prog.cellsOf 67 = 1:=by kernel_rfl
theorem QoU : Tryz.prog.cellsOf 69 = 3:=by kernel_rfl
section
variable {W : World} {d : Nat}
theorem ln2 {cs : List Value} (h : cs.length = 2) : ∃ x0 x1,cs = [x0,x1]:=by
 match cs,h with
 | [x0,x1],_=>exact ⟨x0,x1,rfl⟩
theorem ln3 {cs : List Value} (h : cs.length = 3) : ∃ x0 x1 x2,cs = [x0,x1,x2]:=by
 match cs,h with
 | [x0,x1,x2],_=>exact ⟨x0,x1,x2,rfl⟩
theorem Qsm {x : Value} (h : okT Tryz.prog W d 4 [x]) : ∃ n,x = .bool n:=by
 obtain ⟨n,e⟩:=QoX h Tryz.underlying4;cases e;exact ⟨n,rfl⟩
theorem Qov {x : Value} (h : okT Tryz.prog W d 9 [x]) : ∃ l : List UInt8,x = .string (bs l) ∧ l.length ≤ maxLen:=by
 obtain ⟨l,e,g⟩:=Qlv h Tryz.underlying9;cases e;exact ⟨l,rfl,g⟩
theorem Qt9 {cs : List Value} (h : okT Tryz.prog W d 27 cs) : ∃ x : TEnt,cs = x.vals ∧ True:=by
 obtain ⟨d2,l,o⟩:=QhP h Tryz.underlying27;rw [Qgu] at l;obtain ⟨x0,x1,rfl⟩:=ln2 l;simp only [List.mem_cons,List.mem_nil_iff,or_false,forall_eq_or_imp,forall_eq] at o;rw [Qro] at o;obtain ⟨s,rfl,hs⟩:=Qov (x:=x0) o.1;obtain ⟨t,rfl,ht⟩:=Qov (x:=x1) o.2;exact ⟨⟨s,t⟩,rfl,trivial⟩
theorem Qri {x : Value} (h : okT Tryz.prog W d 67 [x]) : ∃ a c l,x = .slice a (List.length (α:=TEnt) l) c ∧ Rw TEnt.vals 2 W [] a l:=by
 obtain ⟨d2,a,n,cap,cell,e,h1,h2,sl,rows⟩:=QkT h Tryz.underlying67 (by rw [Qgu];decide);rw [Qgu] at sl;cases e;obtain ⟨l,rfl,hl,_⟩:=QnR (vals:=TEnt.vals) (Q:=fun _=>True) sl fun i hi=>Qt9 (rows i hi);exact ⟨a,cap,l,rfl,hl⟩
theorem QrR {x : Value} (h : okT Tryz.prog W d 28 [x]) : ∃ a c l,x = .slice a (List.length (α:=Int) l) c ∧ Rw inV 1 W [] a l:=by
 obtain ⟨d2,a,n,cap,cell,e,h1,h2,sl,rows⟩:=QkT h Tryz.underlying28 (by rw [Qmc];decide);rw [Qmc] at sl;cases e
 obtain ⟨l,rfl,hl,_⟩:=QnR (vals:=inV) (Q:=fun _=>True) sl fun i hi=>by
  obtain ⟨m,e,g⟩:=Qa5 (rows i hi) Tryz.underlying3;exact ⟨m,e,trivial⟩
 exact ⟨a,cap,l,rfl,hl⟩
theorem Qwq {cs : List Value} (h : okT Tryz.prog W d 69 cs) : ∃ k : LNd,cs = k.vals ∧ Rw TEnt.vals 2 W [] k.ea k.es ∧ Rw inV 1 W [] k.ca k.cs:=by
 obtain ⟨d2,l,o⟩:=QhP h Tryz.underlying69;rw [QoU] at l;obtain ⟨x0,x1,x2,rfl⟩:=ln3 l;simp only [List.mem_cons,List.mem_nil_iff,or_false,forall_eq_or_imp,forall_eq] at o;rw [QrZ,QpT,Qow] at o;obtain ⟨n0,rfl⟩:=Qsm (x:=x0) o.1;obtain ⟨ea,ec,es,rfl,he⟩:=Qri (x:=x1) o.2.1;obtain ⟨ca,cc,ks,rfl,hk⟩:=QrR (x:=x2) o.2.2;exact ⟨⟨n0,ea,ec,es,ca,cc,ks⟩,rfl,he,hk⟩
theorem Qn9 {n : Nat} {a : Option Addr} {cell : Nat → List Value} (sl : Sl W [] a 3 n cell) (rows : ∀ i,i < n → okT Tryz.prog W d 69 (cell i)) : ∃ l : List LNd,n = l.length ∧ Nt W [] a l:=by
 obtain ⟨l,rfl,hl,hk,_⟩:=QnR (vals:=LNd.vals) (Q:=fun k=>Rw TEnt.vals 2 W [] k.ea k.es ∧ Rw inV 1 W [] k.ca k.cs) sl fun i hi=>Qwq (rows i hi);exact ⟨l,rfl,hl,hk⟩
end
end Go.Proofs
namespace Go.Proofs
open Go Go.RowKit Go.ChangeShapes Gx
section
variable {H : Type} {enc : TypeId × Value → H} {W : World}
end
end Go.Proofs
namespace Go.Proofs
open Go Go.RowKit Gx
attribute [local irreducible] Go.Calls Gx.S Gx.O Gx.D Gx.OpP Gx.OpQ Gx.OpH
set_option maxRecDepth 20000
theorem Zq : tki Tryz.prog 5 = some .u8:=by kernel_rfl
theorem YZ : tki Tryz.prog 3 = some .i64:=by kernel_rfl
theorem Qk8 : Qt Tryz.prog 151 = true:=by kernel_rfl
theorem Qqu (a b : Int) : Value.int .i64 (IntKind.i64.wrap ((if decide (b < a) = true then 1 else 0) - (if decide (a < b) = true then 1 else 0))) = Value.int .i64 (X4 a b):=by
  unfold X4
  by_cases h1 : a < b
  · have h2 : ¬ b < a:=by omega
    simp only [h1,h2,decide_true,decide_false,Bool.false_eq_true,if_true,if_false];rfl
  · by_cases h2 : b < a
    · simp only [h1,h2,decide_true,decide_false,Bool.false_eq_true,if_true,if_false];rfl
    · simp only [h1,h2,decide_true,decide_false,Bool.false_eq_true,if_true,if_false];rfl
def Qgz (c : Int) : Int:=if 97 ≤ c ∧ c ≤ 122 then c - 32 else c
theorem QfX (u : UInt8) : Qgz (u.toNat : Int) = ((QbL u).toNat : Int):=by
  have hu:=u.toNat_lt;unfold Qgz QbL
  by_cases h : 97 ≤ u ∧ u ≤ 122
  · have h2:=h;rw [UInt8.le_iff_toNat_le,UInt8.le_iff_toNat_le] at h2;have e97 : (97 : UInt8).toNat = 97:=rfl;have e122 : (122 : UInt8).toNat = 122:=rfl;rw [e97,e122] at h2;rw [if_pos h,if_pos (by omega),UInt8.toNat_sub_of_le _ _ (by rw [UInt8.le_iff_toNat_le];show 32 ≤ _;omega)];show (u.toNat : Int) - 32 = ((u.toNat - 32 : Nat) : Int);omega
  · have h2:=h;rw [UInt8.le_iff_toNat_le,UInt8.le_iff_toNat_le] at h2;have e97 : (97 : UInt8).toNat = 97:=rfl;have e122 : (122 : UInt8).toNat = 122:=rfl;rw [e97,e122] at h2;rw [if_neg h,if_neg (by omega)]
theorem c72 (w : World) (s : List UInt8) (at' c : Nat) (hm : s.length ≤ 1000000000) (hc : c ≤ 7) (hac : at' + c ≤ s.length) : Calls Tryz.prog 72 #[.string (bs s),.int .i64 (at' : Int),.int .i64 (c : Int)] w fun en w'=>en = .returned (.int .i64 (Qbj s at' c)) ∧ Below w.heap.size w w':=by
 refine enter (args:=[_,_,_]) Tryz.func72 Tryz.ntmps72 rfl rfl (HS.refl w []) ?_
 iterate 13 refine aS ?_
 try refine oWr ?_
 refine aS3 ?_
 refine Qx (α:=Nat) [7,8,11,12,13,14,15,16,17,18,19,20,21,22,23] (fun j=>[(8,.int .i64 ((j : Int) - 1)),(7,.int .i64 (Qbj s (at' + j) (c - j)))]) (fun _=>_) (fun j=>j ≤ c) (fun j=>j) c (Nat.le_refl _) (by rw [Nat.sub_self];exact aSx) (fun w h=>h) (fun j hj=>?_)
 refine aS6 ?_
 refine Qb rfl (fun h1=>?_) fun h1=>?_
 ·try simp only [dT] at h1
  obtain ⟨i,rfl⟩ : ∃ i,j = i + 1:=⟨j - 1,by omega⟩
  have hst : Qbj s (at' + i) (c - i) = at1 s (at' + i) + 256 * Qbj s (at' + (i + 1)) (c - (i + 1)):=by rw [show c - i = (c - (i + 1)) + 1 by omega,Qbj];rfl
  have hb1:=Qh6 s (at' + i)
  have hn6:=Qvk s (at' + (i + 1)) (k:=c - (i + 1)) (by omega)
  have hb9:=(s.getD (at' + i) 0).toNat_lt
  refine aS6 ?_
  try refine oWr ?_
  refine aS4 ?_
  try refine oWr ?_
  refine Qq (show _ = Value.int .i64 ((at' + i : Nat) : Int) from by congr 1;omega) ?_
  refine o_p (Xv rfl rfl rfl Tryz.underlying9 (at' + i) (by omega) (by omega)) rfl ?_
  refine o_p (Qo rfl rfl Zq YZ) rfl ?_
  try refine oWr ?_
  refine aS ?_
  try refine oWr ?_
  refine Qq (show _ = Value.int .i64 (Qbj s (at' + i) (c - i)) from by rw [hst];congr 1;show _ * 256 + at1 s (at' + i) = _;omega) ?_
  refine aS6 ?_
  try refine oWr ?_
  refine aS2 ?_
  exact Qu i (by omega) (by omega) (by rw [show ((i : Int) - 1) = ((i + 1 : Nat) : Int) - 1 - 1 from by omega];exact aSx) (fun w h=>h)
 try simp only [dN] at h1
 obtain rfl : j = 0:=by omega
 rw [Nat.add_zero,Nat.sub_zero]
 refine Qp rfl ?_
 refine aS5 ?_
 exact rT rfl rfl (fun w' h'=>⟨by rfl,h'.below⟩)
theorem Qub (w : World) (b : Bool) : Calls Tryz.prog 151 #[.bool b] w fun en w'=>en = .returned (.int .i64 (if b then 1 else 0)) ∧ Below w.heap.size w w':=by
 refine enter (args:=[_]) Tryz.func151 Tryz.ntmps151 rfl rfl (HS.refl w []) ?_
 refine aS9 ?_
 refine Qb rfl (fun h1=>?_) fun h1=>?_
 ·skip
  refine aS4 ?_
  exact rT rfl rfl (fun w' h'=>⟨by simp_all [QT],h'.below⟩)
 skip
 refine aS5 ?_
 exact rT rfl rfl (fun w' h'=>⟨by simp_all [QT],h'.below⟩)
theorem c35 (w : World) (n : Int) : Calls Tryz.prog 35 #[.int .i64 n] w fun en w'=>en = .returned (.bool (decide (0 ≤ n) && decide (n ≤ 2147483647))) ∧ Below w.heap.size w w':=by
 refine enter (args:=[_]) Tryz.func35 Tryz.ntmps35 rfl rfl (HS.refl w []) ?_
 refine aS7 ?_
 refine o_q (Qa rfl YM rfl (fun w1 h1=>c40 w1 _ _ _)) rfl ?_
 refine aS2 ?_
 exact rT rfl rfl (fun w' h'=>⟨rfl,h'.below⟩)
theorem Qp0 (w : World) (a b : Int) : Calls Tryz.prog 133 #[.int .i64 a,.int .i64 b] w fun en w'=>en = .returned (.int .i64 (X4 a b)) ∧ Below w.heap.size w w':=by
 refine enter (args:=[_,_]) Tryz.func133 Tryz.ntmps133 rfl rfl (HS.refl w []) ?_
 refine aS9 ?_
 refine o_q (Qa rfl Qk8 rfl (fun w1 h1=>Qub w1 _)) rfl ?_
 refine aS3 ?_
 refine o_q (Qa rfl Qk8 rfl (fun w1 h1=>Qub w1 _)) rfl ?_
 refine aS ?_
 refine Qq (show _ = Value.int .i64 (X4 a b) from Qqu a b) ?_
 refine aS2 ?_
 exact rT rfl rfl (fun w' h'=>⟨by rfl,h'.below⟩)
theorem c134 (w : World) (c : Int) (h0 : 0 ≤ c ∧ c ≤ 255) : Calls Tryz.prog 134 #[.int .i64 c] w fun en w'=>en = .returned (.int .i64 (Qgz c)) ∧ Below w.heap.size w w':=by
 refine enter (args:=[_]) Tryz.func134 Tryz.ntmps134 rfl rfl (HS.refl w []) ?_
 refine aS8 ?_
 refine o_q (Qa rfl YM rfl (fun w1 h1=>c40 w1 _ _ _)) rfl ?_
 refine aS ?_
 refine Qb rfl (fun h1=>?_) fun h1=>?_
 ·try simp only [Bool.and_eq_true,decide_eq_true_eq] at h1
  have hz : Qgz c = c - 97 + 65:=by have hq:=h1;unfold Qgz;rw [if_pos (by first | exact hq | (simp at hq;omega))];omega
  refine aS4 ?_
  try refine oWr ?_
  refine aS ?_
  try refine oWr ?_
  refine aS2 ?_
  exact rT rfl rfl (fun w' h'=>⟨by rw [hz];rfl,h'.below⟩)
 try simp only [Bool.and_eq_false_iff,decide_eq_false_iff_not] at h1
 have hz : Qgz c = c:=by have hq:=h1;unfold Qgz;rw [if_neg (by intro h9;first | exact hq h9 | (simp at hq;omega))]
 refine aS6 ?_
 exact rT rfl rfl (fun w' h'=>⟨by rw [hz];rfl,h'.below⟩)
theorem QK : tsl Tryz.prog 139 = some (5,1,1):=by kernel_rfl
theorem QhY : tsz Tryz.prog 5 = some (1,false):=by kernel_rfl
instance : TSz Tryz.prog 5 1 false:=⟨QhY⟩
theorem Yf : tki Tryz.prog 188 = some .u16:=by kernel_rfl
theorem QU : Tryz.prog.follows .mixedOrders = true:=by kernel_rfl
theorem QoM : Qt Tryz.prog 268 = true:=by kernel_rfl
theorem YQ : tki Tryz.prog 190 = some .u32:=by kernel_rfl
theorem QuC : Qt Tryz.prog 255 = true:=by kernel_rfl
theorem Qn0 : Qt Tryz.prog 256 = true:=by kernel_rfl
theorem QqX : Qvf Tryz.prog 254:=⟨_,Tryz.func254,rfl,rfl,by kernel_rfl,by kernel_rfl⟩
theorem Qvp : Qt Tryz.prog 226 = true:=by kernel_rfl
theorem c268 (w : World) (a : Option Addr) (m cap : Nat) (x : List UInt8) (hs : Vl w a (x.map bv)) (hm : x.length = m) (h2 : 2 ≤ m) (hc : m ≤ cap) (hc9 : cap ≤ 9223372036854775807) : Calls Tryz.prog 268 #[.slice a m cap] w fun en w'=>en = .returned (.int .u16 (at2 x 0)) ∧ Below w.heap.size w w':=by
 refine enter (args:=[_]) Tryz.func268 Tryz.ntmps268 rfl rfl (HS.refl w []) ?_
 refine aS5 ?_
 refine QG [] QU ?_
 refine dP 0 ?_
 refine dV 1 rfl (Qc rfl rfl rfl QK 0 rfl (by omega) (hs.some (by rw [List.length_map];omega))) ?_
 refine dQ 2 [] rfl (Qd rfl rfl QhY ((hs.rd (i:=0) (Qda (l:=x) (k:=0) (by omega))))) ?_
 refine dV 3 rfl (Qo rfl rfl Zq Yf) ?_
 refine dP 4 ?_
 refine dV 5 rfl (Qc rfl rfl rfl QK 1 rfl (by omega) (hs.some (by rw [List.length_map];omega))) ?_
 refine dQ 6 [] rfl (Qd rfl rfl QhY ((hs.rd (i:=1) (Qda (l:=x) (k:=1) (by omega))))) ?_
 refine dV 7 rfl (Qo rfl rfl Zq Yf) ?_
 refine dV 8 rfl (Qhb rfl rfl rfl (by decide) 8 rfl) ?_
 refine dP 9 ?_
 refine dP 10 ?_
 refine dNi ?_
 exact rT rfl rfl (fun w' h'=>⟨by rw [← QjH];rfl,h'.below⟩)
theorem c255 (w : World) (a : Option Addr) (m cap : Nat) (x : List UInt8) (hs : Vl w a (x.map bv)) (hm : x.length = m) (h2 : 4 ≤ m) (hc : m ≤ cap) (hc9 : cap ≤ 9223372036854775807) : Calls Tryz.prog 255 #[.slice a m cap] w fun en w'=>en = .returned (.int .u32 (at4 x 0)) ∧ Below w.heap.size w w':=by
 have hx2:=Qaz x 0
 have hx3:=Qaz x 2
 refine enter (args:=[_]) Tryz.func255 Tryz.ntmps255 rfl rfl (HS.refl w []) ?_
 refine aS5 ?_
 refine QG [] QU ?_
 refine dP 0 ?_
 refine dQ 1 [] rfl (Qa rfl QoM rfl (fun w1 h1=>c268 w1 a m cap x (hs.later h1) hm (by omega) hc hc9)) ?_
 refine dV 2 rfl (Qo rfl rfl Yf YQ) ?_
 refine dP 3 ?_
 refine dV 4 rfl (Qz _ _ 2 m rfl rfl QK ⟨_,_,rfl,rfl⟩ rfl (by omega) (by omega)) ?_
 refine dQ 5 [] rfl (Qa rfl QoM rfl (fun w1 h1=>c268 w1 (XX a cap 2 1) (m - 2) (cap - 2) (x.drop 2) (by rw [List.map_drop];exact (hs.later h1).drop (by rw [List.length_map];omega) (by omega)) (by rw [List.length_drop];omega) (by omega) (by omega) (by omega))) ?_
 refine dV 6 rfl (Qo rfl rfl Yf YQ) ?_
 refine dV 7 rfl (Qhb rfl rfl rfl (by decide) 16 rfl) ?_
 refine dP 8 ?_
 refine dP 9 ?_
 refine dNi ?_
 exact rT rfl rfl (fun w' h'=>⟨by have h9:=QiV (at2 x 0) (at2 (x.drop 2) 0) (Qaz _ _) (Qaz _ _);rw [QaO] at h9 ⊢;exact (congrArg Ending.returned h9),h'.below⟩)
theorem QtZ (w : World) (s : List UInt8) (p : Nat) (hm : s.length ≤ 1000000) (hp : p + 4 ≤ s.length) : Calls Tryz.prog 227 #[.string (bs s),.int .i64 (p : Int)] w fun en w'=>en = .returned (.int .u32 (at4 s p)) ∧ Below w.heap.size w w':=by
 have h4:=Qhv s p
 have hdl : (s.drop p).length = s.length - p:=List.length_drop
 refine enter (args:=[_,_]) Tryz.func227 Tryz.ntmps227 rfl rfl (HS.refl w []) ?_
 refine aS8 ?_
 refine o_p (YE p rfl rfl rfl Tryz.underlying9 rfl (by omega)) rfl ?_
 refine o_h (Qa9 rfl rfl Tryz.underlying9 Tryz.underlying139 Tryz.underlying5 rfl (by simp only [maxLen];omega)) rfl (fun ⟨b1,c2⟩ ⟨h3,k4⟩=>?_)
 refine o_q (Qa rfl QuC rfl (fun w1 h1=>by have h9:=c255 w1 (some ⟨b1,0,none⟩) (s.drop p).length c2 (s.drop p) (h1.vl_blk aPk) rfl (by omega) (by assumption) (by have hq9 : c2 ≤ maxLen:=(by assumption);simp only [maxLen] at hq9;omega);rw [Qgi,Nat.add_zero] at h9;exact h9)) rfl ?_
 refine aS2 ?_
 exact rT rfl rfl (fun w' h'=>⟨by rfl,h'.below⟩)
theorem c256 (w : World) (x : Int) : Calls Tryz.prog 256 #[.int .u32 x] w fun en w'=>en = .returned (.bool false) ∧ Below w.heap.size w w':=by
 refine enter (args:=[_]) Tryz.func256 Tryz.ntmps256 rfl rfl (HS.refl w []) ?_
 refine QeX ?_
 exact rT rfl rfl (fun w' h'=>⟨by simp [QT],h'.below⟩)
theorem c228 (w : World) (x y : Int) : Calls Tryz.prog 228 #[.int .u32 x,.int .u32 y] w fun en w'=>en = .returned (.int .i64 (X4 x y)) ∧ Below w.heap.size w w':=by
 refine enter (args:=[_,_]) Tryz.func228 Tryz.ntmps228 rfl rfl (HS.refl w []) ?_
 refine aS7 ?_
 refine o_q (Qa rfl Qn0 rfl (fun w1 h1=>c256 w1 _)) rfl ?_
 refine aS5 ?_
 refine o_q (Qa rfl Qn0 rfl (fun w1 h1=>c256 w1 _)) rfl ?_
 refine aS7 ?_
 refine Qb rfl (fun h1=>?_) fun h1=>?_
 ·skip
  exfalso;simp at h1
 skip
 refine aS6 ?_
 refine Qb rfl (fun h2=>?_) fun h2=>?_
 ·skip
  exfalso;simp at h2
 skip
 refine aS8 ?_
 refine Qb rfl (fun h3=>?_) fun h3=>?_
 ·try simp only [dT] at h3
  have hz : X4 x y = -1:=by have hq:=h3;unfold X4;rw [if_pos hq]
  refine aS4 ?_
  exact rT rfl rfl (fun w' h'=>⟨by rw [hz];rfl,h'.below⟩)
 try simp only [dN] at h3
 refine aS8 ?_
 refine Qb rfl (fun h4=>?_) fun h4=>?_
 ·try simp only [dT] at h4
  have hz : X4 x y = 1:=by have hq:=h4;unfold X4;rw [if_neg (by omega),if_pos hq]
  refine aS4 ?_
  exact rT rfl rfl (fun w' h'=>⟨by rw [hz];rfl,h'.below⟩)
 try simp only [dN] at h4
 have hz : X4 x y = 0:=by have hq:=h4;unfold X4;rw [if_neg (by omega),if_neg hq]
 refine aS5 ?_
 exact rT rfl rfl (fun w' h'=>⟨by rw [hz];rfl,h'.below⟩)
theorem c226 (w : World) (a b : List UInt8) : Calls Tryz.prog 226 #[.string (bs a),.string (bs b)] w fun en w'=>en = .returned (.int .i64 (QbG a b)) ∧ Below w.heap.size w w':=by
 refine enter (args:=[_,_]) Tryz.func226 Tryz.ntmps226 rfl rfl (HS.refl w []) ?_
 refine aS8 ?_
 refine o_q (QeN rfl rfl rfl QqX) rfl ?_
 refine aS2 ?_
 exact rT rfl rfl (fun w' h'=>⟨by rfl,h'.below⟩)
theorem c184 (w : World) (a b : List UInt8) : Calls Tryz.prog 184 #[.string (bs a),.string (bs b)] w fun en w'=>en = .returned (.int .i64 (QbG a b)) ∧ Below w.heap.size w w':=by
 refine enter (args:=[_,_]) Tryz.func184 Tryz.ntmps184 rfl rfl (HS.refl w []) ?_
 refine aS8 ?_
 refine o_q (Qa rfl Qvp rfl (fun w1 h1=>c226 w1 _ _)) rfl ?_
 refine aS2 ?_
 exact rT rfl rfl (fun w' h'=>⟨by rfl,h'.below⟩)
theorem Qku : Qt Tryz.prog 227 = true:=by kernel_rfl
theorem QuZ : Qt Tryz.prog 228 = true:=by kernel_rfl
theorem QqS : Qt Tryz.prog 189 = true:=by kernel_rfl
def Qbu (s : List UInt8) (q : Nat) : Bool:=(List.range q).all fun i=>QeB s (4 * i)
theorem QmL {s : List UInt8} {q k : Nat} (hk : k < q) (h : 2147483647 < at4 s (4 * k)) : Qbu s q = false:=by
  unfold Qbu;rw [List.all_eq_false];exact ⟨k,List.mem_range.2 hk,by unfold QeB;simp;omega⟩
theorem Qj4 {s : List UInt8} {k : Nat} (h : Qbu s k = true) (h2 : ¬ 2147483647 < at4 s (4 * k)) : Qbu s (k + 1) = true:=by
  unfold Qbu at h ⊢;rw [List.range_succ,List.all_append,h];unfold QeB;simp;omega
def QbI (a b : List UInt8) : Nat → Nat → Int
  | 0,_=>0
  | f + 1,k=>if X4 (at4 a (4 * k)) (at4 b (4 * k)) ≠ 0 then X4 (at4 a (4 * k)) (at4 b (4 * k)) else QbI a b f (k + 1)
theorem c189 (w : World) (s : List UInt8) (q : Nat) (hm : s.length ≤ 1000000) (hq : q ≤ 1000) : Calls Tryz.prog 189 #[.string (bs s),.int .i64 ((4 * q : Nat) : Int)] w fun en w'=>en = .returned (.bool (decide (s.length = 4 * q) && Qbu s q)) ∧ Below w.heap.size w w':=by
 refine enter (args:=[_,_]) Tryz.func189 Tryz.ntmps189 rfl rfl (HS.refl w []) ?_
 refine aS8 ?_
 refine o_p (Qn rfl rfl Tryz.underlying9) rfl ?_
 refine aS3 ?_
 refine Qb rfl (fun h1=>?_) fun h1=>?_
 ·try simp only [Bool.not_eq_true',decide_eq_false_iff_not] at h1
  have hne : ¬ s.length = 4 * q:=by have hq9:=h1;omega
  refine aS4 ?_
  exact rT rfl rfl (fun w' h'=>⟨by simp [QT,hne],h'.below⟩)
 try simp only [Bool.not_eq_false',decide_eq_true_eq] at h1
 have heq : s.length = 4 * q:=by have hq9:=h1;omega
 refine aS7 ?_
 refine Qx (α:=Nat) [4,5,10,11,12,13,14,15,16,17,18] (fun k=>[(5,.int .i64 ((4 * k : Nat) : Int))]) (fun _=>_) (fun k=>k ≤ q ∧ Qbu s k = true) (fun k=>q - k) 0 ⟨Nat.zero_le _,rfl⟩ aSx (fun w h=>h) (fun k hx=>?_)
 obtain ⟨hk1,hok⟩:=hx
 refine aS7 ?_
 refine Qb rfl (fun h2=>?_) fun h2=>?_
 ·try simp only [dT] at h2
  have hk : k < q:=by omega
  refine aS7 ?_
  refine o_q (Qa rfl Qku rfl (fun w1 h1=>QtZ w1 s (4 * k) (by omega) (by omega))) rfl ?_
  refine aS2 ?_
  refine Qb rfl (fun h3=>?_) fun h3=>?_
  ·try simp only [dT] at h3
   have hz:=QmL hk h3
   refine aS4 ?_
   exact rT rfl rfl (fun w' h'=>⟨by simp [QT,hz],h'.below⟩)
  try simp only [dN] at h3
  have hz:=Qj4 hok h3
  refine aS5 ?_
  try refine oWr ?_
  refine aS2 ?_
  exact Qu (k + 1) (by omega) ⟨by omega,hz⟩ (by rw [show (((4 * k : Nat)) : Int) + 4 = ((4 * (k + 1) : Nat) : Int) from by omega];exact aSx) (fun w h=>h)
 try simp only [dN] at h2
 obtain rfl : k = q:=by omega
 refine Qp rfl ?_
 refine aS4 ?_
 exact rT rfl rfl (fun w' h'=>⟨by simp [QT,heq,hok],h'.below⟩)
theorem c190 (w : World) (a b : List UInt8) (q : Nat) (ha : a.length = 4 * q) (hb : b.length = 4 * q) (hq : q ≤ 1000) : Calls Tryz.prog 190 #[.string (bs a),.string (bs b)] w fun en w'=>en = .returned (.int .i64 (QbI a b q 0)) ∧ Below w.heap.size w w':=by
 refine enter (args:=[_,_]) Tryz.func190 Tryz.ntmps190 rfl rfl (HS.refl w []) ?_
 refine Qaq ?_
 refine Qx (α:=Nat) [4,5,6,7,8,9,10,11,12,13,14,15,16,17,18,19,20,21,22] (fun k=>[(5,.int .i64 ((4 * k : Nat) : Int))]) (fun _=>_) (fun k=>k ≤ q ∧ QbI a b q 0 = QbI a b (q - k) k) (fun k=>q - k) 0 ⟨Nat.zero_le _,rfl⟩ aSx (fun w h=>h) (fun k hx=>?_)
 obtain ⟨hk1,hx2⟩:=hx
 refine aS5 ?_
 refine o_p (Qn rfl rfl Tryz.underlying9) rfl ?_
 refine aS2 ?_
 refine Qb rfl (fun h1=>?_) fun h1=>?_
 ·try simp only [dT] at h1
  have hk : k < q:=by omega
  have hst : QbI a b (q - k) k = if X4 (at4 a (4 * k)) (at4 b (4 * k)) ≠ 0 then X4 (at4 a (4 * k)) (at4 b (4 * k)) else QbI a b (q - (k + 1)) (k + 1):=by rw [show q - k = (q - (k + 1)) + 1 by omega,QbI]
  refine aS7 ?_
  refine o_q (Qa rfl Qku rfl (fun w1 h1=>QtZ w1 a (4 * k) (by omega) (by omega))) rfl ?_
  refine aS2 ?_
  refine o_q (Qa rfl Qku rfl (fun w1 h1=>QtZ w1 b (4 * k) (by omega) (by omega))) rfl ?_
  refine o_q (Qa rfl QuZ rfl (fun w1 h1=>c228 w1 _ _)) rfl ?_
  refine aS7 ?_
  refine Qb rfl (fun h2=>?_) fun h2=>?_
  ·try simp only [Bool.not_eq_true',decide_eq_false_iff_not] at h2
   have hq9 : X4 (at4 a (4 * k)) (at4 b (4 * k)) ≠ 0:=h2
   rw [hst,if_pos hq9] at hx2
   refine aS5 ?_
   exact rT rfl rfl (fun w' h'=>⟨by rw [hx2];rfl,h'.below⟩)
  try simp only [Bool.not_eq_false',decide_eq_true_eq] at h2
  have hq9 : ¬ X4 (at4 a (4 * k)) (at4 b (4 * k)) ≠ 0:=by have hq8:=h2;simpa using hq8
  rw [hst,if_neg hq9] at hx2
  refine aS5 ?_
  try refine oWr ?_
  refine aS2 ?_
  exact Qu (k + 1) (by omega) ⟨by omega,hx2⟩ (by rw [show (((4 * k : Nat)) : Int) + 4 = ((4 * (k + 1) : Nat) : Int) from by omega];exact aSx) (fun w h=>h)
 try simp only [dN] at h1
 obtain rfl : k = q:=by omega
 rw [Nat.sub_self,QbI] at hx2
 refine Qp rfl ?_
 refine aS4 ?_
 exact rT rfl rfl (fun w' h'=>⟨by rw [hx2];rfl,h'.below⟩)
theorem c188 (w : World) (s : List UInt8) (hm : s.length ≤ 1000000) : Calls Tryz.prog 188 #[.string (bs s)] w fun en w'=>en = .returned (.bool (Xa 2 s)) ∧ Below w.heap.size w w':=by
 refine enter (args:=[_]) Tryz.func188 Tryz.ntmps188 rfl rfl (HS.refl w []) ?_
 refine aS7 ?_
 refine o_q (Qa rfl QqS rfl (fun w1 h1=>c189 w1 s 1 hm (by decide))) rfl ?_
 refine aS2 ?_
 exact rT rfl rfl (fun w' h'=>⟨by simp [QT,Xa,Qbu,List.range_succ,List.range_zero],h'.below⟩)
theorem c191 (w : World) (s : List UInt8) (hm : s.length ≤ 1000000) : Calls Tryz.prog 191 #[.string (bs s)] w fun en w'=>en = .returned (.bool (Xa 3 s)) ∧ Below w.heap.size w w':=by
 refine enter (args:=[_]) Tryz.func191 Tryz.ntmps191 rfl rfl (HS.refl w []) ?_
 refine aS7 ?_
 refine o_q (Qa rfl QqS rfl (fun w1 h1=>c189 w1 s 2 hm (by decide))) rfl ?_
 refine aS2 ?_
 exact rT rfl rfl (fun w' h'=>⟨by simp [QT,Xa,Qbu,List.range_succ,List.range_zero],h'.below⟩)
theorem c183 (w : World) (s : List UInt8) : Calls Tryz.prog 183 #[.string (bs s)] w fun en w'=>en = .returned (.bool (Xa 0 s)) ∧ Below w.heap.size w w':=by
 refine enter (args:=[_]) Tryz.func183 Tryz.ntmps183 rfl rfl (HS.refl w []) ?_
 refine aS7 ?_
 refine o_p (Qn rfl rfl Tryz.underlying9) rfl ?_
 refine o_q (Qa rfl Qek rfl (fun w1 h1=>Qnc w1 _ _ _)) rfl ?_
 refine aS2 ?_
 exact rT rfl rfl (fun w' h'=>⟨by simp [QT,Xa,Bool.decide_and];first | done | (congr 1 <;> simp <;> omega) | grind,h'.below⟩)
theorem c185 (w : World) (s : List UInt8) : Calls Tryz.prog 185 #[.string (bs s)] w fun en w'=>en = .returned (.bool (Xa 1 s)) ∧ Below w.heap.size w w':=by
 refine enter (args:=[_]) Tryz.func185 Tryz.ntmps185 rfl rfl (HS.refl w []) ?_
 refine aS7 ?_
 refine o_p (Qn rfl rfl Tryz.underlying9) rfl ?_
 refine o_q (Qa rfl Qek rfl (fun w1 h1=>Qnc w1 _ _ _)) rfl ?_
 refine aS2 ?_
 exact rT rfl rfl (fun w' h'=>⟨by simp [QT,Xa,Bool.decide_and];first | done | (congr 1 <;> simp <;> omega) | grind,h'.below⟩)
theorem QpI : QO Tryz.prog 181 = some [.nilFunc,.nilFunc,.nilFunc,.nilFunc,.nilFunc,.nilFunc,.nilFunc,.nilFunc]:=by kernel_rfl
theorem Qh1 : Zl Tryz.prog 164 = some [(0,1),(1,1)]:=by kernel_rfl
theorem Qh3 : QO Tryz.prog 164 = some [.nilFunc,.nilFunc]:=by kernel_rfl
theorem QkV : tar Tryz.prog 181 = some (4,164,2):=by kernel_rfl
theorem Qpj : tsz Tryz.prog 181 = some (8,true):=by kernel_rfl
instance : TSz Tryz.prog 181 8 true:=⟨Qpj⟩
theorem Qpb : Qt Tryz.prog 127 = true:=by kernel_rfl
theorem Qkh : tsz Tryz.prog 164 = some (2,true):=by kernel_rfl
instance : TSz Tryz.prog 164 2 true:=⟨Qkh⟩
theorem Qn5 : tfd Tryz.prog 164 0 = some (0,103):=by kernel_rfl
theorem Qt8 : tsz Tryz.prog 103 = some (1,false):=by kernel_rfl
def Qey (co : Int) : Nat:=if co = 0 then 183 else if co = 1 then 185 else if co = 2 then 188 else 191
def Qel (co : Int) : Nat:=if co = 0 then 184 else if co = 1 then 186 else 190
def QaT (f : Nat) : Value:=.func (.func f) #[] #[]
def ordV (co : Int) : Value:=.agg #[QaT (Qey co),QaT (Qel co)]
theorem c127 (w : World)  : Calls Tryz.prog 127 #[] w fun en w'=>en = .returned (.agg #[QaT (Qey 0),QaT (Qel 0),QaT (Qey 1),QaT (Qel 1),QaT (Qey 2),QaT (Qel 2),QaT (Qey 3),QaT (Qel 3)]) ∧ Below w.heap.size w w':=by
 refine enter (args:=[]) Tryz.func127 Tryz.ntmps127 rfl rfl (HS.refl w []) ?_
 refine aS2 ?_
 refine oAl (fun b1 _=>?_) QpI
 refine aS3 ?_
 refine o_p (Xq (cs:=[_,_]) rfl rfl Qh1 Qh3 rfl) rfl ?_
 refine o_p (Xq (cs:=[_,_]) rfl rfl Qh1 Qh3 rfl) rfl ?_
 refine o_p (Xq (cs:=[_,_]) rfl rfl Qh1 Qh3 rfl) rfl ?_
 refine o_p (Xq (cs:=[_,_]) rfl rfl Qh1 Qh3 rfl) rfl ?_
 refine o_p (QeP (cs:=[_,_,_,_,_,_,_,_]) rfl rfl QkV QpI rfl) rfl ?_
 refine oSt ?_
 refine aS ?_
 exact Qs (rs:=[.cell 0 181]) rfl (.cell rfl Qpj aPk rfl (.nil)) (fun w' h'=>⟨by rfl,h'.below⟩)
theorem Qvw (co : Int) : Qt Tryz.prog (Qey co) = true:=by
  unfold Qey;split
  · kernel_rfl
  · split
    · kernel_rfl
    · split <;> kernel_rfl
theorem Qnl (w : World) (j : Nat) (s : List UInt8) (hj : j ≤ 3) (hm : s.length ≤ 1000000) : Calls Tryz.prog (Qey (j : Int)) #[.string (bs s)] w fun en w'=>en = .returned (.bool (Xa (j : Int) s)) ∧ Below w.heap.size w w':=by
  match j,hj with
  | 0,_=>exact c183 w s
  | 1,_=>exact c185 w s
  | 2,_=>exact c188 w s hm
  | 3,_=>exact c191 w s hm
theorem Qjg (j : Nat) (hj : j ≤ 3) : Value.agg (cut [QaT (Qey 0),QaT (Qel 0),QaT (Qey 1),QaT (Qel 1),QaT (Qey 2),QaT (Qel 2),QaT (Qey 3),QaT (Qel 3)] (j * 2) 2).toArray = ordV (j : Int):=by
  match j,hj with
  | 0,_=>rfl
  | 1,_=>rfl
  | 2,_=>rfl
  | 3,_=>rfl
theorem c126 (w : World) (j : Nat) (s : List UInt8) (hj : j ≤ 3) (hm : s.length ≤ 1000000) : Calls Tryz.prog 126 #[.int .i64 (j : Int),.string (bs s)] w fun en w'=>en = .returned (.int .i64 (Qas (j : Int) s)) ∧ Below w.heap.size w w':=by
 refine enter (args:=[_,_]) Tryz.func126 Tryz.ntmps126 rfl rfl (HS.refl w []) ?_
 refine aS6 ?_
 refine o_q (Qa rfl Qpb rfl (fun w1 h1=>c127 w1)) rfl ?_
 refine aS ?_
 refine o_p (Qfx rfl rfl rfl QkV Qkh j rfl (by omega)) rfl ?_
 refine Qq (Qjg j hj) ?_
 refine o_p (Qjw rfl rfl Qn5 Qt8 rfl) rfl ?_
 refine aS ?_
 refine o_q (Y2 rfl rfl (Qvw _) rfl (fun w1 h1=>Qnl w1 j s hj hm)) rfl ?_
 refine o_q (Qa rfl Y8 rfl (fun w1 h1=>QdO w1 _ _)) rfl ?_
 refine aS2 ?_
 exact rT rfl rfl (fun w' h'=>⟨by simp only [QT,Qas,cond_eq_ite],h'.below⟩)
theorem Qoy : Qt Tryz.prog 187 = true:=by kernel_rfl
theorem Qt7 : Qt Tryz.prog 184 = true:=by kernel_rfl
theorem bset {L : List UInt8} {k : Nat} {x : UInt8} {v : Value} (h : k < L.length) (hv : v = bv x) : Qh (L.map bv) (k * 1) [v] = (L.set k x).map bv:=by
  subst hv;have h9:=QiO (vals:=byV) (sz:=1) (fun _=>rfl) L k 0 [bv x] (L.getD k 0) x (by rw [List.getElem?_eq_getElem h,List.getD_eq_getElem?_getD,List.getElem?_eq_getElem h];rfl) rfl (by simp);rw [Nat.add_zero] at h9;have e : ∀ M : List UInt8,M.flatMap byV = M.map bv:=fun M=>Qqt bv M;rw [e,e] at h9;exact h9
def QcI (s : List UInt8) (k : Nat) : List UInt8:=(s.map QbL).take k ++ s.drop k
theorem Qb8 {s : List UInt8} {k : Nat} (h : k ≤ s.length) : (QcI s k).length = s.length:=by simp [QcI];omega
theorem QiR {s : List UInt8} {k : Nat} (h : k < s.length) : (QcI s k).getD k 0 = s.getD k 0:=by
  unfold QcI;rw [List.getD_eq_getElem?_getD,List.getElem?_append_right (by simp;omega),List.getElem?_drop,List.getD_eq_getElem?_getD];congr 2;simp;omega
theorem QjA {s : List UInt8} {k : Nat} (h : k < s.length) : (QcI s k).set k (QbL (s.getD k 0)) = QcI s (k + 1):=by
  unfold QcI;apply List.ext_getElem?;intro j;simp only [List.getElem?_set,List.getElem?_append,List.getElem?_take,List.getElem?_drop,List.length_append,List.length_take,List.length_map,List.length_drop,List.getElem?_map,List.getD_eq_getElem?_getD];have hk:=List.getElem?_eq_getElem h
  grind
theorem QuX (s : List UInt8) : QcI s 0 = s:=by simp [QcI]
theorem Qqz (s : List UInt8) : QcI s s.length = s.map QbL:=by
  unfold QcI;rw [List.drop_length,List.append_nil,List.take_of_length_le (by simp)]
theorem QmN {s : List UInt8} {k : Nat} (h : k < s.length) (hc : QbL (s.getD k 0) = s.getD k 0) : QcI s k = QcI s (k + 1):=by
  rw [← QjA h,hc];apply List.ext_getElem?;intro j;rw [List.getElem?_set];split
  · rename_i e;subst e;rw [← QiR h,List.getD_eq_getElem?_getD];rw [if_pos (by rw [Qb8 (by omega)];exact h),List.getElem?_eq_getElem (by rw [Qb8 (by omega)];exact h)];rfl
  · rfl
theorem QnS {x : UInt8} (h : 97 ≤ x.toNat ∧ x.toNat ≤ 122) : Value.int .u8 (IntKind.u8.wrap (IntKind.u8.wrap ((x.toNat : Int) - 97) + 65)) = bv (QbL x):=by
  have h2:=QfX x;unfold Qgz at h2;rw [if_pos (by omega)] at h2;rw [show (x.toNat : Int) - 97 = ((x.toNat - 97 : Nat) : Int) by omega,Qme _ (by omega),show ((x.toNat - 97 : Nat) : Int) + 65 = ((x.toNat - 32 : Nat) : Int) by omega,Qme _ (by omega)];unfold bv;exact congrArg (Value.int .u8) (by omega)
theorem QuO {x : UInt8} (h : ¬ (97 ≤ x.toNat ∧ x.toNat ≤ 122)) : QbL x = x:=by
  have h2:=QfX x;unfold Qgz at h2;rw [if_neg (by omega)] at h2;exact UInt8.toNat_inj.1 (by omega)
theorem c187 (w : World) (s : List UInt8) (hm : s.length ≤ 1000000) : Calls Tryz.prog 187 #[.string (bs s)] w fun en w'=>en = .returned (.string (bs (s.map QbL))) ∧ Below w.heap.size w w':=by
 refine enter (args:=[_]) Tryz.func187 Tryz.ntmps187 rfl rfl (HS.refl w []) ?_
 refine aS7 ?_
 refine o_h (Qa9 rfl rfl Tryz.underlying9 Tryz.underlying139 Tryz.underlying5 rfl (by simp only [maxLen];omega)) rfl (fun ⟨b1,c2⟩ ⟨h3,k4⟩=>?_)
 refine Qaq ?_
 refine Qx (α:=Nat) [4,5,10,11,12,13,14,15,16,17,18,19,20,21,22,23,24,25,26,27] (fun k=>[(10,.int .i64 (k : Int))]) (fun k=>HS w [] [.blk b1 5 c2 ((QcI s k).map bv)]) (fun k=>k ≤ s.length) (fun k=>s.length - k) 0 (Nat.zero_le _) aSx (fun w h=>by rw [QuX];exact h.ent aEt) (fun k hk1=>?_)
 refine aS5 ?_
 refine Qb rfl (fun h5=>?_) fun h5=>?_
 ·try simp only [dT] at h5
  have hk : k < s.length:=by omega
  have hb9:=(s.getD k 0).toNat_lt
  refine aS6 ?_
  refine o_p (Qc rfl rfl rfl QK (k) (by omega) (by omega) rfl) rfl ?_
  refine o_q (QaD rfl rfl QhY (fun w h=>by rw [Nat.zero_add];exact h.rd_blk (Mc:=[]) aPk (by rw [Nat.mul_one,Qda (by rw [Qb8 hk1];exact hk),QiR hk]) (by simp))) rfl ?_
  refine aS8 ?_
  refine Xn 3 17 20 _ _ rfl
   (by
    intro hg6
    have hs7:=hg6;try simp only [dT] at hs7
    refine oOn 17 hg6 ?_
    refine aS ?_
    refine oOn 17 hg6 ?_
    refine aS ?_
    refine o_p (Qg rfl rfl hg6 rfl) rfl ?_
    refine aS ?_
    exact oJn 3 20)
   (by
    intro hg8
    have hs9:=hg8;try simp only [dN] at hs9
    refine oOf 17 hg8 ?_
    refine oOf 17 hg8 ?_
    refine o_p (Qf rfl rfl hg8 rfl) rfl ?_
    refine aS ?_
    exact oJn 3 20) ?_
  refine aS ?_
  refine Yi (α:=Unit) [21,22,23,24,25,26] (fun _=>[]) (fun _=>HS w [] [.blk b1 5 c2 ((QcI s (k + 1)).map bv)]) (fun _=>True) ?_ ?_
  ·skip
   refine Qb rfl (fun h10=>?_) fun h10=>?_
   ·try simp only [Bool.and_eq_true,decide_eq_true_eq] at h10
    have hcc : 97 ≤ (s.getD k 0).toNat ∧ (s.getD k 0).toNat ≤ 122:=by have hq:=h10;omega
    refine aS6 ?_
    try (refine Qq (u8add _ _) ?_)
    refine Qq (QnS hcc) ?_
    refine o_p (Qc rfl rfl rfl QK (k) (by omega) (by omega) rfl) rfl ?_
    refine Qq (show _ = Value.pointer (some ⟨b1,k * 1,none⟩) from by rw [Nat.zero_add]) ?_
    refine QiH (Qbt rfl rfl rfl QhY rfl aPt (by rw [List.length_map,Qb8 hk1];omega) rfl) (fun _ _=>?_)
    refine aS ?_
    exact Qw () trivial aSx (fun w h=>by have h2:=HS.blk_to (b:=b1) h aPk (bset (L:=QcI s k) (x:=QbL (s.getD k 0)) (by rw [Qb8 hk1];exact hk) rfl);rw [QjA hk] at h2;exact h2.ent aEt)
   try simp only [Bool.and_eq_false_iff,decide_eq_false_iff_not] at h10
   have hno : QbL (s.getD k 0) = s.getD k 0:=QuO (by have hq:=h10;omega)
   refine aS ?_
   exact Qw () trivial aSx (fun w h=>by rw [← QmN hk hno];exact h.ent aEt)
  intro _ _
  refine aS3 ?_
  try refine oWr ?_
  refine aS2 ?_
  exact Qu (k + 1) (by omega) (by omega) aSx (fun w h=>h.ent aEt)
 try simp only [dN] at h5
 obtain rfl : k = s.length:=by omega
 rw [Qqz]
 refine Qp rfl ?_
 refine aS3 ?_
 refine o_q (YD rfl rfl Tryz.underlying139 Tryz.underlying9 Tryz.underlying5 aPk (by simp [List.length_map]) (Qan _)) rfl ?_
 refine aS2 ?_
 exact rT rfl rfl (fun w' h'=>⟨by simp only [Zu];rfl,h'.below⟩)
theorem c186 (w : World) (a b : List UInt8) (ha : a.length ≤ 1000000) (hb : b.length ≤ 1000000) : Calls Tryz.prog 186 #[.string (bs a),.string (bs b)] w fun en w'=>en = .returned (.int .i64 (QbG (a.map QbL) (b.map QbL))) ∧ Below w.heap.size w w':=by
 refine enter (args:=[_,_]) Tryz.func186 Tryz.ntmps186 rfl rfl (HS.refl w []) ?_
 refine aS7 ?_
 refine o_q (Qa rfl Qoy rfl (fun w1 h1=>c187 w1 a ha)) rfl ?_
 refine aS ?_
 refine o_q (Qa rfl Qoy rfl (fun w1 h1=>c187 w1 b hb)) rfl ?_
 refine o_q (Qa rfl Qt7 rfl (fun w1 h1=>c184 w1 _ _)) rfl ?_
 refine aS2 ?_
 exact rT rfl rfl (fun w' h'=>⟨by rfl,h'.below⟩)
theorem Qtw : Qt Tryz.prog 126 = true:=by kernel_rfl
instance : TFd Tryz.prog 164 1 1 162:=⟨by kernel_rfl⟩
theorem QfH : tsz Tryz.prog 162 = some (1,false):=by kernel_rfl
instance : TSz Tryz.prog 162 1 false:=⟨QfH⟩
theorem QrC (a b : List UInt8) : QbI a b 1 0 = Xm 2 a b:=by
  simp only [QbI,Xm,Nat.mul_zero];split
  · rfl
  · rename_i h;simp only [ne_eq,Decidable.not_not] at h;rw [h];rfl
theorem QrB (a b : List UInt8) : QbI a b 2 0 = Xm 3 a b:=by
  have e : Xm 3 a b = if X4 (at4 a 0) (at4 b 0) ≠ 0 then X4 (at4 a 0) (at4 b 0) else X4 (at4 a 4) (at4 b 4):=rfl
  rw [e];show (if X4 (at4 a 0) (at4 b 0) ≠ 0 then X4 (at4 a 0) (at4 b 0) else if X4 (at4 a 4) (at4 b 4) ≠ 0 then X4 (at4 a 4) (at4 b 4) else 0) = _
  by_cases h : X4 (at4 a 0) (at4 b 0) ≠ 0
  · rw [if_pos h,if_pos h]
  · rw [if_neg h,if_neg h];split
    · rfl
    · rename_i h2;simp only [ne_eq,Decidable.not_not] at h2;exact h2.symm
theorem Qe7 {s : List UInt8} (h : Xa 2 s = true) : s.length = 4:=by
  unfold Xa at h;simp at h;exact h.1
theorem Qe3 {s : List UInt8} (h : Xa 3 s = true) : s.length = 8:=by
  unfold Xa at h;simp at h;exact h.1
theorem Qis (co : Int) : Qt Tryz.prog (Qel co) = true:=by
  unfold Qel;split
  · kernel_rfl
  · split <;> kernel_rfl
theorem Qce (w : World) (j : Nat) (a b : List UInt8) (hj : j ≤ 3) (hka : Xa (j : Int) a = true) (hkb : Xa (j : Int) b = true) (ha : a.length ≤ 1000000) (hb : b.length ≤ 1000000) : Calls Tryz.prog (Qel (j : Int)) #[.string (bs a),.string (bs b)] w fun en w'=>en = .returned (.int .i64 (Xm (j : Int) a b)) ∧ Below w.heap.size w w':=by
  match j,hj with
  | 0,_=>exact c184 w a b
  | 1,_=>exact c186 w a b ha hb
  | 2,_=>
    have h:=c190 w a b 1 (Qe7 hka) (Qe7 hkb) (by decide);rw [QrC] at h;exact h
  | 3,_=>
    have h:=c190 w a b 2 (Qe3 hka) (Qe3 hkb) (by decide);rw [QrB] at h;exact h
def cmpE (co : Int) (a b : List UInt8) : Int:=if QB co = 0 then if Qas co a = 0 then Qas co b else Qas co a else QB co
theorem QoD {co : Int} (h : QB co = 0) : ∃ j : Nat,co = (j : Int) ∧ j ≤ 3:=by
  unfold QB at h;split at h
  · exact ⟨co.toNat,by omega,by omega⟩
  · cases h
instance : TFd Tryz.prog 27 0 0 9:=⟨by kernel_rfl⟩
theorem Qa3 : tsz Tryz.prog 9 = some (1,false):=by kernel_rfl
instance : TSz Tryz.prog 9 1 false:=⟨Qa3⟩
instance : TFd Tryz.prog 27 1 1 9:=⟨by kernel_rfl⟩
theorem Qjo (co : Int) (x : TEnt) : Ending.returned (Value.int .i64 (if Qas co x.key = 0 then cond (decide ((x.val.length : Int) ≤ 64)) 0 8 else Qas co x.key)) = Ending.returned (Value.int .i64 (YS co x)):=by
  unfold YS
  by_cases h : Qas co x.key = 0
  · rw [if_pos h,if_pos h]
    by_cases h2 : x.val.length ≤ 64
    · rw [if_pos h2,decide_eq_true (by omega)];rfl
    · rw [if_neg h2,decide_eq_false (by omega)];rfl
  · rw [if_neg h,if_neg h];unfold Qas at h ⊢;split at h
    · exact absurd rfl h
    · rename_i h3;rw [if_neg h3]
theorem c164 (w : World) (j : Nat) (x : TEnt) (hj : j ≤ 3) (hm : x.key.length ≤ 1000000) : Calls Tryz.prog 164 #[.int .i64 (j : Int),.agg #[.string (bs x.key),.string (bs x.val)]] w fun en w'=>en = .returned (.int .i64 (YS (j : Int) x)) ∧ Below w.heap.size w w':=by
 refine enter (args:=[_,_]) Tryz.func164 Tryz.ntmps164 rfl rfl (HS.refl w []) ?_
 refine aS2 ?_
 refine oBx fun b1 _=>?_
 refine aS3 ?_
 refine QG [] QU ?_
 refine dP 0 ?_
 refine dFa 1 ?_
 refine dLd 2 [] ?_
 refine dQ 3 [] rfl (Qa rfl Qtw rfl (fun w1 h1=>c126 w1 j x.key hj hm)) ?_
 refine dFa 4 ?_
 refine dLd 5 [] ?_
 refine dV 6 rfl (Qn rfl rfl Tryz.underlying9) ?_
 refine dP 7 ?_
 refine dQ 8 [] rfl (Qa rfl Y8 rfl (fun w1 h1=>QdO w1 _ _)) ?_
 refine dH 9 rfl (Qr (cs:=[_,_]) rfl rfl ZE Qdr rfl rfl rfl) (fun b2 _=>?_)
 refine dBa ?_
 refine dQ 10 [] rfl (Qa rfl Qfr rfl (fun w1 h1=>QqH h1 aPk (by rfl) (by rfl) (by decide))) ?_
 refine dP 11 ?_
 refine dNi ?_
 exact rT rfl rfl (fun w' h'=>⟨by simp only [QT];rw [QdK];exact Qjo _ _,h'.below⟩)
theorem Yy : Qt Tryz.prog 72 = true:=by kernel_rfl
theorem QeI : Qt Tryz.prog 35 = true:=by kernel_rfl
theorem kok0 (s : List UInt8) : Xa ((0 : Nat) : Int) s = (decide ((1 : Int) ≤ (s.length : Int)) && decide ((s.length : Int) ≤ 40)):=by
  rw [Bool.eq_iff_iff];simp [Xa];omega
theorem kok1 (s : List UInt8) : Xa ((1 : Nat) : Int) s = (decide ((1 : Int) ≤ (s.length : Int)) && decide ((s.length : Int) ≤ 32)):=by
  rw [Bool.eq_iff_iff];simp [Xa];omega
theorem kok2 (s : List UInt8) : Xa ((2 : Nat) : Int) s = (decide ((s.length : Int) = 4) && (decide (0 ≤ at4 s 0) && decide (at4 s 0 ≤ 2147483647))):=by
  have:=Qhv s 0;rw [Bool.eq_iff_iff];simp [Xa,QeB];omega
theorem kok3 (s : List UInt8) : Xa ((3 : Nat) : Int) s = (decide ((s.length : Int) = 8) && (decide (0 ≤ at4 s 0) && decide (at4 s 0 ≤ 2147483647)) && (decide (0 ≤ at4 s 4) && decide (at4 s 4 ≤ 2147483647))):=by
  have:=Qhv s 0;have:=Qhv s 4;rw [Bool.eq_iff_iff];simp [Xa,QeB];omega
theorem c17 (w : World) (j : Nat) (s : List UInt8) (hj : j ≤ 3) (hm : s.length ≤ 1000000) : Calls Tryz.prog 17 #[.int .i64 (j : Int),.string (bs s)] w fun en w'=>en = .returned (.int .i64 (Qas (j : Int) s)) ∧ Below w.heap.size w w':=by
 refine enter (args:=[_,_]) Tryz.func17 Tryz.ntmps17 rfl rfl (HS.refl w []) ?_
 refine aS7 ?_
 refine o_p (Qn rfl rfl Tryz.underlying9) rfl ?_
 refine o_q (Qa rfl YM rfl (fun w1 h1=>c40 w1 _ _ _)) rfl ?_
 iterate 13 refine aS ?_
 refine Yi (α:=Unit) [5,12,13,14,15,16,17,18,19,20,21,22,23,24,25,26,27,28,29,30,31,32,33,34,35,36,37,38,39] (fun _=>[(5,.bool (Xa (j : Int) s))]) (fun _=>HS w [] []) (fun _=>True) ?_ ?_
 ·skip
  refine Qb rfl (fun h1=>?_) fun h1=>?_
  ·try simp only [dT] at h1
   obtain rfl : j = 1:=by have hq:=h1;omega
   refine aS2 ?_
   refine o_p (Qn rfl rfl Tryz.underlying9) rfl ?_
   refine o_q (Qa rfl YM rfl (fun w1 h1=>c40 w1 _ _ _)) rfl ?_
   refine aS2 ?_
   exact Qw () trivial (by rw [kok1];exact aSx) (fun w h=>h.ent aEt)
  try simp only [dN] at h1
  have hn1 : ¬ (j : Int) = 1:=h1
  refine aS5 ?_
  refine Qb rfl (fun h2=>?_) fun h2=>?_
  ·try simp only [dT] at h2
   obtain rfl : j = 2:=by have hq:=h2;omega
   refine aS2 ?_
   refine o_p (Qn rfl rfl Tryz.underlying9) rfl ?_
   refine aS2 ?_
   refine Xn 4 20 24 _ _ rfl
    (by
     intro hg3
     have hs4:=hg3;try simp only [dT] at hs4
     refine oOn 20 hg3 ?_
     refine aS ?_
     refine oOn 20 hg3 ?_
     refine o_q (Qa rfl Yy rfl (fun w1 h1=>by have h9:=c72 w1 s 0 4 (by omega) (by omega) (by have hq:=hg3;first | omega | (simp at hq;omega));rw [Y0] at h9;exact h9)) rfl ?_
     refine oOn 20 hg3 ?_
     refine o_q (Qa rfl QeI rfl (fun w1 h1=>c35 w1 _)) rfl ?_
     refine o_p (Qg rfl rfl hg3 rfl) rfl ?_
     refine aS ?_
     exact oJn 4 24)
    (by
     intro hg5
     have hs6:=hg5;try simp only [dN] at hs6
     refine oOf 20 hg5 ?_
     refine oOf 20 hg5 ?_
     refine oOf 20 hg5 ?_
     refine o_p (Qf rfl rfl hg5 rfl) rfl ?_
     refine aS ?_
     exact oJn 4 24) ?_
   refine aS2 ?_
   exact Qw () trivial (by rw [kok2];exact aSx) (fun w h=>h.ent aEt)
  try simp only [dN] at h2
  have hn2 : ¬ (j : Int) = 2:=h2
  refine aS5 ?_
  refine Qb rfl (fun h7=>?_) fun h7=>?_
  ·try simp only [dT] at h7
   obtain rfl : j = 3:=by have hq:=h7;omega
   refine aS2 ?_
   refine o_p (Qn rfl rfl Tryz.underlying9) rfl ?_
   refine aS2 ?_
   refine Xn 4 30 34 _ _ rfl
    (by
     intro hg8
     have hs9:=hg8;try simp only [dT] at hs9
     refine oOn 30 hg8 ?_
     refine aS ?_
     refine oOn 30 hg8 ?_
     refine o_q (Qa rfl Yy rfl (fun w1 h1=>by have h9:=c72 w1 s 0 4 (by omega) (by omega) (by have hq:=hg8;first | omega | (simp at hq;omega));rw [Y0] at h9;exact h9)) rfl ?_
     refine oOn 30 hg8 ?_
     refine o_q (Qa rfl QeI rfl (fun w1 h1=>c35 w1 _)) rfl ?_
     refine o_p (Qg rfl rfl hg8 rfl) rfl ?_
     refine aS ?_
     exact oJn 4 34)
    (by
     intro hg10
     have hs11:=hg10;try simp only [dN] at hs11
     refine oOf 30 hg10 ?_
     refine oOf 30 hg10 ?_
     refine oOf 30 hg10 ?_
     refine o_p (Qf rfl rfl hg10 rfl) rfl ?_
     refine aS ?_
     exact oJn 4 34) ?_
   refine aS ?_
   refine Xn 4 35 39 _ _ rfl
    (by
     intro hg12
     have hs13:=hg12;try simp only [Bool.and_eq_true,decide_eq_true_eq] at hs13
     refine oOn 35 hg12 ?_
     refine aS ?_
     refine oOn 35 hg12 ?_
     refine o_q (Qa rfl Yy rfl (fun w1 h1=>by have h9:=c72 w1 s 4 4 (by omega) (by omega) (by have hq:=hg12;first | omega | (simp at hq;omega));rw [Y0] at h9;exact h9)) rfl ?_
     refine oOn 35 hg12 ?_
     refine o_q (Qa rfl QeI rfl (fun w1 h1=>c35 w1 _)) rfl ?_
     refine o_p (Qg rfl rfl hg12 rfl) rfl ?_
     refine aS ?_
     exact oJn 4 39)
    (by
     intro hg14
     have hs15:=hg14;try simp only [Bool.and_eq_false_iff,decide_eq_false_iff_not] at hs15
     refine oOf 35 hg14 ?_
     refine oOf 35 hg14 ?_
     refine oOf 35 hg14 ?_
     refine o_p (Qf rfl rfl hg14 rfl) rfl ?_
     refine aS ?_
     exact oJn 4 39) ?_
   refine aS2 ?_
   exact Qw () trivial (by rw [kok3];exact aSx) (fun w h=>h.ent aEt)
  try simp only [dN] at h7
  have hn3 : ¬ (j : Int) = 3:=h7
  obtain rfl : j = 0:=by omega
  refine aS ?_
  exact Qw () trivial (by rw [kok0];exact aSx) (fun w h=>h.ent aEt)
 intro _ _
 refine aS7 ?_
 refine Qb rfl (fun h16=>?_) fun h16=>?_
 ·try simp only [Bool.not_eq_true'] at h16
  have hz : Qas (j : Int) s = 3:=by have hq:=h16;unfold Qas;rw [if_neg (by simpa using hq)]
  refine aS4 ?_
  exact rT rfl rfl (fun w' h'=>⟨by rw [hz];rfl,h'.below⟩)
 try simp only [Bool.not_eq_false'] at h16
 have hz : Qas (j : Int) s = 0:=by have hq:=h16;unfold Qas;rw [if_pos (by simpa using hq)]
 refine aS5 ?_
 exact rT rfl rfl (fun w' h'=>⟨by rw [hz];rfl,h'.below⟩)
theorem Qv2 : Qt Tryz.prog 17 = true:=by kernel_rfl
theorem c198 (w : World) (j : Nat) (x : TEnt) (hj : j ≤ 3) (hm : x.key.length ≤ 1000000) : Calls Tryz.prog 198 #[.int .i64 (j : Int),.agg #[.string (bs x.key),.string (bs x.val)]] w fun en w'=>en = .returned (.int .i64 (YS (j : Int) x)) ∧ Below w.heap.size w w':=by
 refine enter (args:=[_,_]) Tryz.func198 Tryz.ntmps198 rfl rfl (HS.refl w []) ?_
 refine aS2 ?_
 refine oBx fun b1 _=>?_
 refine aS8 ?_
 refine o_q (Qa rfl Qv2 rfl (fun w1 h1=>c17 w1 j x.key hj hm)) rfl ?_
 refine aS7 ?_
 refine Qb rfl (fun h2=>?_) fun h2=>?_
 ·try simp only [Bool.not_eq_true',decide_eq_false_iff_not] at h2
  have h0 : ¬ Qas (j : Int) x.key = 0:=h2
  have hz : YS (j : Int) x = Qas (j : Int) x.key:=by have h9:=Qjo (j : Int) x;rw [if_neg h0] at h9;injection h9 with h9;injection h9 with _ h9;exact h9.symm
  refine aS5 ?_
  exact rT rfl rfl (fun w' h'=>⟨by rw [hz];rfl,h'.below⟩)
 try simp only [Bool.not_eq_false',decide_eq_true_eq] at h2
 have h0 : Qas (j : Int) x.key = 0:=h2
 refine aS6 ?_
 refine o_p (Qn rfl rfl Tryz.underlying9) rfl ?_
 refine aS2 ?_
 refine Qb rfl (fun h3=>?_) fun h3=>?_
 ·try simp only [dT] at h3
  have hz : YS (j : Int) x = 8:=by have hq:=h3;unfold YS;rw [if_pos h0,if_neg (by omega)]
  refine aS4 ?_
  exact rT rfl rfl (fun w' h'=>⟨by rw [hz];rfl,h'.below⟩)
 try simp only [dN] at h3
 have hz : YS (j : Int) x = 0:=by have hq:=h3;unfold YS;rw [if_pos h0,if_pos (by omega)]
 refine aS5 ?_
 exact rT rfl rfl (fun w' h'=>⟨by rw [hz];rfl,h'.below⟩)
theorem Qf7 : Qt Tryz.prog 133 = true:=by kernel_rfl
theorem Qq8 : Qt Tryz.prog 134 = true:=by kernel_rfl
def mpK (j : Int) (l : List UInt8) : List UInt8:=if j = 1 then l.map QbL else l
theorem Qam (j : Int) (l : List UInt8) : (mpK j l).length = l.length:=by unfold mpK;split <;> simp
theorem Qrh {j : Nat} (h2 : ¬ (j : Int) = 2) (h3 : ¬ (j : Int) = 3) (a b : List UInt8) : Xm (j : Int) a b = QbG (mpK (j : Int) a) (mpK (j : Int) b):=by
  unfold Xm mpK;rw [if_neg h2,if_neg h3];split <;> rfl
theorem Qns {x y : List UInt8} {k : Nat} (hx : k < x.length) (hy : k < y.length) : QbG (x.drop k) (y.drop k) = if X4 ((x.getD k 0).toNat : Int) ((y.getD k 0).toNat : Int) ≠ 0 then X4 ((x.getD k 0).toNat : Int) ((y.getD k 0).toNat : Int) else QbG (x.drop (k + 1)) (y.drop (k + 1)):=by
  rw [List.drop_eq_getElem_cons hx,List.drop_eq_getElem_cons hy,List.getD_eq_getElem?_getD,List.getD_eq_getElem?_getD,List.getElem?_eq_getElem hx,List.getElem?_eq_getElem hy];simp only [QbG,Option.getD_some,X4,UInt8.lt_iff_toNat_lt];split
  · rename_i h;rw [if_pos (by omega),if_pos (by omega)]
  · rename_i h;rw [if_neg (show ¬ ((x[k].toNat : Int) < y[k].toNat) by omega)];split
    · rename_i h2;rw [if_pos (by omega),if_pos (by omega)]
    · rename_i h2;rw [if_neg (by omega)]
theorem Qpi {x y : List UInt8} {k : Nat} (hx : k ≤ x.length) (hy : k ≤ y.length) (h : ¬ (k < x.length ∧ k < y.length)) : QbG (x.drop k) (y.drop k) = X4 (x.length : Int) (y.length : Int):=by
  unfold X4;rcases Nat.lt_or_ge k x.length with h1 | h1
  · have e : y.drop k = []:=List.drop_of_length_le (by omega);rw [e,List.drop_eq_getElem_cons h1,if_neg (by omega),if_pos (by omega)];rfl
  · have e : x.drop k = []:=List.drop_of_length_le h1;rw [e];rcases Nat.lt_or_ge k y.length with h2 | h2
    · rw [List.drop_eq_getElem_cons h2,if_pos (by omega)];rfl
    · have e2 : y.drop k = []:=List.drop_of_length_le h2;rw [e2,if_neg (by omega),if_neg (by omega)];rfl
theorem Qmp {a : List UInt8} {k : Nat} (h : k < a.length) : (((mpK 1 a).getD k 0).toNat : Int) = Qgz ((a.getD k 0).toNat : Int):=by
  unfold mpK;rw [if_pos rfl,QfX,List.getD_eq_getElem?_getD,List.getElem?_map,List.getElem?_eq_getElem h,List.getD_eq_getElem?_getD,List.getElem?_eq_getElem h];rfl
theorem Qop {j : Int} (hj : ¬ j = 1) (a : List UInt8) : mpK j a = a:=by unfold mpK;rw [if_neg hj]
theorem c65 (w : World) (j : Nat) (a b : List UInt8) (hj : j ≤ 3) (hka : Xa (j : Int) a = true) (hkb : Xa (j : Int) b = true) (ha : a.length ≤ 1000000) (hb : b.length ≤ 1000000) : Calls Tryz.prog 65 #[.int .i64 (j : Int),.string (bs a),.string (bs b)] w fun en w'=>en = .returned (.int .i64 (Xm (j : Int) a b)) ∧ Below w.heap.size w w':=by
 refine enter (args:=[_,_,_]) Tryz.func65 Tryz.ntmps65 rfl rfl (HS.refl w []) ?_
 iterate 15 refine aS ?_
 refine Qb rfl (fun h1=>?_) fun h1=>?_
 ·try simp only [dT] at h1
  obtain rfl : j = 2:=by have hq:=h1;omega
  have hl1:=Qe7 hka
  have hl2:=Qe7 hkb
  have hz : Xm ((2 : Nat) : Int) a b = X4 (at4 a 0) (at4 b 0):=rfl
  refine aS3 ?_
  refine o_q (Qa rfl Yy rfl (fun w1 h1=>by have h9:=c72 w1 a 0 4 (by omega) (by omega) (by omega);rw [Y0] at h9;exact h9)) rfl ?_
  refine aS ?_
  refine o_q (Qa rfl Yy rfl (fun w1 h1=>by have h9:=c72 w1 b 0 4 (by omega) (by omega) (by omega);rw [Y0] at h9;exact h9)) rfl ?_
  refine o_q (Qa rfl Qf7 rfl (fun w1 h1=>Qp0 w1 _ _)) rfl ?_
  refine aS2 ?_
  exact rT rfl rfl (fun w' h'=>⟨by rw [hz];rfl,h'.below⟩)
 try simp only [dN] at h1
 have hn2 : ¬ (j : Int) = 2:=h1
 refine aS5 ?_
 refine Qb rfl (fun h2=>?_) fun h2=>?_
 ·try simp only [dT] at h2
  obtain rfl : j = 3:=by have hq:=h2;omega
  have hl1:=Qe3 hka
  have hl2:=Qe3 hkb
  have hz : Xm ((3 : Nat) : Int) a b = if X4 (at4 a 0) (at4 b 0) ≠ 0 then X4 (at4 a 0) (at4 b 0) else X4 (at4 a 4) (at4 b 4):=rfl
  refine aS4 ?_
  refine o_q (Qa rfl Yy rfl (fun w1 h1=>by have h9:=c72 w1 a 0 4 (by omega) (by omega) (by omega);rw [Y0] at h9;exact h9)) rfl ?_
  refine aS ?_
  refine o_q (Qa rfl Yy rfl (fun w1 h1=>by have h9:=c72 w1 b 0 4 (by omega) (by omega) (by omega);rw [Y0] at h9;exact h9)) rfl ?_
  refine o_q (Qa rfl Qf7 rfl (fun w1 h1=>Qp0 w1 _ _)) rfl ?_
  refine aS7 ?_
  refine Qb rfl (fun h3=>?_) fun h3=>?_
  ·try simp only [Bool.not_eq_true',decide_eq_false_iff_not] at h3
   have hq9 : X4 (at4 a 0) (at4 b 0) ≠ 0:=h3
   rw [if_pos hq9] at hz
   refine aS5 ?_
   exact rT rfl rfl (fun w' h'=>⟨by rw [hz];rfl,h'.below⟩)
  try simp only [Bool.not_eq_false',decide_eq_true_eq] at h3
  have hq9 : ¬ X4 (at4 a 0) (at4 b 0) ≠ 0:=by have hq8:=h3;simpa using hq8
  rw [if_neg hq9] at hz
  refine aS4 ?_
  refine o_q (Qa rfl Yy rfl (fun w1 h1=>by have h9:=c72 w1 a 4 4 (by omega) (by omega) (by omega);rw [Y0] at h9;exact h9)) rfl ?_
  refine aS ?_
  refine o_q (Qa rfl Yy rfl (fun w1 h1=>by have h9:=c72 w1 b 4 4 (by omega) (by omega) (by omega);rw [Y0] at h9;exact h9)) rfl ?_
  refine o_q (Qa rfl Qf7 rfl (fun w1 h1=>Qp0 w1 _ _)) rfl ?_
  refine aS2 ?_
  exact rT rfl rfl (fun w' h'=>⟨by rw [hz];rfl,h'.below⟩)
 try simp only [dN] at h2
 have hn3 : ¬ (j : Int) = 3:=h2
 have hmp:=Qrh hn2 hn3 a b
 refine aS8 ?_
 refine Qx (α:=Nat) [6,8,9,10,11,35,36,37,38,39,40,41,42,43,44,45,46,47,48,49,50,51,52,53,54,55,56,57,58,59,60,61,62,63,64,65,66] (fun k=>[(8,.int .i64 (k : Int))]) (fun _=>_) (fun k=>k ≤ a.length ∧ k ≤ b.length ∧ QbG (mpK (j : Int) a) (mpK (j : Int) b) = QbG ((mpK (j : Int) a).drop k) ((mpK (j : Int) b).drop k)) (fun k=>a.length - k) 0 ⟨Nat.zero_le _,Nat.zero_le _,rfl⟩ aSx (fun w h=>h) (fun k hx=>?_)
 obtain ⟨hk1,hk2,hk3⟩:=hx
 refine aS5 ?_
 refine o_p (Qn rfl rfl Tryz.underlying9) rfl ?_
 refine aS2 ?_
 refine Xn 5 39 44 _ _ rfl
  (by
   intro hg4
   have hs5:=hg4;try simp only [dT] at hs5
   refine oOn 39 hg4 ?_
   refine aS ?_
   refine oOn 39 hg4 ?_
   refine aS ?_
   refine oOn 39 hg4 ?_
   refine o_p (Qn rfl rfl Tryz.underlying9) rfl ?_
   refine oOn 39 hg4 ?_
   refine aS ?_
   refine o_p (Qg rfl rfl hg4 rfl) rfl ?_
   refine aS ?_
   exact oJn 5 44)
  (by
   intro hg6
   have hs7:=hg6;try simp only [dN] at hs7
   refine oOf 39 hg6 ?_
   refine oOf 39 hg6 ?_
   refine oOf 39 hg6 ?_
   refine oOf 39 hg6 ?_
   refine o_p (Qf rfl rfl hg6 rfl) rfl ?_
   refine aS ?_
   exact oJn 5 44) ?_
 refine aS ?_
 refine Qb rfl (fun h8=>?_) fun h8=>?_
 ·try simp only [Bool.and_eq_true,decide_eq_true_eq] at h8
  obtain ⟨hka1,hkb1⟩ : k < a.length ∧ k < b.length:=by have hq:=h8;omega
  have hb1:=(a.getD k 0).toNat_lt
  have hb2:=(b.getD k 0).toNat_lt
  have hst:=Qns (x:=mpK (j : Int) a) (y:=mpK (j : Int) b) (k:=k) (by rw [Qam];exact hka1) (by rw [Qam];exact hkb1)
  refine aS4 ?_
  refine QG [] QU ?_
  refine dP 0 ?_
  refine dP 1 ?_
  refine dV 2 rfl (Xv rfl rfl rfl Tryz.underlying9 (k) (by omega) (by omega)) ?_
  refine dV 3 rfl (Qo rfl rfl Zq YZ) ?_
  try refine dWr ?_
  refine dP 4 ?_
  refine dP 5 ?_
  refine dV 6 rfl (Xv rfl rfl rfl Tryz.underlying9 (k) (by omega) (by omega)) ?_
  refine dV 7 rfl (Qo rfl rfl Zq YZ) ?_
  try refine dWr ?_
  refine dP 8 ?_
  refine dP 9 ?_
  refine dNi ?_
  refine aS6 ?_
  refine Qm (L':=[(0,_),(1,_),(2,_),(8,_),(9,_),(10,_),(12,_),(13,_),(14,_),(20,_),(21,_),(56,_)]) aSx (fun _ h=>h) ?_
  refine Yi (α:=Unit) [9,10,57,58,59,60] (fun _=>[(9,.int .i64 (((mpK (j : Int) a).getD k 0).toNat : Int)),(10,.int .i64 (((mpK (j : Int) b).getD k 0).toNat : Int))]) (fun _=>HS w [] []) (fun _=>True) ?_ ?_
  ·skip
   refine Qb rfl (fun h9=>?_) fun h9=>?_
   ·try simp only [dT] at h9
    obtain rfl : j = 1:=by have hq:=h9;omega
    refine aS2 ?_
    refine o_q (Qa rfl Qq8 rfl (fun w1 h1=>c134 w1 _ (by omega))) rfl ?_
    refine aS ?_
    refine o_q (Qa rfl Qq8 rfl (fun w1 h1=>c134 w1 _ (by omega))) rfl ?_
    refine aS3 ?_
    exact Qw () trivial (by rw [show (((1 : Nat) : Int)) = 1 from rfl,Qmp hka1,Qmp hkb1];exact aSx) (fun w h=>h.ent aEt)
   try simp only [dN] at h9
   have hn1 : ¬ (j : Int) = 1:=h9
   refine aS ?_
   exact Qw () trivial (by rw [Qop hn1,Qop hn1];exact aSx) (fun w h=>h.ent aEt)
  intro _ _
  refine aS4 ?_
  refine o_q (Qa rfl Qf7 rfl (fun w1 h1=>Qp0 w1 _ _)) rfl ?_
  refine aS7 ?_
  refine Qb rfl (fun h10=>?_) fun h10=>?_
  ·try simp only [Bool.not_eq_true',decide_eq_false_iff_not] at h10
   have hq9 : X4 (((mpK (j : Int) a).getD k 0).toNat : Int) (((mpK (j : Int) b).getD k 0).toNat : Int) ≠ 0:=h10
   have hz:=hmp.trans (hk3.trans (hst.trans (if_pos hq9)))
   refine aS5 ?_
   exact rT rfl rfl (fun w' h'=>⟨by rw [hz];rfl,h'.below⟩)
  try simp only [Bool.not_eq_false',decide_eq_true_eq] at h10
  have hq9 : ¬ X4 (((mpK (j : Int) a).getD k 0).toNat : Int) (((mpK (j : Int) b).getD k 0).toNat : Int) ≠ 0:=by have hq8:=h10;simpa using hq8
  have hz:=hk3.trans (hst.trans (if_neg hq9))
  refine aS5 ?_
  try refine oWr ?_
  refine aS2 ?_
  exact Qu (k + 1) (by omega) ⟨by omega,by omega,hz⟩ aSx (fun w h=>h)
 try simp only [Bool.and_eq_false_iff,decide_eq_false_iff_not] at h8
 have hz:=Qpi (x:=mpK (j : Int) a) (y:=mpK (j : Int) b) (k:=k) (by rw [Qam];exact hk1) (by rw [Qam];exact hk2) (by rw [Qam,Qam];have hq:=h8;omega)
 rw [← hk3,← hmp,Qam,Qam] at hz
 refine Qp rfl ?_
 refine aS3 ?_
 refine o_p (Qn rfl rfl Tryz.underlying9) rfl ?_
 refine aS ?_
 refine o_p (Qn rfl rfl Tryz.underlying9) rfl ?_
 refine o_q (Qa rfl Qf7 rfl (fun w1 h1=>Qp0 w1 _ _)) rfl ?_
 refine aS2 ?_
 exact rT rfl rfl (fun w' h'=>⟨by rw [hz];rfl,h'.below⟩)
theorem QgV : QO Tryz.prog 37 = some [.int .i64 0,.int .i64 0,.int .i64 0,.slice none 0 0]:=by kernel_rfl
theorem QgP : Zl Tryz.prog 69 = some [(0,1),(1,1),(2,1)]:=by kernel_rfl
theorem XF : QO Tryz.prog 69 = some [.bool false,.slice none 0 0,.slice none 0 0]:=by kernel_rfl
theorem XB : tsl Tryz.prog 35 = some (69,3,56):=by kernel_rfl
theorem Qpt : Zl Tryz.prog 37 = some [(0,1),(1,1),(2,1),(3,1)]:=by kernel_rfl
theorem QlZ : tsz Tryz.prog 37 = some (4,true):=by kernel_rfl
instance : TSz Tryz.prog 37 4 true:=⟨QlZ⟩
theorem QpF : Qt Tryz.prog 155 = true:=by kernel_rfl
theorem Xh : tsl Tryz.prog 67 = some (27,2,32):=by kernel_rfl
theorem Qb2 : tsz Tryz.prog 27 = some (2,true):=by kernel_rfl
instance : TSz Tryz.prog 27 2 true:=⟨Qb2⟩
theorem Z2 : QO Tryz.prog 27 = some [.string (bs []),.string (bs [])]:=by kernel_rfl
instance : TFd Tryz.prog 166 0 0 37:=⟨by kernel_rfl⟩
instance : TFd Tryz.prog 37 1 1 3:=⟨by kernel_rfl⟩
theorem Y1 : tsz Tryz.prog 3 = some (1,false):=by kernel_rfl
instance : TSz Tryz.prog 3 1 false:=⟨Y1⟩
instance : TFd Tryz.prog 37 2 2 3:=⟨by kernel_rfl⟩
theorem ZC : tsz Tryz.prog 158 = some (1,false):=by kernel_rfl
instance : TSz Tryz.prog 158 1 false:=⟨ZC⟩
instance : TFd Tryz.prog 37 0 0 3:=⟨by kernel_rfl⟩
theorem Qug : Qt Tryz.prog 164 = true:=by kernel_rfl
instance : TFd Tryz.prog 166 1 4 164:=⟨by kernel_rfl⟩
instance : TFd Tryz.prog 69 1 1 67:=⟨by kernel_rfl⟩
theorem QdS : tsz Tryz.prog 67 = some (1,false):=by kernel_rfl
instance : TSz Tryz.prog 67 1 false:=⟨QdS⟩
def tbV (co mo rm : Int) (a : Option Addr) (n cap : Nat) : List Value:=[.int .i64 co,.int .i64 mo,.int .i64 rm,.slice a n cap,QaT (Qey co),QaT (Qel co)]
def TbR (w : World) (M : List Nat) (bt : Nat) (co mo rm : Int) (a : Option Addr) (n cap : Nat) : Prop:=∀ k v,(tbV co mo rm a n cap)[k]? = some v → Rd w M bt k v
section
variable {w w' : World} {M M' : List Nat} {As As' : List HA} {bt : Nat} {co mo rm : Int} {a : Option Addr} {n cap : Nat}
theorem TbR.next (h : TbR w M bt co mo rm a n cap) (hs : HS w M As w') : TbR w' [] bt co mo rm a n cap:=fun k v hv=>(h k v hv).next hs
theorem TbR.keep (h : TbR w M bt co mo rm a n cap) (hs : HS w M As w') : TbR w' (fps As) bt co mo rm a n cap:=fun k v hv=>hs.keep (h k v hv)
theorem TbR.mono (h : TbR w M bt co mo rm a n cap) (hM : ∀ b ∈ M',b ∈ M) : TbR w M' bt co mo rm a n cap:=fun k v hv=>(h k v hv).mono hM
theorem HS.tbr {w0 : World} {tot t : Nat} (h : HS w0 M As w) (hp : QP As (.blk bt t tot (tbV co mo rm a n cap)) As') : TbR w [] bt co mo rm a n cap:=fun k v hv=>h.rd_blk (Mc:=[]) hp hv (by simp)
end
def QjW (co mo rm : Int) : Tre:=if (if QB co = 0 then Yn mo rm else QB co) = 0 then ⟨co,mo,rm,[⟨true,[],[]⟩]⟩ else ⟨0,0,0,[]⟩
theorem QnC {w0 w : World} {M : List Nat} {As : List HA} (et nt : Nat) (h : HS w0 M As w) : HS w0 M (.nodes et nt none 0 [] :: As) w:=by
  have h1 : HS w0 M (.own (.slice none 0 0) nt 3 0 [] :: .star [] :: As) w:=(h.star_nil).own_nil nt 3;exact HS.row_shut (l:=([] : List LNd)) h1 rfl rfl
theorem Qm7 {w0 w : World} {M : List Nat} {As : List HA} {a : Option Addr} {cap nt : Nat} (et : Nat) (h : HS w0 M (.own (.slice a 1 cap) nt 3 1 [.bool true,.slice none 0 0,.slice none 0 0] :: As) w) : HS w0 M (.nodes et nt a cap [⟨true,none,0,[],none,0,[]⟩] :: As) w:=by
  have h1 : HS w0 M (.star ([(⟨true,none,0,[],none,0,[]⟩ : LNd)].map (Qjz et)) :: As) w:=HS.star_close (Bs:=[_]) (HS.star_close (Bs:=[_,_]) ((h.tail.own_nil 3 1).own_nil et 2));have h2 : HS w0 M (.star [] :: .own (.slice a 1 cap) nt 3 1 [.bool true,.slice none 0 0,.slice none 0 0] :: As) w:=h.star_nil
  have h3 : HS w0 M (.own (.slice a 1 cap) nt 3 1 [.bool true,.slice none 0 0,.slice none 0 0] :: .star ([(⟨true,none,0,[],none,0,[]⟩ : LNd)].map (Qjz et)) :: As) w:=
    HS.perm (HS.star_close (Bs:=[_]) (HS.star_close (Bs:=[_,_]) ((h.own_nil 3 1).own_nil et 2))) (List.Perm.swap ..)
  exact HS.row_shut (l:=[(⟨true,none,0,[],none,0,[]⟩ : LNd)]) h3 rfl rfl
theorem c91 (w : World) (co mo rm : Int) : Calls Tryz.prog 91 #[.int .i64 co,.int .i64 mo,.int .i64 rm] w fun en w'=>∃ g : (Option Addr × Nat) × List LNd,en = .returned (.tuple #[.agg #[.int .i64 (QjW co mo rm).co,.int .i64 (QjW co mo rm).mo,.int .i64 (QjW co mo rm).rm,.slice g.1.1 g.2.length g.1.2],.int .i64 (if QB co = 0 then Yn mo rm else QB co)]) ∧ pln g.2 = (QjW co mo rm).ns ∧ HS w [] [.nodes 27 69 g.1.1 g.1.2 g.2] w':=by
 refine enter (args:=[_,_,_]) Tryz.func91 Tryz.ntmps91 rfl rfl (HS.refl w []) ?_
 refine aS2 ?_
 refine oAl (fun b1 _=>?_) QgV
 refine aS8 ?_
 refine o_q (Qa rfl QpF rfl (fun w1 h1=>c155 w1 _ _ _)) rfl ?_
 refine aS7 ?_
 refine Qb rfl (fun h2=>?_) fun h2=>?_
 ·try simp only [Bool.not_eq_true',decide_eq_false_iff_not] at h2
  have hz : QjW co mo rm = ⟨0,0,0,[]⟩:=by unfold QjW;rw [if_neg h2]
  refine aS2 ?_
  refine o_p (Xq (cs:=[_,_,_,_]) rfl rfl Qpt QgV rfl) rfl ?_
  refine aS ?_
  refine oSt ?_
  refine aS2 ?_
  exact Qs (rs:=[.cell 6 37,.tmp 7]) rfl (.cell rfl QlZ aPk rfl (.tmp rfl (.nil))) (fun w' h'=>⟨((none,0),[]),by rw [hz];rfl,by rw [hz];rfl,(QnC 27 69 h'.nil).ent aEt⟩)
 try simp only [Bool.not_eq_false',decide_eq_true_eq] at h2
 have hz : QjW co mo rm = ⟨co,mo,rm,[⟨true,[],[]⟩]⟩:=by unfold QjW;rw [if_pos h2]
 refine aS6 ?_
 refine o_p (Xq (cs:=[_,_,_]) rfl rfl QgP XF rfl) rfl ?_
 refine o_h (Qr (cs:=[_,_,_]) rfl rfl XB XF rfl rfl rfl) rfl (fun b3 _=>?_)
 refine o_p (Xq (cs:=[_,_,_,_]) rfl rfl Qpt QgV rfl) rfl ?_
 refine oSt ?_
 refine aS2 ?_
 exact Qs (rs:=[.cell 6 37,.tmp 7]) rfl (.cell rfl QlZ aPk rfl (.tmp rfl (.nil))) (fun w' h'=>⟨((some ⟨b3,0,none⟩,1),[⟨true,none,0,[],none,0,[]⟩]),by rw [hz,h2];rfl,by rw [hz];rfl,(Qm7 27 (HS.own_shut (n:=1) (cap:=1) (sz:=3) (h'.ent (Bs:=[.blk b3 69 (1 * 3) [.bool true,.slice none 0 0,.slice none 0 0]]) aEt) rfl (by decide) (by decide))).ent aEt⟩)
theorem c230 (w : World) (a : Option Addr) (cap : Nat) (l : List TEnt) (q : Nat) (cv : Array Value) (es : List Int) (hs : Rw TEnt.vals 2 w [] a l) (hm : l.length ≤ 1000000) (hq : Qt Tryz.prog q = true) (he : es.length = l.length) (hc : ∀ k w1,k < l.length → (∀ j,j < k → es.getD j 0 = 0) → HS w [] [] w1 → Calls Tryz.prog q (#[] ++ [.int .i64 (k : Int),.agg (TEnt.vals (nth l k)).toArray].toArray ++ cv) w1 fun en w2=>en = .returned (.int .i64 (es.getD k 0)) ∧ Below w1.heap.size w1 w2) : Calls Tryz.prog 230 #[.slice a l.length cap,.func (.func q) #[] cv] w fun en w'=>en = .returned (.tuple #[.int .i64 (XM es 0).1,.int .i64 (XM es 0).2]) ∧ Below w.heap.size w w':=by
 refine enter (args:=[_,_]) Tryz.func230 Tryz.ntmps230 rfl rfl (HS.refl w []) ?_
 iterate 13 refine aS ?_
 refine Qx (α:=Nat) [4,5,6,7,8,11,12,13,14,15,16,17,18,19,20,21,22,23,24] (fun k=>[(11,.int .i64 (k : Int))]) (fun _=>HS w [] []) (fun k=>k ≤ l.length ∧ XM es 0 = XM (es.drop k) k ∧ ∀ j,j < k → es.getD j 0 = 0) (fun k=>l.length - k) 0 ⟨by omega,rfl,fun i h=>absurd h (Nat.not_lt_zero i)⟩ aSx (fun w h=>h.ent aEt) (fun k hk=>?_)
 obtain ⟨hk1,hk2,hk3⟩:=hk
 refine aS5 ?_
 refine Qb rfl (fun h1=>?_) fun h1=>?_
 ·try simp only [dT] at h1
  refine aS6 ?_
  refine o_p (Qc rfl rfl rfl Xh (k) (by omega) (by omega) (Rw.some hs (by omega))) rfl ?_
  refine o_q (QA _ rfl rfl Qb2 rfl (Rw.rd hs (by omega))) rfl ?_
  refine oAl (fun b2 _=>?_) Z2
  refine aS ?_
  refine oSt ?_
  refine aS6 ?_
  refine o_q (Y2 rfl rfl hq rfl (fun w1 h1=>hc k w1 (by omega) hk3 (h1.ent aEt))) rfl ?_
  refine aS7 ?_
  refine Qb rfl (fun h3=>?_) fun h3=>?_
  ·try simp only [Bool.not_eq_true',decide_eq_false_iff_not] at h3
   refine aS7 ?_
   exact Qs (rs:=[.tmp 4,.tmp 5]) rfl (.tmp rfl (.tmp rfl (.nil))) (fun w' h'=>⟨by simp only [QT];rw [hk2,Z3 (by omega),if_neg (by assumption)],h'.below⟩)
  try simp only [Bool.not_eq_false',decide_eq_true_eq] at h3
  refine aS4 ?_
  try refine oWr ?_
  refine aS2 ?_
  exact Qu (k+1) (by omega) ⟨by omega,by rw [hk2,Z3 (by omega),if_pos (by assumption)],fun j hj=>(Nat.lt_or_ge j k).elim (hk3 j) (fun h=>by obtain rfl : j = k:=(by omega);assumption)⟩ aSx (fun w h=>h.ent aEt)
 try simp only [dN] at h1
 refine Qp rfl ?_
 refine aS5 ?_
 exact Qs (rs:=[.tmp 4,.tmp 5]) rfl (.tmp rfl (.tmp rfl (.nil))) (fun w' h'=>⟨by simp only [QT];rw [hk2,QmR (by omega)],h'.below⟩)
theorem c173 (w : World) (bt : Nat) (j : Nat) (mo rm : Int) (a : Option Addr) (n cap : Nat) (hmo : 0 ≤ mo ∧ mo ≤ 1000) (ht : TbR w [] bt (j : Int) mo rm a n cap) : Calls Tryz.prog 173 #[.pointer (some ⟨bt,0,none⟩)] w fun en w'=>en = .returned (.int .i64 (mo / 2)) ∧ Below w.heap.size w w':=by
 refine enter (args:=[_]) Tryz.func173 Tryz.ntmps173 rfl rfl (HS.refl w []) ?_
 refine Qaq ?_
 refine o_q (Qd rfl rfl Y1 (ht 1 _ rfl)) rfl ?_
 refine o_p (QaR rfl rfl rfl (by omega) (by omega) (by omega)) rfl ?_
 refine aS2 ?_
 exact rT rfl rfl (fun w' h'=>⟨rfl,h'.below⟩)
theorem c229 (w : World) (bt : Nat) (j : Nat) (mo rm : Int) (a : Option Addr) (n cap : Nat) (i : Nat) (ht : TbR w [] bt (j : Int) mo rm a n cap) : Calls Tryz.prog 229 #[.pointer (some ⟨bt,0,none⟩),.int .i64 (i : Int)] w fun en w'=>en = .returned (.int .i64 (YH mo rm i)) ∧ Below w.heap.size w w':=by
 refine enter (args:=[_,_]) Tryz.func229 Tryz.ntmps229 rfl rfl (HS.refl w []) ?_
 refine Qaq ?_
 refine Qb rfl (fun h1=>?_) fun h1=>?_
 ·try simp only [dT] at h1
  obtain rfl : i = 0:=by have hq:=h1;omega
  refine aS6 ?_
  refine o_q (Qd rfl rfl Y1 (ht 2 _ rfl)) rfl ?_
  refine aS2 ?_
  exact rT rfl rfl (fun w' h'=>⟨by rfl,h'.below⟩)
 try simp only [dN] at h1
 have hn0 : ¬ i = 0:=by have hq:=h1;omega
 refine aS7 ?_
 refine o_q (Qd rfl rfl Y1 (ht 1 _ rfl)) rfl ?_
 refine aS2 ?_
 exact rT rfl rfl (fun w' h'=>⟨by simp only [QT,YH];rw [if_neg hn0],h'.below⟩)
theorem c231 (w : World) (c0 : Nat) (k : Int) (x : TEnt) (bt : Nat) (j : Nat) (mo rm : Int) (a : Option Addr) (n cap : Nat) (hj : j ≤ 3) (hx : x.key.length ≤ 1000000) (hc0 : Rd w [] c0 0 (.pointer (some ⟨bt,0,none⟩))) (ht : TbR w [] bt (j : Int) mo rm a n cap) : Calls Tryz.prog 231 #[.int .i64 k,.agg #[.string (bs x.key),.string (bs x.val)],.pointer (some ⟨c0,0,none⟩)] w fun en w'=>en = .returned (.int .i64 (YS (j : Int) x)) ∧ Below w.heap.size w w':=by
 refine enter (args:=[_,_,_]) Tryz.func231 Tryz.ntmps231 rfl rfl (HS.refl w []) ?_
 refine aS2 ?_
 refine oBx fun b1 _=>?_
 refine aS3 ?_
 refine QG [] QU ?_
 refine dQ 0 [] rfl (Qd rfl rfl ZC (hc0)) ?_
 refine dP 1 ?_
 refine dFa 2 ?_
 refine dFa 3 ?_
 refine dQ 4 [] rfl (Qd rfl rfl Y1 (ht 0 _ rfl)) ?_
 refine dLn 5 [] ?_
 refine dQ 6 [] rfl (Qa rfl Qug rfl (fun w1 h1=>c164 w1 j x hj hx)) ?_
 refine dP 7 ?_
 refine dNi ?_
 exact rT rfl rfl (fun w' h'=>⟨rfl,h'.below⟩)
theorem c234 (w : World) (c0 c7 : Nat) (k : Nat) (us : Bool) (ea : Option Addr) (ec : Nat) (es : List TEnt) (kids : Value) (bt : Nat) (j : Nat) (mo rm : Int) (a : Option Addr) (n cap : Nat) (hj : j ≤ 3) (hk : k < es.length) (hl : es.length ≤ 1000000) (hx : ∀ x ∈ es,Xa (j : Int) x.key = true ∧ x.key.length ≤ 1000000) (hc0 : Rd w [] c0 0 (.pointer (some ⟨bt,0,none⟩))) (hc7 : Rd w [] c7 1 (.slice ea es.length ec)) (hes : Rw TEnt.vals 2 w [] ea es) (ht : TbR w [] bt (j : Int) mo rm a n cap) : Calls Tryz.prog 234 #[.int .i64 (k : Int),.agg #[.string (bs (nth es k).key),.string (bs (nth es k).val)],.pointer (some ⟨c0,0,none⟩),.pointer (some ⟨c7,0,none⟩)] w fun en w'=>en = .returned (.int .i64 (QaW (j : Int) es k)) ∧ Below w.heap.size w w':=by
 refine enter (args:=[_,_,_,_]) Tryz.func234 Tryz.ntmps234 rfl rfl (HS.refl w []) ?_
 refine aS2 ?_
 refine oBx fun b1 _=>?_
 refine aS3 ?_
 refine QG [] QU ?_
 refine dP 0 ?_
 refine dP 1 ?_
 refine dP 2 ?_
 apply XZ 9
 ·exact rfl
 ·intro hg2
  have hs3:=hg2;try simp only [dT] at hs3
  refine dOf 3 9 hg2 ?_
  refine dOf 4 9 hg2 ?_
  refine dOf 5 9 hg2 ?_
  refine dOf 6 9 hg2 ?_
  refine dOf 7 9 hg2 ?_
  refine dOf 8 9 hg2 ?_
  refine dOf 9 9 hg2 ?_
  refine dOf 10 9 hg2 ?_
  refine dOf 11 9 hg2 ?_
  refine dOf 12 9 hg2 ?_
  refine dOf 13 9 hg2 ?_
  refine dOf 14 9 hg2 ?_
  refine dOf 15 9 hg2 ?_
  refine dOf 16 9 hg2 ?_
  refine dOf 17 9 hg2 ?_
  refine dOf 18 9 hg2 ?_
  refine dOf 19 9 hg2 ?_
  refine dV 20 rfl (Qg rfl rfl hg2 rfl) ?_
  refine dQ 21 [] rfl (Qa rfl Y8 rfl (fun w1 h1=>QdO w1 _ _)) ?_
  refine dP 22 ?_
  refine dNi ?_
  exact rT rfl rfl (fun w' h'=>⟨by simp only [QT,QaW];first | (split <;> simp_all <;> done) | (simp_all;done) | (grind),h'.below⟩)
 intro hg4
 have hs5:=hg4;try simp only [dN] at hs5
 refine dQo 3 9 [] hg4 rfl rfl rfl (Qd rfl rfl ZC (hc0)) ?_
 refine dPo 4 9 hg4 ?_
 refine dFo 5 9 hg4 ?_
 refine dFo 6 9 hg4 ?_
 refine dQo 7 9 [] hg4 rfl rfl rfl (Qd rfl rfl QfH (ht 5 _ rfl)) ?_
 refine dFo 8 9 hg4 ?_
 refine dQo 9 9 [] hg4 rfl rfl rfl (Qd rfl rfl QdS (hc7)) ?_
 refine dPo 10 9 hg4 ?_
 refine dPo 11 9 hg4 ?_
 try refine dWr ?_
 refine dVo 12 9 hg4 rfl rfl rfl (Qhs rfl rfl rfl ) ?_
 refine dVo 13 9 hg4 rfl rfl rfl (Qc rfl rfl rfl Xh (k - 1) (by omega) (by omega) (Rw.some hes (by omega))) ?_
 refine dFo 14 9 hg4 ?_
 refine dQo 15 9 [] hg4 rfl rfl rfl (Qd rfl rfl Qa3 ((hes.rdj (i:=k - 1) 0 (by omega) rfl))) ?_
 refine dFo 16 9 hg4 ?_
 refine dQo 17 9 [] hg4 rfl rfl rfl (YA rfl rfl Qa3 aPk rfl) ?_
 refine dQo 18 9 [] hg4 rfl rfl rfl (Y2 rfl rfl (Qis _) rfl (fun w1 h1=>Qce w1 j (nth es (k - 1)).key (nth es k).key hj (hx _ (QC (by omega))).1 (hx _ (QC hk)).1 (hx _ (QC (by omega))).2 (hx _ (QC hk)).2)) ?_
 refine dPo 19 9 hg4 ?_
 refine dV 20 rfl (Qf rfl rfl hg4 rfl) ?_
 refine dQ 21 [] rfl (Qa rfl Y8 rfl (fun w1 h1=>QdO w1 _ _)) ?_
 refine dP 22 ?_
 refine dNi ?_
 exact rT rfl rfl (fun w' h'=>⟨by simp only [QT,QaW];first | (split <;> simp_all <;> done) | (simp_all;done) | (grind),h'.below⟩)
instance : TFd Tryz.prog 37 3 3 35:=⟨by kernel_rfl⟩
theorem QbS : tsz Tryz.prog 35 = some (1,false):=by kernel_rfl
instance : TSz Tryz.prog 35 1 false:=⟨QbS⟩
theorem Xe : tsl Tryz.prog 28 = some (3,1,8):=by kernel_rfl
theorem QeW : QO Tryz.prog 3 = some [.int .i64 0]:=by kernel_rfl
instance : TFd Tryz.prog 69 2 2 28:=⟨by kernel_rfl⟩
theorem QbN : tsz Tryz.prog 28 = some (1,false):=by kernel_rfl
instance : TSz Tryz.prog 28 1 false:=⟨QbN⟩
theorem Qt0 : Qt Tryz.prog 233 = true:=by kernel_rfl
instance : TFd Tryz.prog 69 0 0 4:=⟨by kernel_rfl⟩
theorem Qdl : tsz Tryz.prog 4 = some (1,false):=by kernel_rfl
instance : TSz Tryz.prog 4 1 false:=⟨Qdl⟩
theorem Qou : tsz Tryz.prog 242 = some (1,false):=by kernel_rfl
theorem zv_4 : tzv Tryz.prog 4 = some (.bool false):=by kernel_rfl
abbrev KI : Int → Value:=fun n=>Value.int .i64 n
theorem QoY {ks : List Int} {c x : Int} : x ∈ QbA ks c ↔ x = c ∨ x ∈ ks:=by
  unfold QbA;split
  · rename_i h;constructor
    · exact fun h1=>.inr h1
    · rintro (rfl | h1)
      · exact h
      · exact h1
  · rw [List.mem_append,List.mem_singleton];exact Or.comm
theorem c233 (w : World) (i c : Int) (c0 c5 r : Nat) (ks seen : List Int) (bt : Nat) (j : Nat) (mo rm : Int) (a : Option Addr) (cap : Nat) (L : List LNd) (hw : HS w (fps [.mp r KI ks]) [.mp r KI ks] w) (hst : ∀ x,x ∈ ks ↔ x ∈ seen) (hc0 : Rd w (fps [.mp r KI ks]) c0 0 (.pointer (some ⟨bt,0,none⟩))) (hc5 : Rd w (fps [.mp r KI ks]) c5 0 (.map (some r))) (ht : TbR w (fps [.mp r KI ks]) bt (j : Int) mo rm a L.length cap) (hs : Nt w (fps [.mp r KI ks]) a L) (hl : L.length ≤ 1000) : Calls Tryz.prog 233 #[.int .i64 i,.int .i64 c,.pointer (some ⟨c0,0,none⟩),.pointer (some ⟨c5,0,none⟩)] w fun en w'=>∃ g : List Int,en = .returned (.int .i64 (Qb9 (pln L) c seen)) ∧ (∀ x,x ∈ g ↔ x ∈ (QdL (pln L) c seen)) ∧ HS w (fps [.mp r KI ks]) [.mp r KI g] w':=by
 refine enter (args:=[_,_,_,_]) Tryz.func233 Tryz.ntmps233 rfl rfl hw ?_
 refine aS8 ?_
 refine o_q (Qd rfl rfl ZC (hc0)) rfl ?_
 refine aS3 ?_
 refine o_q (Qd rfl rfl QbS (ht 3 _ rfl)) rfl ?_
 refine aS2 ?_
 try refine oWr ?_
 refine o_q (Qa rfl Qek rfl (fun w1 h1=>Qnc w1 _ _ _)) rfl ?_
 refine aS2 ?_
 refine Xt 11 18 29 _ _ rfl
  (by
   intro hg1
   have hs2:=hg1;try simp only [Bool.not_eq_false',Bool.and_eq_true,decide_eq_true_eq] at hs2
   refine oOn 18 hg1 ?_
   refine o_q (Qd rfl rfl ZC (hc0)) rfl ?_
   refine oOn 18 hg1 ?_
   refine aS ?_
   refine oOn 18 hg1 ?_
   refine aS ?_
   refine oOn 18 hg1 ?_
   refine aS ?_
   refine oOn 18 hg1 ?_
   refine o_q (Qd rfl rfl QbS (ht 3 _ rfl)) rfl ?_
   refine oOn 18 hg1 ?_
   refine aS ?_
   refine oOn 18 hg1 ?_
   refine o_p (Qc rfl rfl rfl XB c.toNat (by omega) (by omega) (Rw.some hs.1 (by omega))) rfl ?_
   refine oOn 18 hg1 ?_
   refine aS ?_
   refine oOn 18 hg1 ?_
   refine o_q (Qd rfl rfl Qdl ((hs.1.rdj 0 (i:=c.toNat) (by omega) rfl))) rfl ?_
   refine oOn 18 hg1 ?_
   refine aS ?_
   refine o_p (Qf rfl rfl hg1 rfl) rfl ?_
   refine aS ?_
   exact oJn 11 29)
  (by
   intro hg3
   have hs4:=hg3;try simp only [Bool.not_eq_true',Bool.and_eq_false_iff,decide_eq_false_iff_not] at hs4
   refine oOf 18 hg3 ?_
   refine oOf 18 hg3 ?_
   refine oOf 18 hg3 ?_
   refine oOf 18 hg3 ?_
   refine oOf 18 hg3 ?_
   refine oOf 18 hg3 ?_
   refine oOf 18 hg3 ?_
   refine oOf 18 hg3 ?_
   refine oOf 18 hg3 ?_
   refine oOf 18 hg3 ?_
   refine o_p (Qg rfl rfl hg3 rfl) rfl ?_
   refine aS ?_
   exact oJn 11 29) ?_
 refine aS ?_
 refine Qb rfl (fun h5=>?_) fun h5=>?_
 ·try simp only [Bool.or_eq_true,Bool.not_eq_true',Bool.and_eq_false_iff,decide_eq_false_iff_not] at h5
  have hz : ¬ QcK (pln L) c:=by unfold QcK;rw [Qi];intro h9;rw [Q3 (by omega)] at h9;have hq:=h5;simp [LNd.pl] at h9;rcases hq with hq | hq <;> simp_all <;> omega
  refine aS4 ?_
  exact rT rfl rfl (fun w' h'=>⟨ks,by unfold Qb9;rw [if_neg hz];rfl,by unfold QdL;rw [if_neg hz];exact hst,h'.ent aEt⟩)
 try simp only [Bool.or_eq_false_iff,Bool.not_eq_false',Bool.and_eq_true,decide_eq_true_eq] at h5
 have hz : QcK (pln L) c:=by have hq:=h5;have hq1 : 1 ≤ c ∧ c ≤ (L.length : Int) - 1:=(by first | omega | (simp at hq;omega));unfold QcK;rw [Qi,Q3 (by omega)];exact ⟨hq1,by simp only [LNd.pl];first | exact hq.2 | exact hq.2.2 | (simp at hq;first | exact hq.2 | exact hq.2.2)⟩
 refine aS3 ?_
 refine o_q (Qd rfl rfl Qou (hc5)) rfl ?_
 refine aS ?_
 refine o_q (Qjl rfl rfl rfl Tryz.underlying242 zv_4 (Qe9 YZ) aPk) rfl ?_
 refine aS ?_
 refine o_q (Qa rfl Y8 rfl (fun w1 h1=>QdO w1 _ _)) rfl ?_
 refine aS4 ?_
 refine o_q (Qd rfl rfl Qou (hc5)) rfl ?_
 refine aS ?_
 refine QiH (QeJ (.inl rfl) rfl rfl rfl Tryz.underlying242 (Qe9 YZ) aPt) (fun _ _=>?_)
 refine aS6 ?_
 exact rT rfl rfl (fun w' h'=>⟨QbA ks c,by unfold Qb9;rw [if_pos hz];simp only [QT];by_cases h9 : c ∈ seen <;> simp [h9,(hst c)],by unfold QdL;rw [if_pos hz];intro x;rw [QoY,List.mem_cons,hst],h'.ent aEt⟩)
theorem c232 (w : World) (ca : Option Addr) (cc : Nat) (cs : List Int) (c0 c5 r : Nat) (ks seen : List Int) (bt : Nat) (j : Nat) (mo rm : Int) (a : Option Addr) (cap : Nat) (L : List LNd) (hw : HS w (fps [.mp r KI ks]) [.mp r KI ks] w) (hst : ∀ x,x ∈ ks ↔ x ∈ seen) (hc0 : Rd w (fps [.mp r KI ks]) c0 0 (.pointer (some ⟨bt,0,none⟩))) (hc5 : Rd w (fps [.mp r KI ks]) c5 0 (.map (some r))) (ht : TbR w (fps [.mp r KI ks]) bt (j : Int) mo rm a L.length cap) (hs : Nt w (fps [.mp r KI ks]) a L) (hl : L.length ≤ 1000) (hcs : Rw inV 1 w (fps [.mp r KI ks]) ca cs) (hcl : cs.length ≤ 1000) : Calls Tryz.prog 232 #[.slice ca cs.length cc,.func (.func 233) #[] #[.pointer (some ⟨c0,0,none⟩),.pointer (some ⟨c5,0,none⟩)]] w fun en w'=>∃ g : Int × List Int,en = .returned (.tuple #[.int .i64 g.1,.int .i64 (XW (pln L) cs seen).1]) ∧ (∀ x,x ∈ g.2 ↔ x ∈ (XW (pln L) cs seen).2) ∧ HS w (fps [.mp r KI ks]) [.mp r KI g.2] w':=by
 refine enter (args:=[_,_]) Tryz.func232 Tryz.ntmps232 rfl rfl hw ?_
 iterate 13 refine aS ?_
 refine Qx (α:=Nat × List Int × List Int) [4,5,6,7,8,11,12,13,14,15,16,17,18,19,20,21,22,23,24] (fun x=>[(11,.int .i64 (x.1 : Int))]) (fun x=>HS w (fps [.mp r KI ks]) [.mp r KI x.2.1]) (fun x=>x.1 ≤ cs.length ∧ (∀ y,y ∈ x.2.1 ↔ y ∈ x.2.2) ∧ (XW (pln L) cs seen) = XW (pln L) (cs.drop x.1) x.2.2) (fun x=>cs.length - x.1) (0,ks,seen) ⟨Nat.zero_le _,hst,rfl⟩ aSx (fun w h=>h.ent aEt) (fun ⟨k,K,S9⟩ hx=>?_)
 dsimp only
 obtain ⟨hk1,hk2,hk3⟩:=hx
 simp only [] at hk1 hk2 hk3
 refine aS5 ?_
 refine Qb rfl (fun h1=>?_) fun h1=>?_
 ·try simp only [dT] at h1
  have hkl : k < cs.length:=by omega
  refine aS6 ?_
  refine o_p (Qc rfl rfl rfl Xe (k) (by omega) (by omega) (Rw.some hcs (by omega))) rfl ?_
  refine o_q (Qd rfl rfl Y1 ((hcs.rdj 0 (i:=k) (by omega) rfl))) rfl ?_
  refine aS8 ?_
  refine o_h (Qix (Cs:=[.mp r KI K]) rfl rfl Qt0 rfl aPs (fun w1 h1 hf=>c233 w1 (k : Int) (cs.getD k 0) c0 c5 r K S9 bt j mo rm a cap L hf hk2 (h1.keep hc0) (h1.keep hc5) (ht.keep h1) (hs.keep h1) hl)) rfl (fun b2 hkG=>?_)
  have hkg:=hkG
  refine aS7 ?_
  refine Qb rfl (fun h3=>?_) fun h3=>?_
  ·try simp only [Bool.not_eq_true',decide_eq_false_iff_not] at h3
   refine aS7 ?_
   exact Qs (rs:=[.tmp 4,.tmp 5]) rfl (.tmp rfl (.tmp rfl (.nil))) (fun w' h'=>⟨((k : Int),b2),by rw [hk3,Qcj hkl,Qa8,if_neg h3];rfl,by rw [hk3,Qcj hkl,Qa8,if_neg h3];exact hkG,h'.ent aEt⟩)
  try simp only [Bool.not_eq_false',decide_eq_true_eq] at h3
  refine aS4 ?_
  try refine oWr ?_
  refine aS2 ?_
  exact Qu (k + 1,b2,QdL (pln L) (cs.getD k 0) S9) (by (try simp only []);omega) ⟨by (try simp only []);omega,hkg,by simp only [];rw [hk3,Qcj hkl,Qa8,if_pos h3]⟩ aSx (fun w h=>h.ent aEt)
 try simp only [dN] at h1
 refine Qp rfl ?_
 refine aS5 ?_
 exact Qs (rs:=[.tmp 4,.tmp 5]) rfl (.tmp rfl (.tmp rfl (.nil))) (fun w' h'=>⟨(0,K),by rw [hk3,List.drop_of_length_le (by omega)];rfl,by rw [hk3,List.drop_of_length_le (by omega)];exact hk2,h'.ent aEt⟩)
theorem Xz : tsz Tryz.prog 69 = some (3,true):=by kernel_rfl
instance : TSz Tryz.prog 69 3 true:=⟨Xz⟩
theorem Qve : Qt Tryz.prog 229 = true:=by kernel_rfl
theorem Qog : Qt Tryz.prog 230 = true:=by kernel_rfl
theorem Qu8 : Qt Tryz.prog 232 = true:=by kernel_rfl
theorem Qs2 {t : Tre} {i : Nat} {es : List TEnt} {cs : List Int} (h : nth t.ns i = ⟨true,es,cs⟩) (b : Bool) (hb : b = true ↔ (cs.length = 0 ∨ cs.length = es.length + 1)) : (if (bif decide ((es.length : Int) ≤ YH t.mo t.rm i) then (0 : Int) else 16) = 0 then (bif b then (0 : Int) else 10) else (bif decide ((es.length : Int) ≤ YH t.mo t.rm i) then (0 : Int) else 16)) = nE1 t i:=by
  unfold nE1;rw [h]
  by_cases h1 : (es.length : Int) ≤ YH t.mo t.rm i
  · rw [decide_eq_true h1,if_pos h1]
    by_cases h2 : cs.length = 0 ∨ cs.length = es.length + 1
    · rw [if_pos h2,hb.2 h2];rfl
    · rw [if_neg h2,show b = false by cases b;rfl;exact absurd (hb.1 rfl) h2];rfl
  · rw [decide_eq_false h1,if_neg h1];rfl
theorem c199 (w : World) (i r : Nat) (ks seen : List Int) (bt : Nat) (j : Nat) (mo rm : Int) (a : Option Addr) (cap : Nat) (L : List LNd) (hw : HS w (fps [.mp r KI ks]) [.mp r KI ks] w) (hst : ∀ x,x ∈ ks ↔ x ∈ seen) (ht : TbR w (fps [.mp r KI ks]) bt (j : Int) mo rm a L.length cap) (hs : Nt w (fps [.mp r KI ks]) a L) (hl : L.length ≤ 1000) (hj : j ≤ 3) (hi : i < L.length) (hel : (nth L i).es.length ≤ 1000) (hcl : (nth L i).cs.length ≤ 1000) (hkl : ∀ x ∈ (nth L i).es,x.key.length ≤ 1000000) : Calls Tryz.prog 199 #[.pointer (some ⟨bt,0,none⟩),.int .i64 (i : Int),.map (some r)] w fun en w'=>∃ g : List Int,en = .returned (.int .i64 (XN (⟨(j : Int),mo,rm,pln L⟩ : Tre) i seen).1) ∧ (∀ x,x ∈ g ↔ x ∈ (XN (⟨(j : Int),mo,rm,pln L⟩ : Tre) i seen).2) ∧ HS w (fps [.mp r KI ks]) [.mp r KI g] w':=by
 have hn : nth (pln L) i = (nth L i).pl:=Q3 hi
 have hE2 : nE2 (⟨(j : Int),mo,rm,pln L⟩ : Tre) i = if nE1 (⟨(j : Int),mo,rm,pln L⟩ : Tre) i = 0 then (XM ((nth L i).es.map (YS (j : Int))) 0).2 else nE1 (⟨(j : Int),mo,rm,pln L⟩ : Tre) i:=by unfold nE2 Zf;rw [hn];rfl
 have hE3 : nE3 (⟨(j : Int),mo,rm,pln L⟩ : Tre) i seen = if nE2 (⟨(j : Int),mo,rm,pln L⟩ : Tre) i = 0 then XW (pln L) (nth L i).cs seen else (nE2 (⟨(j : Int),mo,rm,pln L⟩ : Tre) i,seen):=by unfold nE3;rw [hn];rfl
 have hE4 : nE4 (⟨(j : Int),mo,rm,pln L⟩ : Tre) i seen = if (nE3 (⟨(j : Int),mo,rm,pln L⟩ : Tre) i seen).1 = 0 then (XM ((List.range (nth L i).es.length).map (QaW (j : Int) (nth L i).es)) 0).2 else (nE3 (⟨(j : Int),mo,rm,pln L⟩ : Tre) i seen).1:=by unfold nE4 QaC;rw [hn];rfl
 refine enter (args:=[_,_,_]) Tryz.func199 Tryz.ntmps199 rfl rfl hw ?_
 refine aS2 ?_
 refine oBx fun b1 _=>?_
 refine oBx fun b2 _=>?_
 refine aS8 ?_
 refine o_q (Qd rfl rfl QbS (ht 3 _ rfl)) rfl ?_
 refine aS ?_
 refine o_p (Qc rfl rfl rfl XB (i) (by omega) (by omega) (Rw.some hs.1 (by omega))) rfl ?_
 refine o_q (QA _ rfl rfl Xz rfl (Rw.rd hs.1 hi)) rfl ?_
 refine oAl (fun b3 _=>?_) XF
 refine oSt ?_
 refine aS8 ?_
 refine Qb rfl (fun h4=>?_) fun h4=>?_
 ·try simp only [Bool.not_eq_true'] at h4
  have hu : (nth (pln L) i).us = false:=by rw [hn];have hq:=h4;simpa [LNd.pl] using hq
  refine aS5 ?_
  refine Xn 10 22 32 _ _ rfl
   (by
    intro hg5
    have hs6:=hg5;try simp only [dT] at hs6
    refine oOn 22 hg5 ?_
    refine aS ?_
    refine oOn 22 hg5 ?_
    refine aS ?_
    refine oOn 22 hg5 ?_
    refine aS ?_
    refine oOn 22 hg5 ?_
    refine aS ?_
    refine oOn 22 hg5 ?_
    refine aS ?_
    refine oOn 22 hg5 ?_
    refine o_q (Qd rfl rfl QbS (ht 3 _ rfl)) rfl ?_
    refine oOn 22 hg5 ?_
    refine aS ?_
    refine oOn 22 hg5 ?_
    refine aS ?_
    try refine oWr ?_
    refine oOn 22 hg5 ?_
    refine aS ?_
    refine o_p (Qg rfl rfl hg5 rfl) rfl ?_
    refine aS ?_
    exact oJn 10 32)
   (by
    intro hg7
    have hs8:=hg7;try simp only [dN] at hs8
    refine oOf 22 hg7 ?_
    refine oOf 22 hg7 ?_
    refine oOf 22 hg7 ?_
    refine oOf 22 hg7 ?_
    refine oOf 22 hg7 ?_
    refine oOf 22 hg7 ?_
    refine oOf 22 hg7 ?_
    refine oOf 22 hg7 ?_
    refine oOf 22 hg7 ?_
    refine o_p (Qf rfl rfl hg7 rfl) rfl ?_
    refine aS ?_
    exact oJn 10 32) ?_
  refine aS ?_
  refine Xn 9 33 42 _ _ rfl
   (by
    intro hg9
    have hs10:=hg9;try simp only [Bool.and_eq_true,decide_eq_true_eq] at hs10
    refine oOn 33 hg9 ?_
    refine aS ?_
    refine oOn 33 hg9 ?_
    refine aS ?_
    refine oOn 33 hg9 ?_
    refine aS ?_
    refine oOn 33 hg9 ?_
    refine aS ?_
    refine oOn 33 hg9 ?_
    refine aS ?_
    refine oOn 33 hg9 ?_
    refine aS ?_
    refine oOn 33 hg9 ?_
    refine aS ?_
    try refine oWr ?_
    refine oOn 33 hg9 ?_
    refine aS ?_
    refine o_p (Qg rfl rfl hg9 rfl) rfl ?_
    refine aS ?_
    exact oJn 9 42)
   (by
    intro hg11
    have hs12:=hg11;try simp only [Bool.and_eq_false_iff,decide_eq_false_iff_not] at hs12
    refine oOf 33 hg11 ?_
    refine oOf 33 hg11 ?_
    refine oOf 33 hg11 ?_
    refine oOf 33 hg11 ?_
    refine oOf 33 hg11 ?_
    refine oOf 33 hg11 ?_
    refine oOf 33 hg11 ?_
    refine oOf 33 hg11 ?_
    refine o_p (Qf rfl rfl hg11 rfl) rfl ?_
    refine aS ?_
    exact oJn 9 42) ?_
  refine o_q (Qa rfl Y8 rfl (fun w1 h1=>QdO w1 _ _)) rfl ?_
  refine aS2 ?_
  exact rT rfl rfl (fun w' h'=>⟨ks,by unfold XN;simp only [];rw [if_neg (by rw [hu];decide),hn];simp only [QT,LNd.pl];simp only [cond_eq_ite,Bool.and_eq_true,decide_eq_true_eq,Qi];(split <;> split <;> first | rfl | omega),by unfold XN;simp only [];rw [if_neg (by rw [hu];decide)];split <;> exact hst,h'.ent aEt⟩)
 try simp only [Bool.not_eq_false'] at h4
 have hu : (nth (pln L) i).us = true:=by rw [hn];have hq:=h4;simpa [LNd.pl] using hq
 have hN1 : nth ((⟨(j : Int),mo,rm,pln L⟩ : Tre)).ns i = ⟨true,(nth L i).es,(nth L i).cs⟩:=by show nth (pln L) i = _;rw [hn] at hu ⊢;simp only [LNd.pl] at hu ⊢;rw [hu]
 rw [QnA (⟨(j : Int),mo,rm,pln L⟩ : Tre) i hu]
 refine aS2 ?_
 refine Qm (L':=[(1,_),(3,_),(5,_),(6,_),(7,_)]) aSx (fun _ h=>h) ?_
 refine Yi (α:=Unit) [8,44,45,46,47,48,49,50,51,52,53,54,55,56,57,58,59,60,61,62,63,64,65,66,67,68] (fun _=>[(8,.int .i64 (nE1 (⟨(j : Int),mo,rm,pln L⟩ : Tre) i))]) (fun _=>HS w (fps [.mp r KI ks]) [.blk b1 158 1 [.pointer (some ⟨bt,0,none⟩)],.blk b2 242 1 [.map (some r)],.blk b3 69 3 (nth L i).vals,.mp r KI ks]) (fun _=>True) ?_ ?_
 ·skip
  refine QG [] QU ?_
  refine dFa 0 ?_
  refine dLd 1 [] ?_
  refine dV 2 rfl (QQ rfl rfl Tryz.underlying67) ?_
  refine dLd 3 [] ?_
  refine dP 4 ?_
  refine dQ 5 [] rfl (Qa rfl Qve rfl (fun w1 h1=>c229 w1 bt j mo rm a L.length cap i (ht.next h1))) ?_
  refine dP 6 ?_
  refine dQ 7 [] rfl (Qa rfl Y8 rfl (fun w1 h1=>QdO w1 _ _)) ?_
  refine dFa 8 ?_
  refine dLd 9 [] ?_
  refine dV 10 rfl (QQ rfl rfl Tryz.underlying28) ?_
  refine dP 11 ?_
  refine dP 12 ?_
  apply XZ 56
  ·exact rfl
  ·intro hg13
   have hs14:=hg13;try simp only [dT] at hs14
   refine dOf 13 56 hg13 ?_
   refine dOf 14 56 hg13 ?_
   refine dOf 15 56 hg13 ?_
   refine dOf 16 56 hg13 ?_
   refine dOf 17 56 hg13 ?_
   refine dOf 18 56 hg13 ?_
   refine dOf 19 56 hg13 ?_
   refine dOf 20 56 hg13 ?_
   refine dV 21 rfl (Qg rfl rfl hg13 rfl) ?_
   refine dQ 22 [] rfl (Qa rfl Y8 rfl (fun w1 h1=>QdO w1 _ _)) ?_
   refine dH 23 rfl (Qr (cs:=[_,_]) rfl rfl ZE Qdr rfl rfl rfl) (fun b15 _=>?_)
   refine dBa ?_
   refine dQ 24 [] rfl (Qa rfl Qfr rfl (fun w1 h1=>QqH h1 aPk (by rfl) (by rfl) (by decide))) ?_
   refine QD (show _ = Value.int .i64 (nE1 (⟨(j : Int),mo,rm,pln L⟩ : Tre) i) from by congr 1;rw [QdK];exact Qs2 hN1 _ (by first | (simp only [true_iff];left;have hq:=hg13;simp at hq ⊢;omega) | (have hq : ¬ (((nth L i).cs.length : Int) = 0):=of_decide_eq_false hg13;rw [decide_eq_true_eq];omega))) ?_
   refine dP 25 ?_
   refine dNi ?_
   exact Qw () trivial aSx (fun w h=>h.ent aEt)
  intro hg16
  have hs17:=hg16;try simp only [dN] at hs17
  refine dFo 13 56 hg16 ?_
  refine dQo 14 56 [] hg16 rfl rfl rfl (YA rfl rfl QbN aPk rfl) ?_
  refine dVo 15 56 hg16 rfl rfl rfl (QQ rfl rfl Tryz.underlying28) ?_
  refine dFo 16 56 hg16 ?_
  refine dQo 17 56 [] hg16 rfl rfl rfl (YA rfl rfl QdS aPk rfl) ?_
  refine dVo 18 56 hg16 rfl rfl rfl (QQ rfl rfl Tryz.underlying67) ?_
  refine dPo 19 56 hg16 ?_
  try refine dWr ?_
  refine dPo 20 56 hg16 ?_
  refine dV 21 rfl (Qf rfl rfl hg16 rfl) ?_
  refine dQ 22 [] rfl (Qa rfl Y8 rfl (fun w1 h1=>QdO w1 _ _)) ?_
  refine dH 23 rfl (Qr (cs:=[_,_]) rfl rfl ZE Qdr rfl rfl rfl) (fun b18 _=>?_)
  refine dBa ?_
  refine dQ 24 [] rfl (Qa rfl Qfr rfl (fun w1 h1=>QqH h1 aPk (by rfl) (by rfl) (by decide))) ?_
  refine QD (show _ = Value.int .i64 (nE1 (⟨(j : Int),mo,rm,pln L⟩ : Tre) i) from by congr 1;rw [QdK];exact Qs2 hN1 _ (by first | (simp only [true_iff];left;have hq:=hg16;simp at hq ⊢;omega) | (have hq : ¬ (((nth L i).cs.length : Int) = 0):=of_decide_eq_false hg16;rw [decide_eq_true_eq];omega))) ?_
  refine dP 25 ?_
  refine dNi ?_
  exact Qw () trivial aSx (fun w h=>h.ent aEt)
 intro _ _
 refine aS6 ?_
 refine Yi (α:=Unit) [8,71,72,73,74,75,76,77] (fun _=>[(8,.int .i64 (nE2 (⟨(j : Int),mo,rm,pln L⟩ : Tre) i))]) (fun _=>HS w (fps [.mp r KI ks]) [.blk b1 158 1 [.pointer (some ⟨bt,0,none⟩)],.blk b2 242 1 [.map (some r)],.blk b3 69 3 (nth L i).vals,.mp r KI ks]) (fun _=>True) ?_ ?_
 ·skip
  refine Qb rfl (fun h19=>?_) fun h19=>?_
  ·try simp only [dT] at h19
   refine aS4 ?_
   refine o_q (Qa rfl Qog rfl (fun w1 h1=>c230 w1 (nth L i).ea (nth L i).ec (nth L i).es 231 #[.pointer (some ⟨b1,0,none⟩)] ((nth L i).es.map (YS (j : Int))) ((hs.es hi).later h1) (by omega) (by kernel_rfl) (by simp) (fun k w2 hk9 _ h2=>by rw [Qca hk9];exact c231 w2 b1 (k : Int) (nth (nth L i).es k) bt j mo rm a L.length cap hj (hkl _ (QC hk9)) ((h1.rd_blk (Mc:=[]) (b:=b1) aPk rfl (by simp)).next h2) ((ht.next h1).next h2)))) rfl ?_
   refine aS5 ?_
   exact Qw () trivial (by rw [hE2,if_pos h19];exact aSx) (fun w h=>h.ent aEt)
  try simp only [dN] at h19
  refine aS ?_
  exact Qw () trivial (by rw [hE2,if_neg h19];exact aSx) (fun w h=>h.ent aEt)
 intro _ _
 refine aS6 ?_
 refine Yi (α:=List Int) [8,80,81,82,83,84,85,86] (fun _=>[(8,.int .i64 (nE3 (⟨(j : Int),mo,rm,pln L⟩ : Tre) i seen).1)]) (fun q=>HS w (fps [.mp r KI ks]) [.blk b1 158 1 [.pointer (some ⟨bt,0,none⟩)],.blk b2 242 1 [.map (some r)],.blk b3 69 3 (nth L i).vals,.mp r KI q]) (fun q=>∀ x,x ∈ q ↔ x ∈ (nE3 (⟨(j : Int),mo,rm,pln L⟩ : Tre) i seen).2) ?_ ?_
 ·skip
  refine Qb rfl (fun h20=>?_) fun h20=>?_
  ·try simp only [dT] at h20
   refine aS4 ?_
   refine o_h (Q0 (Cs:=[.mp r KI ks]) rfl Qu8 rfl aPs (fun w1 h1 hf=>c232 w1 (nth L i).ca (nth L i).cc (nth L i).cs b1 b2 r ks seen bt j mo rm a cap L hf hst (h1.rd_blkF aPs (b:=b1) aPk rfl) (h1.rd_blkF aPs (b:=b2) aPk rfl) ((ht.keep h1).mono (Q6 aPs)) ((hs.keep h1).mono (Q6 aPs)) hl (((hs.cs hi).keep h1).mono (Q6 aPs)) hcl)) rfl (fun b21 hkG=>?_)
   refine aS5 ?_
   exact Qw b21.2 (by rw [hE3,if_pos h20];exact hkG) (by rw [hE3,if_pos h20];exact aSx) (fun w h=>h.ent aEt)
  try simp only [dN] at h20
  refine aS ?_
  exact Qw ks (by rw [hE3,if_neg h20];exact hst) (by rw [hE3,if_neg h20];exact aSx) (fun w h=>h.ent aEt)
 intro ks2 hks2
 refine aS6 ?_
 refine Yi (α:=Unit) [8,89,90,91,92,93,94,95] (fun _=>[(8,.int .i64 (nE4 (⟨(j : Int),mo,rm,pln L⟩ : Tre) i seen))]) (fun _=>HS w (fps [.mp r KI ks]) [.blk b1 158 1 [.pointer (some ⟨bt,0,none⟩)],.blk b2 242 1 [.map (some r)],.blk b3 69 3 (nth L i).vals,.mp r KI ks2]) (fun _=>True) ?_ ?_
 ·skip
  refine Qb rfl (fun h22=>?_) fun h22=>?_
  ·try simp only [dT] at h22
   have he0:=Qmv (Qws _ _ (QwE _ _ h22))
   rw [hn] at he0
   have hkok : ∀ x ∈ (nth L i).es,Xa (j : Int) x.key = true ∧ x.key.length ≤ 1000000:=fun x hx=>⟨QdZ (he0 x hx),hkl x hx⟩
   refine aS4 ?_
   refine o_q (Qa rfl Qog rfl (fun w1 h1=>c230 w1 (nth L i).ea (nth L i).ec (nth L i).es 234 #[.pointer (some ⟨b1,0,none⟩),.pointer (some ⟨b3,0,none⟩)] ((List.range (nth L i).es.length).map (QaW (j : Int) (nth L i).es)) ((hs.es hi).later h1) (by omega) (by kernel_rfl) (by simp) (fun k w2 hk9 _ h2=>by rw [Qb0 hk9];exact c234 w2 b1 b3 k true (nth L i).ea (nth L i).ec (nth L i).es (.bool true) bt j mo rm a L.length cap hj hk9 (by omega) hkok ((h1.rd_blk (Mc:=[]) (b:=b1) aPk rfl (by simp)).next h2) ((h1.rd_blk (Mc:=[]) (b:=b3) aPk rfl (by simp)).next h2) (((hs.es hi).later h1).later h2) ((ht.next h1).next h2)))) rfl ?_
   refine aS5 ?_
   exact Qw () trivial (by rw [hE4,if_pos h22];exact aSx) (fun w h=>h.ent aEt)
  try simp only [dN] at h22
  refine aS ?_
  exact Qw () trivial (by rw [hE4,if_neg h22];exact aSx) (fun w h=>h.ent aEt)
 intro _ _
 refine aS5 ?_
 exact rT rfl rfl (fun w' h'=>⟨ks2,rfl,hks2,h'.ent aEt⟩)
theorem Qu2 : Qt Tryz.prog 128 = true:=by kernel_rfl
theorem Qkl : Qt Tryz.prog 235 = true:=by kernel_rfl
theorem QnP : tsz Tryz.prog 102 = some (1,false):=by kernel_rfl
instance : TSz Tryz.prog 102 1 false:=⟨QnP⟩
theorem Qa4 : tsl Tryz.prog 102 = some (4,1,1):=by kernel_rfl
theorem c128 (w : World) (ua : Option Addr) (uc : Nat) (u : List Int) (n : Int) (hu : Rw inV 1 w [] ua u) (hum : u.length ≤ 100000) : Calls Tryz.prog 128 #[.slice ua u.length uc,.int .i64 n] w fun en w'=>en = .returned (.int .i64 (ixI (QdD u n))) ∧ Below w.heap.size w w':=by
 refine enter (args:=[_,_]) Tryz.func128 Tryz.ntmps128 rfl rfl (HS.refl w []) ?_
 refine Qeq ?_
 refine Qx (α:=Nat) [4,5,8,9,10,11,12,13,14,15,16,17,18] (fun k=>[(8,.int .i64 (k : Int))]) (fun _=>_) (fun k=>k ≤ u.length ∧ ∀ i,i < k → (QdD u n).getD i false = false) (fun k=>u.length - k) 0 ⟨Nat.zero_le _,fun i h=>absurd h (Nat.not_lt_zero i)⟩ aSx (fun w h=>h) (fun k hkk=>?_)
 obtain ⟨hk1,hk2⟩:=hkk
 refine aS5 ?_
 refine Qb rfl (fun h1=>?_) fun h1=>?_
 ·try simp only [dT] at h1
  have hk : k < u.length:=by omega
  iterate 13 refine aS ?_
  refine o_p (Qc rfl rfl rfl Xe (k) (by omega) (by omega) (Rw.some hu (by omega))) rfl ?_
  refine o_q (Qd rfl rfl Y1 ((hu.rdj 0 hk rfl))) rfl ?_
  refine aS2 ?_
  refine Qb rfl (fun h2=>?_) fun h2=>?_
  ·try simp only [dT] at h2
   have hq9 : n = u.getD k 0:=h2
   have e:=Qbi (l:=QdD u n) (k:=k) (by rw [QbH];omega) hk2 (fun _=>by rw [QiT hk];exact decide_eq_true hq9)
   refine aS5 ?_
   exact rT rfl rfl (fun w' h'=>⟨by simp only [QT,ixI,e,QbH];rw [if_pos hk],h'.below⟩)
  try simp only [dN] at h2
  have hq9 : ¬ n = u.getD k 0:=h2
  refine aS4 ?_
  try refine oWr ?_
  refine aS2 ?_
  exact Qu (k + 1) (by omega) ⟨by omega,fun i hi=>(Nat.lt_or_ge i k).elim (hk2 i) (fun h=>by obtain rfl : i = k:=(by omega);rw [QiT hk];exact decide_eq_false hq9)⟩ aSx (fun w h=>h)
 try simp only [dN] at h1
 obtain rfl : k = u.length:=by omega
 refine Qp rfl ?_
 refine aS4 ?_
 exact rT rfl rfl (fun w' h'=>⟨by have e:=Qbi (l:=QdD u n) (k:=u.length) (by rw [QbH];omega) hk2 (fun h=>by rw [QbH] at h;omega);simp only [QT,ixI,e,QbH];rw [if_neg (by omega)],h'.below⟩)
theorem c62 (w : World) (ua : Option Addr) (uc : Nat) (u : List Int) (n : Int) (hu : Rw inV 1 w [] ua u) (hum : u.length ≤ 100000) : Calls Tryz.prog 62 #[.slice ua u.length uc,.int .i64 n] w fun en w'=>en = .returned (.bool (decide (n ∈ u))) ∧ Below w.heap.size w w':=by
 refine enter (args:=[_,_]) Tryz.func62 Tryz.ntmps62 rfl rfl (HS.refl w []) ?_
 refine aS8 ?_
 refine o_q (Qa rfl Qu2 rfl (fun w1 h1=>c128 w1 ua uc u n (hu.later h1) hum)) rfl ?_
 refine aS3 ?_
 exact rT rfl rfl (fun w' h'=>⟨by rw [← QqE,← Qfd];rfl,h'.below⟩)
def WkC (S : Type) (I : S → Prop) (C : S → HA) (st : S → Vis → S) (er : S → Vis → Int × Int) (q : Nat) (cv : Array Value) (bt : Nat) (j : Nat) (mo rm : Int) (a : Option Addr) (cap : Nat) (L : List LNd) (f : Nat) : Prop:=∀ (w : World) (s : S) (v : Vis) (pl ph : Option Addr) (P : List Nat),(HS w (fps [C s]) [C s] w) → (Qt Tryz.prog q = true) → (∀ s1 s2 : S,(C s1).fp = (C s2).fp) → (∀ s2 v2,I s2 → I (st s2 v2)) → (I s) → (∀ (s2 : S) (v2 : Vis) (p2 p3 : Option Addr) (w1 : World),HS w (fps [C s]) [C s2] w1 → I s2 → v2.i < L.length → KOk (j : Int) v2.lo → KOk (j : Int) v2.hi → Z8 w1 (fps [C s2]) p2 v2.lo → Z8 w1 (fps [C s2]) p3 v2.hi → Calls Tryz.prog q (#[] ++ [.int .i64 (v2.i : Int),.int .i64 v2.d,.pointer p2,.pointer p3].toArray ++ cv) w1 fun en w2=>∃ g : Unit,en = .returned (.tuple #[.int .i64 (er s2 v2).1,.int .i64 (er s2 v2).2]) ∧ True ∧ HS w1 (fps [C s2]) [C (st s2 v2)] w2) → (TbR w (fps [C s]) bt (j : Int) mo rm a L.length cap) → (Nt w (fps [C s]) a L) → (TOk (j : Int) (pln L)) → (Bd (pln L)) → (Z8 w (fps [C s]) pl v.lo) → (Z8 w (fps [C s]) ph v.hi) → (0 < L.length) → (Gx.Way (pln L) (v.i :: P)) → (P.length + f = L.length) → (v.d = (P.length : Int) + 1) → (KOk (j : Int) v.lo) → (KOk (j : Int) v.hi) → Calls Tryz.prog 235 #[.pointer (some ⟨bt,0,none⟩),.int .i64 (v.i : Int),.int .i64 v.d,.pointer pl,.pointer ph,.func (.func q) #[] cv] w fun en w'=>∃ g : Unit,en = .returned (.tuple #[.int .i64 (XG st er s (vis (pln L) f v)).1.1,.int .i64 (XG st er s (vis (pln L) f v)).1.2]) ∧ True ∧ HS w (fps [C s]) [C (XG st er s (vis (pln L) f v)).2] w'
theorem Qw3 (w : World) (S : Type) (I : S → Prop) (C : S → HA) (st : S → Vis → S) (er : S → Vis → Int × Int) (q : Nat) (cv : Array Value) (bt : Nat) (j : Nat) (mo rm : Int) (a : Option Addr) (cap : Nat) (L : List LNd) (s : S) (v : Vis) (pl ph : Option Addr) (P : List Nat) (f : Nat) (hw : HS w (fps [C s]) [C s] w) (hq : Qt Tryz.prog q = true) (hfp : ∀ s1 s2 : S,(C s1).fp = (C s2).fp) (hI : ∀ s2 v2,I s2 → I (st s2 v2)) (hIs : I s) (hv : ∀ (s2 : S) (v2 : Vis) (p2 p3 : Option Addr) (w1 : World),HS w (fps [C s]) [C s2] w1 → I s2 → v2.i < L.length → KOk (j : Int) v2.lo → KOk (j : Int) v2.hi → Z8 w1 (fps [C s2]) p2 v2.lo → Z8 w1 (fps [C s2]) p3 v2.hi → Calls Tryz.prog q (#[] ++ [.int .i64 (v2.i : Int),.int .i64 v2.d,.pointer p2,.pointer p3].toArray ++ cv) w1 fun en w2=>∃ g : Unit,en = .returned (.tuple #[.int .i64 (er s2 v2).1,.int .i64 (er s2 v2).2]) ∧ True ∧ HS w1 (fps [C s2]) [C (st s2 v2)] w2) (ht : TbR w (fps [C s]) bt (j : Int) mo rm a L.length cap) (hs : Nt w (fps [C s]) a L) (hT : TOk (j : Int) (pln L)) (hB : Bd (pln L)) (hpl : Z8 w (fps [C s]) pl v.lo) (hph : Z8 w (fps [C s]) ph v.hi) (h0 : 0 < L.length) (hway : Gx.Way (pln L) (v.i :: P)) (hf : P.length + (f + 1) = L.length) (hd : v.d = (P.length : Int) + 1) (hko : KOk (j : Int) v.lo) (hkp : KOk (j : Int) v.hi) (ih : WkC S I C st er q cv bt j mo rm a cap L f) : Calls Tryz.prog 235 #[.pointer (some ⟨bt,0,none⟩),.int .i64 (v.i : Int),.int .i64 v.d,.pointer pl,.pointer ph,.func (.func q) #[] cv] w fun en w'=>∃ g : Unit,en = .returned (.tuple #[.int .i64 (XG st er s (vis (pln L) (f + 1) v)).1.1,.int .i64 (XG st er s (vis (pln L) (f + 1) v)).1.2]) ∧ True ∧ HS w (fps [C s]) [C (XG st er s (vis (pln L) (f + 1) v)).2] w':=by
 have hi0:=Qc2 hT (by rw [Qi];exact h0) hway v.i (List.mem_cons_self ..)
 have hi : v.i < L.length:=by rw [Qi] at hi0;exact hi0
 have hn:=Q3 hi
 have hle:=hB.len
 rw [Qi] at hle
 have hel:=hB.es v.i hi0
 have hcl:=hB.cs v.i hi0
 rw [hn] at hel hcl
 simp only [LNd.pl] at hel hcl
 have hsh:=hT.shape v.i hi0
 rw [hn] at hsh
 simp only [LNd.pl] at hsh
 refine enter (args:=[_,_,_,_,_,_]) Tryz.func235 Tryz.ntmps235 rfl rfl hw ?_
 iterate 13 refine aS ?_
 refine o_h (Qix (Cs:=[C s]) rfl rfl hq rfl aPs (fun w1 h1 hf9=>hv s v pl ph w1 (h1.ent aEt) hIs hi hko hkp ((hpl.keep h1).mono (Q6 aPs)) ((hph.keep h1).mono (Q6 aPs)))) rfl (fun _ _=>?_)
 refine QeX ?_
 refine Qb rfl (fun h1=>?_) fun h1=>?_
 ·try simp only [Bool.not_eq_true',decide_eq_false_iff_not] at h1
  have hz : XG st er s (vis (pln L) (f + 1) v) = (er s v,st s v):=by rw [vis,XG,if_neg h1]
  refine aS7 ?_
  exact Qs (rs:=[.tmp 12,.tmp 13]) rfl (.tmp rfl (.tmp rfl (.nil))) (fun w' h'=>⟨(),by rw [hz];rfl,trivial,by rw [hz];exact h'.ent aEt⟩)
 try simp only [Bool.not_eq_false',decide_eq_true_eq] at h1
 have hz0 : XG st er s [v] = ((0,0),st s v):=by rw [XG,if_pos h1,XG]
 refine aS7 ?_
 refine o_q (Qd rfl rfl QbS (ht 3 _ rfl)) rfl ?_
 refine aS ?_
 refine o_p (Qc rfl rfl rfl XB (v.i) (by omega) (by omega) (Rw.some hs.1 (by omega))) rfl ?_
 refine o_q (QA _ rfl rfl Xz rfl (Rw.rd hs.1 hi)) rfl ?_
 refine oAl (fun b2 _=>?_) XF
 refine oSt ?_
 refine aS3 ?_
 refine Qm (L':=[(0,_),(2,_),(3,_),(4,_),(5,_),(12,_),(13,_),(16,_)]) aSx (fun _ h=>h) ?_
 refine aS7 ?_
 refine Qx (α:=Nat × S) [12,13,17,18,19,20,21,22,47,48,49,50,51,52,53,54,55,56,57,58,59,60,61,62,63,64,65,66,67,68,69,70,71,72,73,74,75,76,77,78,79,80,81,82,83,84,85,86,87] (fun x=>[(47,.int .i64 (x.1 : Int))]) (fun x=>HS w (fps [C s]) [.blk b2 69 3 (nth L v.i).vals,C x.2]) (fun x=>x.1 ≤ (nth L v.i).cs.length ∧ (XG st er s (QaB (pln L) f v x.1)).1.2 = 0 ∧ (XG st er s (QaB (pln L) f v x.1)).2 = x.2) (fun x=>(nth L v.i).cs.length - x.1) (0,st s v) ⟨Nat.zero_le _,by rw [Qkw,hz0],by rw [Qkw,hz0]⟩ aSx (fun w h=>h.ent aEt) (fun ⟨k,sk⟩ hx=>?_)
 dsimp only
 obtain ⟨hk1,hk2,hk3⟩:=hx
 simp only [] at hk1 hk2 hk3
 refine aS5 ?_
 refine Qb rfl (fun h3=>?_) fun h3=>?_
 ·try simp only [dT] at h3
  have hkl : k < (nth L v.i).cs.length:=by omega
  have hkid:=Qfv hT hi0 (k:=k) (by rw [hn];exact hkl)
  have hwk:=Qdm hway hi0 (k:=k) (by rw [hn];exact hkl) (by omega)
  have hki : ((XQ (pln L) v k).i : Int) = (nth L v.i).cs.getD k 0:=by unfold XQ;rw [hn] at hkid ⊢;simp only [LNd.pl] at hkid ⊢;rw [Int.toNat_of_nonneg (by omega)]
  rw [Qi] at hkid
  refine aS6 ?_
  refine o_p (Qc rfl rfl rfl Xe (k) (by omega) (by omega) (Rw.some (hs.cs hi) (by omega))) rfl ?_
  refine o_q (Qd rfl rfl Y1 (((hs.cs hi).rdj 0 (i:=k) hkl rfl))) rfl ?_
  refine aS2 ?_
  refine Qq (show _ = Value.int .i64 ((XQ (pln L) v k).i : Int) from by rw [hki];rfl) ?_
  iterate 14 refine aS ?_
  refine Yi (α:=Option Addr) [19,56,57,58,59,60,61] (fun p=>[(19,.pointer p)]) (fun _=>HS w (fps [C s]) [.blk b2 69 3 (nth L v.i).vals,C sk]) (fun p=>Z8 w (fps [C s]) p (loK (nth L v.i).es k v.lo)) ?_ ?_
  ·skip
   refine Qb rfl (fun h4=>?_) fun h4=>?_
   ·try simp only [dT] at h4
    refine aS5 ?_
    try refine oWr ?_
    refine o_p (Qc rfl rfl rfl Xh (k - 1) (by omega) (by omega) (Rw.some (hs.es hi) (by omega))) rfl ?_
    refine aS3 ?_
    exact Qw (some ⟨ab (nth L v.i).ea,ao (nth L v.i).ea + (k - 1) * 2,none⟩) (by rw [show loK (nth L v.i).es k v.lo = some (nth (nth L v.i).es (k - 1)).key from if_pos (by omega)];exact ⟨_,_,rfl,((hs.es hi).rdj 0 (by omega) rfl)⟩) aSx (fun w h=>h.ent aEt)
   try simp only [dN] at h4
   refine aS ?_
   exact Qw pl (by rw [show loK (nth L v.i).es k v.lo = v.lo from if_neg (by omega)];exact hpl) aSx (fun w h=>h.ent aEt)
  intro p1 hp1
  refine aS9 ?_
  refine Qm (L':=[(0,_),(2,_),(3,_),(4,_),(5,_),(16,_),(17,_),(18,_),(19,_),(20,_),(44,_),(45,_),(46,_),(47,_),(66,_)]) aSx (fun _ h=>h) ?_
  refine Yi (α:=Option Addr) [20,67,68,69,70,71] (fun p=>[(20,.pointer p)]) (fun _=>HS w (fps [C s]) [.blk b2 69 3 (nth L v.i).vals,C sk]) (fun p=>Z8 w (fps [C s]) p (hiK (nth L v.i).es k v.hi)) ?_ ?_
  ·skip
   refine Qb rfl (fun h5=>?_) fun h5=>?_
   ·try simp only [dT] at h5
    refine aS4 ?_
    refine o_p (Qc rfl rfl rfl Xh (k) (by omega) (by omega) (Rw.some (hs.es hi) (by omega))) rfl ?_
    refine aS3 ?_
    exact Qw (some ⟨ab (nth L v.i).ea,ao (nth L v.i).ea + k * 2,none⟩) (by rw [show hiK (nth L v.i).es k v.hi = some (nth (nth L v.i).es k).key from if_pos (by omega)];exact ⟨_,_,rfl,((hs.es hi).rdj 0 (by omega) rfl)⟩) aSx (fun w h=>h.ent aEt)
   try simp only [dN] at h5
   refine aS ?_
   exact Qw ph (by rw [show hiK (nth L v.i).es k v.hi = v.hi from if_neg (by omega)];exact hph) aSx (fun w h=>h.ent aEt)
  intro p2 hp2
  refine aS6 ?_
  try refine oWr ?_
  refine aS3 ?_
  refine o_h (Q0 (Cs:=[C sk]) rfl Qkl rfl aPs (fun w1 h1 hf9=>ih w1 sk (XQ (pln L) v k) p1 p2 (v.i :: P) hf9 hq hfp hI (hk3 ▸ QiG hI _ _ hIs) (fun s2 v2 p3 p4 w2 h2 hs2 hi2 ha2 hb2 hp3 hp4=>hv s2 v2 p3 p4 w2 (HS.thenF (h1.ent (Bs:=[C sk]) aEt) h2) hs2 hi2 ha2 hb2 hp3 hp4) ((ht.keep h1).mono (Q6 aPs)) ((hs.keep h1).mono (Q6 aPs)) hT hB (by unfold XQ;rw [hn];exact (hp1.keep h1).mono (Q6 aPs)) (by unfold XQ;rw [hn];exact (hp2.keep h1).mono (Q6 aPs)) h0 hwk (by simp only [List.length_cons];omega) (by show v.d + 1 = _;simp only [List.length_cons];omega) (Qgf hT hi0 (by rw [hn];simp only [LNd.pl];omega) hko) (Qgj hT hi0 hkp))) rfl (fun _ _=>?_)
  refine QeX ?_
  refine Qb rfl (fun h6=>?_) fun h6=>?_
  ·try simp only [Bool.not_eq_true',decide_eq_false_iff_not] at h6
   have e9 : XG st er s (QaB (pln L) f v k ++ vis (pln L) f (XQ (pln L) v k)) = XG st er sk (vis (pln L) f (XQ (pln L) v k)):=by rw [Qmn _ _ hk2,hk3]
   have hz : XG st er s (vis (pln L) (f + 1) v) = XG st er sk (vis (pln L) f (XQ (pln L) v k)):=by rw [Y6,hn];simp only [LNd.pl];obtain ⟨B,eB⟩:=QaJ (pln L) f v (show k + 1 ≤ (nth L v.i).cs.length by omega);rw [eB,XS,Qoz _ _ (by rw [e9];exact h6),e9]
   refine aS ?_
   refine Qm (L':=[(0,_),(2,_),(3,_),(4,_),(5,_),(16,_),(21,_),(22,_),(44,_),(45,_),(46,_),(47,_)]) aSx (fun _ h=>h) ?_
   refine aS6 ?_
   exact Qs (rs:=[.tmp 12,.tmp 13]) rfl (.tmp rfl (.tmp rfl (.nil))) (fun w' h'=>⟨(),by rw [hz];rfl,trivial,by rw [hz];exact h'.ent aEt⟩)
  try simp only [Bool.not_eq_false',decide_eq_true_eq] at h6
  have hz : XG st er s (QaB (pln L) f v (k + 1)) = XG st er sk (vis (pln L) f (XQ (pln L) v k)):=by rw [XS,Qmn _ _ hk2,hk3]
  refine aS2 ?_
  refine Qm (L':=[(0,_),(2,_),(3,_),(4,_),(5,_),(16,_),(44,_),(45,_),(46,_),(47,_)]) aSx (fun _ h=>h) ?_
  refine aS2 ?_
  try refine oWr ?_
  refine aS2 ?_
  exact Qu (k + 1,(XG st er sk (vis (pln L) f (XQ (pln L) v k))).2) (by (try simp only []);omega) ⟨by (try simp only []);omega,by simp only [];rw [hz];exact h6,by simp only [];rw [hz]⟩ aSx (fun w h=>h.ent aEt)
 try simp only [dN] at h3
 refine Qp rfl ?_
 refine aS5 ?_
 exact Qs (rs:=[.tmp 12,.tmp 13]) rfl (.tmp rfl (.tmp rfl (.nil))) (fun w' h'=>⟨(),by have hke : k = (nth L v.i).cs.length:=(by omega);rw [Y6,hn];simp only [LNd.pl];rw [← hke,Qn3 _ _ hk2];rfl,trivial,by have hke : k = (nth L v.i).cs.length:=(by omega);rw [Y6,hn];simp only [LNd.pl];rw [← hke,hk3];exact h'.ent aEt⟩)
theorem Qk6 (S : Type) (I : S → Prop) (C : S → HA) (st : S → Vis → S) (er : S → Vis → Int × Int) (q : Nat) (cv : Array Value) (bt : Nat) (j : Nat) (mo rm : Int) (a : Option Addr) (cap : Nat) (L : List LNd) : ∀ f,WkC S I C st er q cv bt j mo rm a cap L f
  | 0=>fun w s v pl ph P hw hq hfp hI hIs hv ht hs hT hB hpl hph h0 hway hf hd hko hkp=>by
    have hl:=Qbe hT (by rw [Qi];exact h0) hway;rw [Qi] at hl;simp only [List.length_cons] at hl;omega
  | f + 1=>fun w s v pl ph P hw hq hfp hI hIs hv ht hs hT hB hpl hph h0 hway hf hd hko hkp=>Qw3 w S I C st er q cv bt j mo rm a cap L s v pl ph P f hw hq hfp hI hIs hv ht hs hT hB hpl hph h0 hway hf hd hko hkp (Qk6 S I C st er q cv bt j mo rm a cap L f)
theorem c236 (w : World) (i : Nat) (d : Int) (pl ph : Option Addr) (c4 bb n : Nat) (s : List Bool) (hw : HS w (fps [.blk bb 4 n (s.map Value.bool)]) [.blk bb 4 n (s.map Value.bool)] w) (hc4 : Rd w (fps [.blk bb 4 n (s.map Value.bool)]) c4 0 (.slice (some ⟨bb,0,none⟩) n n)) (hi : i < n) (hn : s.length = n) : Calls Tryz.prog 236 #[.int .i64 (i : Int),.int .i64 d,.pointer pl,.pointer ph,.pointer (some ⟨c4,0,none⟩)] w fun en w'=>∃ g : Unit,en = .returned (.tuple #[.int .i64 0,.int .i64 0]) ∧ True ∧ HS w (fps [.blk bb 4 n (s.map Value.bool)]) [.blk bb 4 n ((s.set i true).map Value.bool)] w':=by
 refine enter (args:=[_,_,_,_,_]) Tryz.func236 Tryz.ntmps236 rfl rfl hw ?_
 refine aS7 ?_
 refine o_q (Qd rfl rfl QnP (hc4)) rfl ?_
 refine aS ?_
 refine o_p (Qc rfl rfl rfl Qa4 (i) (by omega) (by omega) rfl) rfl ?_
 refine QiH (Qbt rfl rfl rfl Qdl rfl aPt (by first | (simp only [List.length_map,List.length_singleton,List.length_cons,List.length_nil];omega) | (simp;omega)) rfl) (fun _ _=>?_)
 refine aS6 ?_
 exact Qs (rs:=[.tmp 9,.tmp 10]) rfl (.tmp rfl (.tmp rfl (.nil))) (fun w' h'=>⟨(),rfl,trivial,by have h2:=h';rw [List.map_set];simp only [Qh,Nat.zero_add,Nat.mul_one] at h2;exact h2.ent aEt⟩)
theorem Qs1 : Qt Tryz.prog 62 = true:=by kernel_rfl
theorem Qvg : Qt Tryz.prog 173 = true:=by kernel_rfl
theorem Qid : QoV Tryz.prog 266 9:=Qmx Tryz.underlying266 Qa3 (by decide)
set_option maxHeartbeats 1000000 in
theorem c237 (w : World) (v : Vis) (pl ph : Option Addr) (c1 c7 : Nat) (s : Int) (bt : Nat) (j : Nat) (mo rm : Int) (a : Option Addr) (cap : Nat) (L : List LNd) (hw : HS w (fps [.blk c7 3 1 [.int .i64 s]]) [.blk c7 3 1 [.int .i64 s]] w) (hc1 : Rd w (fps [.blk c7 3 1 [.int .i64 s]]) c1 0 (.pointer (some ⟨bt,0,none⟩))) (ht : TbR w (fps [.blk c7 3 1 [.int .i64 s]]) bt (j : Int) mo rm a L.length cap) (hs : Nt w (fps [.blk c7 3 1 [.int .i64 s]]) a L) (hj : j ≤ 3) (hmo : 0 ≤ mo ∧ mo ≤ 1000) (hi : v.i < L.length) (hl : L.length ≤ 1000) (hel : (nth L v.i).es.length ≤ 1000) (hcl : (nth L v.i).cs.length ≤ 1000) (hc0 : (nth L 0).cs.length ≤ 1000) (he0 : (nth L 0).es.length ≤ 1000) (hpl : Z8 w (fps [.blk c7 3 1 [.int .i64 s]]) pl v.lo) (hph : Z8 w (fps [.blk c7 3 1 [.int .i64 s]]) ph v.hi) (hlo : ∀ k,v.lo = some k → (Xa (j : Int) k = true ∧ k.length ≤ 1000000)) (hhi : ∀ k,v.hi = some k → (Xa (j : Int) k = true ∧ k.length ≤ 1000000)) (hok : ∀ x ∈ (nth L v.i).es,Xa (j : Int) x.key = true ∧ x.key.length ≤ 1000000) : Calls Tryz.prog 237 #[.int .i64 (v.i : Int),.int .i64 v.d,.pointer pl,.pointer ph,.pointer (some ⟨c1,0,none⟩),.pointer (some ⟨c7,0,none⟩)] w fun en w'=>∃ g : Unit,en = .returned (.tuple #[.int .i64 (erV (⟨(j : Int),mo,rm,pln L⟩ : Tre) s v).1,.int .i64 (erV (⟨(j : Int),mo,rm,pln L⟩ : Tre) s v).2]) ∧ True ∧ HS w (fps [.blk c7 3 1 [.int .i64 s]]) [.blk c7 3 1 [.int .i64 (stV (⟨(j : Int),mo,rm,pln L⟩ : Tre) s v)]] w':=by
 have h00 : 0 < L.length:=by omega
 have hn : nth (pln L) v.i = (nth L v.i).pl:=Q3 hi
 have hn0 : nth (pln L) 0 = (nth L 0).pl:=Q3 h00
 have hG : Z0 (⟨(j : Int),mo,rm,pln L⟩ : Tre) v = (decide (0 < v.i) && (decide (((nth L v.i).es.length : Int) < mo / 2) || ((decide (((nth L 0).es.length : Int) = 0) && decide ((v.i : Int) ∈ (nth L 0).cs)) && decide (((nth L v.i).es.length : Int) ≤ rm)))):=by unfold Z0;rw [hn,hn0];simp only [LNd.pl];congr 3;congr 1;apply decide_eq_decide.2;omega
 have hO : Zy (⟨(j : Int),mo,rm,pln L⟩ : Tre) v = (nth L v.i).es.any (Z7 (⟨(j : Int),mo,rm,pln L⟩ : Tre) v):=by unfold Zy;rw [hn];rfl
 have hE : erV (⟨(j : Int),mo,rm,pln L⟩ : Tre) s v = ((v.i : Int),if Z0 (⟨(j : Int),mo,rm,pln L⟩ : Tre) v = true then 14 else if Zy (⟨(j : Int),mo,rm,pln L⟩ : Tre) v = true then 9 else if (nth L v.i).cs.length = 0 then (if (if s = 0 then v.d else s) = v.d then 0 else 22) else 0):=by unfold erV;rw [hn];rfl
 have hS : stV (⟨(j : Int),mo,rm,pln L⟩ : Tre) s v = if Z0 (⟨(j : Int),mo,rm,pln L⟩ : Tre) v = true then s else if Zy (⟨(j : Int),mo,rm,pln L⟩ : Tre) v = true then s else if (nth L v.i).cs.length = 0 then (if s = 0 then v.d else s) else s:=by unfold stV;rw [hn];rfl
 refine enter (args:=[_,_,_,_,_,_]) Tryz.func237 Tryz.ntmps237 rfl rfl hw ?_
 refine aS7 ?_
 refine o_q (Qd rfl rfl ZC (hc1)) rfl ?_
 refine aS3 ?_
 refine o_q (Qd rfl rfl QbS (ht 3 _ rfl)) rfl ?_
 refine aS ?_
 refine o_p (Qc rfl rfl rfl XB (v.i) (by omega) (by omega) (Rw.some hs.1 (by omega))) rfl ?_
 refine o_q (QA _ rfl rfl Xz rfl (Rw.rd hs.1 hi)) rfl ?_
 refine oAl (fun b1 _=>?_) XF
 refine oSt ?_
 refine aS4 ?_
 refine o_q (Qd rfl rfl ZC (hc1)) rfl ?_
 refine aS3 ?_
 refine o_q (Qd rfl rfl QbS (ht 3 _ rfl)) rfl ?_
 refine o_p (Qc rfl rfl rfl XB (0) (by omega) (by omega) (Rw.some hs.1 (by omega))) rfl ?_
 refine o_q (QA _ rfl rfl Xz rfl (Rw.rd hs.1 (i:=0) h00)) rfl ?_
 refine oAl (fun b2 _=>?_) XF
 refine oSt ?_
 refine aS6 ?_
 refine Qm (L':=[(0,_),(1,_),(2,_),(3,_),(4,_),(5,_),(10,_),(11,_),(12,_),(13,_),(33,_)]) aSx (fun _ h=>h) ?_
 refine Yi (α:=Unit) [10,11,14,34,35,36,37,38,39,40,41,42,43,44,45,46,47,48,49,50,51,52,53,54,55,56,57,58,59,60,61,62,63,64] (fun _=>[]) (fun _=>HS w (fps [.blk c7 3 1 [.int .i64 s]]) [.blk b2 69 3 (nth L 0).vals,.blk b1 69 3 (nth L v.i).vals,.blk c7 3 1 [.int .i64 s]]) (fun _=>Z0 (⟨(j : Int),mo,rm,pln L⟩ : Tre) v = false) ?_ ?_
 ·skip
  refine Qb rfl (fun h3=>?_) fun h3=>?_
  ·try simp only [dT] at h3
   refine aS7 ?_
   refine Xn 5 38 43 _ _ rfl
    (by
     intro hg4
     have hs5:=hg4;try simp only [dT] at hs5
     refine oOn 38 hg4 ?_
     refine aS ?_
     refine oOn 38 hg4 ?_
     refine aS ?_
     refine oOn 38 hg4 ?_
     refine aS ?_
     refine oOn 38 hg4 ?_
     refine o_q (Qa rfl Qs1 rfl (fun w1 h1=>c62 w1 (nth L 0).ca (nth L 0).cc (nth L 0).cs (v.i : Int) ((hs.cs h00).later h1) (by omega))) rfl ?_
     refine o_p (Qg rfl rfl hg4 rfl) rfl ?_
     refine aS ?_
     exact oJn 5 43)
    (by
     intro hg6
     have hs7:=hg6;try simp only [dN] at hs7
     refine oOf 38 hg6 ?_
     refine oOf 38 hg6 ?_
     refine oOf 38 hg6 ?_
     refine oOf 38 hg6 ?_
     refine o_p (Qf rfl rfl hg6 rfl) rfl ?_
     refine aS ?_
     exact oJn 5 43) ?_
   refine aS3 ?_
   refine Yi (α:=Unit) [44,45,46,47,48,49,50,51,52,53,54,55,56,57,58,59,60,61,62,63] (fun _=>[(63,.bool (decide (((nth L v.i).es.length : Int) < mo / 2) || ((decide (((nth L 0).es.length : Int) = 0) && decide ((v.i : Int) ∈ (nth L 0).cs)) && decide (((nth L v.i).es.length : Int) ≤ rm))))]) (fun _=>HS w (fps [.blk c7 3 1 [.int .i64 s]]) [.blk b2 69 3 (nth L 0).vals,.blk b1 69 3 (nth L v.i).vals,.blk c7 3 1 [.int .i64 s]]) (fun _=>True) ?_ ?_
   ·skip
    refine QG [] QU ?_
    refine dFa 0 ?_
    refine dLd 1 [] ?_
    refine dV 2 rfl (QQ rfl rfl Tryz.underlying67) ?_
    refine dQ 3 [] rfl (Qd rfl rfl ZC (hc1)) ?_
    refine dQ 4 [] rfl (Qa rfl Qvg rfl (fun w1 h1=>c173 w1 bt j mo rm a L.length cap hmo (ht.next h1))) ?_
    refine dP 5 ?_
    refine dP 6 ?_
    apply XZ 50
    ·exact rfl
    ·intro hg8
     have hs9:=hg8;try simp only [dT] at hs9
     refine dOf 7 50 hg8 ?_
     refine dOf 8 50 hg8 ?_
     refine dOu 9 52 ?_
     refine dOu 10 52 ?_
     refine dOu 11 52 ?_
     refine dOu 12 52 ?_
     refine dOu 13 52 ?_
     refine dOu 14 52 ?_
     refine dOu 15 52 ?_
     refine dOu 16 52 ?_
     refine dOu 17 52 ?_
     refine dOf 18 50 hg8 ?_
     refine dV 19 rfl (Qg rfl rfl hg8 rfl) ?_
     refine QD (show _ = Value.bool (decide (((nth L v.i).es.length : Int) < mo / 2) || ((decide (((nth L 0).es.length : Int) = 0) && decide ((v.i : Int) ∈ (nth L 0).cs)) && decide (((nth L v.i).es.length : Int) ≤ rm))) from by congr 1;first | (simp_all;done) | (simp_all;omega)) ?_
     refine dNi ?_
     exact Qw () trivial aSx (fun w h=>h.ent aEt)
    intro hg10
    have hs11:=hg10;try simp only [dN] at hs11
    refine dPo 7 50 hg10 ?_
    refine dPo 8 50 hg10 ?_
    apply XZ 52
    ·exact rfl
    ·intro hg12
     have hs13:=hg12;try simp only [Bool.and_eq_true,decide_eq_true_eq] at hs13
     refine dFo 9 52 hg12 ?_
     refine dQo 10 52 [] hg12 rfl rfl rfl (YA rfl rfl QdS aPk rfl) ?_
     refine dVo 11 52 hg12 rfl rfl rfl (QQ rfl rfl Tryz.underlying67) ?_
     refine dQo 12 52 [] hg12 rfl rfl rfl (Qd rfl rfl ZC (hc1)) ?_
     refine dPo 13 52 hg12 ?_
     refine dFo 14 52 hg12 ?_
     refine dFo 15 52 hg12 ?_
     refine dQo 16 52 [] hg12 rfl rfl rfl (Qd rfl rfl Y1 (ht 2 _ rfl)) ?_
     refine dPo 17 52 hg12 ?_
     refine dVo 18 50 hg10 rfl rfl rfl (Qg rfl rfl hg12 rfl) ?_
     refine dV 19 rfl (Qf rfl rfl hg10 rfl) ?_
     refine QD (show _ = Value.bool (decide (((nth L v.i).es.length : Int) < mo / 2) || ((decide (((nth L 0).es.length : Int) = 0) && decide ((v.i : Int) ∈ (nth L 0).cs)) && decide (((nth L v.i).es.length : Int) ≤ rm))) from by congr 1;first | (simp_all;done) | (simp_all;omega)) ?_
     refine dNi ?_
     exact Qw () trivial aSx (fun w h=>h.ent aEt)
    intro hg14
    have hs15:=hg14;try simp only [Bool.and_eq_false_iff,decide_eq_false_iff_not] at hs15
    refine dOf 9 52 hg14 ?_
    refine dOf 10 52 hg14 ?_
    refine dOf 11 52 hg14 ?_
    refine dOf 12 52 hg14 ?_
    refine dOf 13 52 hg14 ?_
    refine dOf 14 52 hg14 ?_
    refine dOf 15 52 hg14 ?_
    refine dOf 16 52 hg14 ?_
    refine dOf 17 52 hg14 ?_
    refine dVo 18 50 hg10 rfl rfl rfl (Qf rfl rfl hg14 rfl) ?_
    refine dV 19 rfl (Qf rfl rfl hg10 rfl) ?_
    refine QD (show _ = Value.bool (decide (((nth L v.i).es.length : Int) < mo / 2) || ((decide (((nth L 0).es.length : Int) = 0) && decide ((v.i : Int) ∈ (nth L 0).cs)) && decide (((nth L v.i).es.length : Int) ≤ rm))) from by congr 1;first | (simp_all;done) | (simp_all;omega)) ?_
    refine dNi ?_
    exact Qw () trivial aSx (fun w h=>h.ent aEt)
   intro _ _
   refine Qb rfl (fun h16=>?_) fun h16=>?_
   ·try simp only [Bool.or_eq_true,decide_eq_true_eq,Bool.and_eq_true] at h16
    have hz : Z0 (⟨(j : Int),mo,rm,pln L⟩ : Tre) v = true:=by rw [hG];have hq:=h16;simp only [Bool.and_eq_true,Bool.or_eq_true,decide_eq_true_eq];exact ⟨by omega,hq⟩
    refine aS6 ?_
    exact Qs (rs:=[.tmp 10,.tmp 11]) rfl (.tmp rfl (.tmp rfl (.nil))) (fun w' h'=>⟨(),by rw [hE];simp only [];rw [if_pos hz];rfl,trivial,by rw [hS,if_pos hz];exact h'.ent aEt⟩)
   try simp only [Bool.or_eq_false_iff,decide_eq_false_iff_not,Bool.and_eq_false_iff] at h16
   refine aS ?_
   exact Qw () (by rw [hG,decide_eq_true (by omega),Bool.true_and];apply Bool.eq_false_iff.2;intro h9;simp only [Bool.and_eq_true,Bool.or_eq_true,decide_eq_true_eq] at h9;have hq:=h16;simp at hq h9;grind) aSx (fun w h=>h.ent aEt)
  try simp only [dN] at h3
  refine aS ?_
  exact Qw () (by rw [hG,decide_eq_false (by omega)];rfl) aSx (fun w h=>h.ent aEt)
 intro _ hz1
 refine aS9 ?_
 refine Qx (α:=Nat) [10,11,16,68,69,70,71,72,73,74,75,76,77,78,79,80,81,82,83,84,85,86,87,88,89,90,91,92,93,94,95,96,97,98,99,100,101,102,103,104,105,106,107] (fun k=>[(68,.int .i64 (k : Int))]) (fun _=>HS w (fps [.blk c7 3 1 [.int .i64 s]]) [.blk b2 69 3 (nth L 0).vals,.blk b1 69 3 (nth L v.i).vals,.blk c7 3 1 [.int .i64 s]]) (fun k=>k ≤ (nth L v.i).es.length ∧ ∀ i,i < k → Z7 (⟨(j : Int),mo,rm,pln L⟩ : Tre) v (nth (nth L v.i).es i) = false) (fun k=>(nth L v.i).es.length - k) 0 ⟨Nat.zero_le _,fun i h=>absurd h (Nat.not_lt_zero i)⟩ aSx (fun w h=>h.ent aEt) (fun k hx=>?_)
 obtain ⟨hk1,hk2⟩:=hx
 refine aS5 ?_
 refine Qb rfl (fun h17=>?_) fun h17=>?_
 ·try simp only [dT] at h17
  have hkl : k < (nth L v.i).es.length:=by omega
  refine aS5 ?_
  refine o_p (Qc rfl rfl rfl Xh (k) (by omega) (by omega) (Rw.some (hs.es hi) (by omega))) rfl ?_
  refine o_q (QA _ rfl rfl Qb2 rfl (Rw.rd (hs.es hi) (i:=k) hkl)) rfl ?_
  refine oAl (fun b18 _=>?_) Z2
  refine oSt ?_
  refine aS2 ?_
  refine Yi (α:=Unit) [72,73,74,75,76,77,78,79,80,81,82,83,84,85,86,87,88,89,90,91,92,93,94,95,96,97,98,99,100,101,102,103,104,105] (fun _=>[(105,.bool (Z7 (⟨(j : Int),mo,rm,pln L⟩ : Tre) v (nth (nth L v.i).es k)))]) (fun _=>HS w (fps [.blk c7 3 1 [.int .i64 s]]) [.blk b2 69 3 (nth L 0).vals,.blk b1 69 3 (nth L v.i).vals,.blk c7 3 1 [.int .i64 s]]) (fun _=>True) ?_ ?_
  ·skip
   refine QG [] QU ?_
   refine dP 0 ?_
   refine dV 1 rfl (QbQ rfl rfl rfl Qid) ?_
   refine dP 2 ?_
   apply XZ 74
   ·exact rfl
   ·intro hg19
    have hs20:=hg19;skip
    refine dQo 3 74 [] hg19 rfl rfl rfl (Qd rfl rfl ZC (hc1)) ?_
    obtain ⟨k9,b9,o9,hlo9,rfl,hr9⟩:=hpl.of_some hg19
    refine dPo 4 74 hg19 ?_
    refine dFo 5 74 hg19 ?_
    refine dFo 6 74 hg19 ?_
    refine dQo 7 74 [] hg19 rfl rfl rfl (Qd rfl rfl QfH (ht 5 _ rfl)) ?_
    refine dPo 8 74 hg19 ?_
    refine dPo 9 74 hg19 ?_
    refine dQo 10 74 [] hg19 rfl rfl rfl (Qd rfl rfl Qa3 (hr9)) ?_
    refine dFo 11 74 hg19 ?_
    refine dQo 12 74 [] hg19 rfl rfl rfl (YA rfl rfl Qa3 aPk rfl) ?_
    refine dQo 13 74 [] hg19 rfl rfl rfl (Y2 rfl rfl (Qis _) rfl (fun w1 h1=>Qce w1 j k9 (nth (nth L v.i).es k).key hj (hlo _ hlo9).1 (hok _ (QC hkl)).1 (hlo _ hlo9).2 (hok _ (QC hkl)).2)) ?_
    refine dPo 14 74 hg19 ?_
    refine dV 15 rfl (Qg rfl rfl hg19 rfl) ?_
    refine QD (show _ = Value.bool (v.lo.any fun b=>decide (0 ≤ Xm (j : Int) b (nth (nth L v.i).es k).key)) from by congr 1;first | (rw [hlo9];rfl) | (rw [hpl.of_none hg19];rfl)) ?_
    refine dP 16 ?_
    apply XZ 88
    ·exact rfl
    ·intro hg21
     have hs22:=hg21;skip
     refine dOf 17 88 hg21 ?_
     refine dOf 18 88 hg21 ?_
     refine dOf 19 88 hg21 ?_
     refine dOu 20 91 ?_
     refine dOu 21 91 ?_
     refine dOu 22 91 ?_
     refine dOu 23 91 ?_
     refine dOu 24 91 ?_
     refine dOu 25 91 ?_
     refine dOu 26 91 ?_
     refine dOu 27 91 ?_
     refine dOu 28 91 ?_
     refine dOu 29 91 ?_
     refine dOu 30 91 ?_
     refine dOu 31 91 ?_
     refine dOf 32 88 hg21 ?_
     refine dV 33 rfl (Qg rfl rfl hg21 rfl) ?_
     refine QD (show _ = Value.bool (Z7 (⟨(j : Int),mo,rm,pln L⟩ : Tre) v (nth (nth L v.i).es k)) from by congr 1;show _ = ((v.lo.any fun b=>decide (0 ≤ Xm (j : Int) b (nth (nth L v.i).es k).key)) || (v.hi.any fun b=>decide (0 ≤ Xm (j : Int) (nth (nth L v.i).es k).key b)));first | (rw [show (v.lo.any fun b=>decide (0 ≤ Xm (j : Int) b (nth (nth L v.i).es k).key)) = true by assumption];rfl) | (rw [show (v.lo.any fun b=>decide (0 ≤ Xm (j : Int) b (nth (nth L v.i).es k).key)) = false by assumption];rfl)) ?_
     refine dNi ?_
     exact Qw () trivial aSx (fun w h=>h.ent aEt)
    intro hg23
    have hs24:=hg23;skip
    refine dPo 17 88 hg23 ?_
    refine dVo 18 88 hg23 rfl rfl rfl (QbQ rfl rfl rfl Qid) ?_
    refine dPo 19 88 hg23 ?_
    apply XZ 91
    ·exact rfl
    ·intro hg25
     have hs26:=hg25;skip
     refine dQo 20 91 [] hg25 rfl rfl rfl (Qd rfl rfl ZC (hc1)) ?_
     obtain ⟨k8,b8,o8,hhi8,rfl,hr8⟩:=hph.of_some hg25
     refine dPo 21 91 hg25 ?_
     refine dFo 22 91 hg25 ?_
     refine dFo 23 91 hg25 ?_
     refine dQo 24 91 [] hg25 rfl rfl rfl (Qd rfl rfl QfH (ht 5 _ rfl)) ?_
     refine dFo 25 91 hg25 ?_
     refine dQo 26 91 [] hg25 rfl rfl rfl (YA rfl rfl Qa3 aPk rfl) ?_
     refine dPo 27 91 hg25 ?_
     refine dPo 28 91 hg25 ?_
     refine dQo 29 91 [] hg25 rfl rfl rfl (Qd rfl rfl Qa3 (hr8)) ?_
     refine dQo 30 91 [] hg25 rfl rfl rfl (Y2 rfl rfl (Qis _) rfl (fun w1 h1=>Qce w1 j (nth (nth L v.i).es k).key k8 hj (hok _ (QC hkl)).1 (hhi _ hhi8).1 (hok _ (QC hkl)).2 (hhi _ hhi8).2)) ?_
     refine dPo 31 91 hg25 ?_
     refine dVo 32 88 hg23 rfl rfl rfl (Qg rfl rfl hg25 rfl) ?_
     refine QD (show _ = Value.bool (v.hi.any fun b=>decide (0 ≤ Xm (j : Int) (nth (nth L v.i).es k).key b)) from by congr 1;first | (rw [hhi8];rfl) | (rw [hph.of_none hg25];rfl)) ?_
     refine dV 33 rfl (Qf rfl rfl hg23 rfl) ?_
     refine QD (show _ = Value.bool (Z7 (⟨(j : Int),mo,rm,pln L⟩ : Tre) v (nth (nth L v.i).es k)) from by congr 1;show _ = ((v.lo.any fun b=>decide (0 ≤ Xm (j : Int) b (nth (nth L v.i).es k).key)) || (v.hi.any fun b=>decide (0 ≤ Xm (j : Int) (nth (nth L v.i).es k).key b)));first | (rw [show (v.lo.any fun b=>decide (0 ≤ Xm (j : Int) b (nth (nth L v.i).es k).key)) = true by assumption];rfl) | (rw [show (v.lo.any fun b=>decide (0 ≤ Xm (j : Int) b (nth (nth L v.i).es k).key)) = false by assumption];rfl)) ?_
     refine dNi ?_
     exact Qw () trivial aSx (fun w h=>h.ent aEt)
    intro hg27
    have hs28:=hg27;skip
    refine dOf 20 91 hg27 ?_
    refine dOf 21 91 hg27 ?_
    refine dOf 22 91 hg27 ?_
    refine dOf 23 91 hg27 ?_
    refine dOf 24 91 hg27 ?_
    refine dOf 25 91 hg27 ?_
    refine dOf 26 91 hg27 ?_
    refine dOf 27 91 hg27 ?_
    refine dOf 28 91 hg27 ?_
    refine dOf 29 91 hg27 ?_
    refine dOf 30 91 hg27 ?_
    refine dOf 31 91 hg27 ?_
    refine dVo 32 88 hg23 rfl rfl rfl (Qf rfl rfl hg27 rfl) ?_
    refine QD (show _ = Value.bool (v.hi.any fun b=>decide (0 ≤ Xm (j : Int) (nth (nth L v.i).es k).key b)) from by congr 1;first | (rw [hhi8];rfl) | (rw [hph.of_none hg27];rfl)) ?_
    refine dV 33 rfl (Qf rfl rfl hg23 rfl) ?_
    refine QD (show _ = Value.bool (Z7 (⟨(j : Int),mo,rm,pln L⟩ : Tre) v (nth (nth L v.i).es k)) from by congr 1;show _ = ((v.lo.any fun b=>decide (0 ≤ Xm (j : Int) b (nth (nth L v.i).es k).key)) || (v.hi.any fun b=>decide (0 ≤ Xm (j : Int) (nth (nth L v.i).es k).key b)));first | (rw [show (v.lo.any fun b=>decide (0 ≤ Xm (j : Int) b (nth (nth L v.i).es k).key)) = true by assumption];rfl) | (rw [show (v.lo.any fun b=>decide (0 ≤ Xm (j : Int) b (nth (nth L v.i).es k).key)) = false by assumption];rfl)) ?_
    refine dNi ?_
    exact Qw () trivial aSx (fun w h=>h.ent aEt)
   intro hg29
   have hs30:=hg29;skip
   refine dOf 3 74 hg29 ?_
   refine dOf 4 74 hg29 ?_
   refine dOf 5 74 hg29 ?_
   refine dOf 6 74 hg29 ?_
   refine dOf 7 74 hg29 ?_
   refine dOf 8 74 hg29 ?_
   refine dOf 9 74 hg29 ?_
   refine dOf 10 74 hg29 ?_
   refine dOf 11 74 hg29 ?_
   refine dOf 12 74 hg29 ?_
   refine dOf 13 74 hg29 ?_
   refine dOf 14 74 hg29 ?_
   refine dV 15 rfl (Qf rfl rfl hg29 rfl) ?_
   refine QD (show _ = Value.bool (v.lo.any fun b=>decide (0 ≤ Xm (j : Int) b (nth (nth L v.i).es k).key)) from by congr 1;first | (rw [hlo9];rfl) | (rw [hpl.of_none hg29];rfl)) ?_
   refine dP 16 ?_
   apply XZ 88
   ·exact rfl
   ·intro hg31
    have hs32:=hg31;skip
    refine dOf 17 88 hg31 ?_
    refine dOf 18 88 hg31 ?_
    refine dOf 19 88 hg31 ?_
    refine dOu 20 91 ?_
    refine dOu 21 91 ?_
    refine dOu 22 91 ?_
    refine dOu 23 91 ?_
    refine dOu 24 91 ?_
    refine dOu 25 91 ?_
    refine dOu 26 91 ?_
    refine dOu 27 91 ?_
    refine dOu 28 91 ?_
    refine dOu 29 91 ?_
    refine dOu 30 91 ?_
    refine dOu 31 91 ?_
    refine dOf 32 88 hg31 ?_
    refine dV 33 rfl (Qg rfl rfl hg31 rfl) ?_
    refine QD (show _ = Value.bool (Z7 (⟨(j : Int),mo,rm,pln L⟩ : Tre) v (nth (nth L v.i).es k)) from by congr 1;show _ = ((v.lo.any fun b=>decide (0 ≤ Xm (j : Int) b (nth (nth L v.i).es k).key)) || (v.hi.any fun b=>decide (0 ≤ Xm (j : Int) (nth (nth L v.i).es k).key b)));first | (rw [show (v.lo.any fun b=>decide (0 ≤ Xm (j : Int) b (nth (nth L v.i).es k).key)) = true by assumption];rfl) | (rw [show (v.lo.any fun b=>decide (0 ≤ Xm (j : Int) b (nth (nth L v.i).es k).key)) = false by assumption];rfl)) ?_
    refine dNi ?_
    exact Qw () trivial aSx (fun w h=>h.ent aEt)
   intro hg33
   have hs34:=hg33;skip
   refine dPo 17 88 hg33 ?_
   refine dVo 18 88 hg33 rfl rfl rfl (QbQ rfl rfl rfl Qid) ?_
   refine dPo 19 88 hg33 ?_
   apply XZ 91
   ·exact rfl
   ·intro hg35
    have hs36:=hg35;skip
    refine dQo 20 91 [] hg35 rfl rfl rfl (Qd rfl rfl ZC (hc1)) ?_
    obtain ⟨k8,b8,o8,hhi8,rfl,hr8⟩:=hph.of_some hg35
    refine dPo 21 91 hg35 ?_
    refine dFo 22 91 hg35 ?_
    refine dFo 23 91 hg35 ?_
    refine dQo 24 91 [] hg35 rfl rfl rfl (Qd rfl rfl QfH (ht 5 _ rfl)) ?_
    refine dFo 25 91 hg35 ?_
    refine dQo 26 91 [] hg35 rfl rfl rfl (YA rfl rfl Qa3 aPk rfl) ?_
    refine dPo 27 91 hg35 ?_
    refine dPo 28 91 hg35 ?_
    refine dQo 29 91 [] hg35 rfl rfl rfl (Qd rfl rfl Qa3 (hr8)) ?_
    refine dQo 30 91 [] hg35 rfl rfl rfl (Y2 rfl rfl (Qis _) rfl (fun w1 h1=>Qce w1 j (nth (nth L v.i).es k).key k8 hj (hok _ (QC hkl)).1 (hhi _ hhi8).1 (hok _ (QC hkl)).2 (hhi _ hhi8).2)) ?_
    refine dPo 31 91 hg35 ?_
    refine dVo 32 88 hg33 rfl rfl rfl (Qg rfl rfl hg35 rfl) ?_
    refine QD (show _ = Value.bool (v.hi.any fun b=>decide (0 ≤ Xm (j : Int) (nth (nth L v.i).es k).key b)) from by congr 1;first | (rw [hhi8];rfl) | (rw [hph.of_none hg35];rfl)) ?_
    refine dV 33 rfl (Qf rfl rfl hg33 rfl) ?_
    refine QD (show _ = Value.bool (Z7 (⟨(j : Int),mo,rm,pln L⟩ : Tre) v (nth (nth L v.i).es k)) from by congr 1;show _ = ((v.lo.any fun b=>decide (0 ≤ Xm (j : Int) b (nth (nth L v.i).es k).key)) || (v.hi.any fun b=>decide (0 ≤ Xm (j : Int) (nth (nth L v.i).es k).key b)));first | (rw [show (v.lo.any fun b=>decide (0 ≤ Xm (j : Int) b (nth (nth L v.i).es k).key)) = true by assumption];rfl) | (rw [show (v.lo.any fun b=>decide (0 ≤ Xm (j : Int) b (nth (nth L v.i).es k).key)) = false by assumption];rfl)) ?_
    refine dNi ?_
    exact Qw () trivial aSx (fun w h=>h.ent aEt)
   intro hg37
   have hs38:=hg37;skip
   refine dOf 20 91 hg37 ?_
   refine dOf 21 91 hg37 ?_
   refine dOf 22 91 hg37 ?_
   refine dOf 23 91 hg37 ?_
   refine dOf 24 91 hg37 ?_
   refine dOf 25 91 hg37 ?_
   refine dOf 26 91 hg37 ?_
   refine dOf 27 91 hg37 ?_
   refine dOf 28 91 hg37 ?_
   refine dOf 29 91 hg37 ?_
   refine dOf 30 91 hg37 ?_
   refine dOf 31 91 hg37 ?_
   refine dVo 32 88 hg33 rfl rfl rfl (Qf rfl rfl hg37 rfl) ?_
   refine QD (show _ = Value.bool (v.hi.any fun b=>decide (0 ≤ Xm (j : Int) (nth (nth L v.i).es k).key b)) from by congr 1;first | (rw [hhi8];rfl) | (rw [hph.of_none hg37];rfl)) ?_
   refine dV 33 rfl (Qf rfl rfl hg33 rfl) ?_
   refine QD (show _ = Value.bool (Z7 (⟨(j : Int),mo,rm,pln L⟩ : Tre) v (nth (nth L v.i).es k)) from by congr 1;show _ = ((v.lo.any fun b=>decide (0 ≤ Xm (j : Int) b (nth (nth L v.i).es k).key)) || (v.hi.any fun b=>decide (0 ≤ Xm (j : Int) (nth (nth L v.i).es k).key b)));first | (rw [show (v.lo.any fun b=>decide (0 ≤ Xm (j : Int) b (nth (nth L v.i).es k).key)) = true by assumption];rfl) | (rw [show (v.lo.any fun b=>decide (0 ≤ Xm (j : Int) b (nth (nth L v.i).es k).key)) = false by assumption];rfl)) ?_
   refine dNi ?_
   exact Qw () trivial aSx (fun w h=>h.ent aEt)
  intro _ _
  refine Qb rfl (fun h39=>?_) fun h39=>?_
  ·skip
   have hz2 : Zy (⟨(j : Int),mo,rm,pln L⟩ : Tre) v = true:=by rw [hO,List.any_eq_true];exact ⟨_,QC hkl,h39⟩
   refine aS6 ?_
   exact Qs (rs:=[.tmp 10,.tmp 11]) rfl (.tmp rfl (.tmp rfl (.nil))) (fun w' h'=>⟨(),by rw [hE];simp only [];rw [if_neg (by rw [hz1];decide),if_pos hz2];rfl,trivial,by rw [hS,if_neg (by rw [hz1];decide),if_pos hz2];exact h'.ent aEt⟩)
  skip
  refine aS4 ?_
  try refine oWr ?_
  refine aS2 ?_
  exact Qu (k + 1) (by omega) ⟨by omega,fun i hi9=>(Nat.lt_or_ge i k).elim (hk2 i) (fun h=>by obtain rfl : i = k:=(by omega);have hq:=h39;simpa using hq)⟩ aSx (fun w h=>h.ent aEt)
 try simp only [dN] at h17
 obtain rfl : k = (nth L v.i).es.length:=by omega
 have hz2 : Zy (⟨(j : Int),mo,rm,pln L⟩ : Tre) v = false:=by rw [hO,List.any_eq_false];intro x hx;obtain ⟨i9,hi9,e9⟩:=List.getElem_of_mem hx;have e8 : nth (nth L v.i).es i9 = x:=Zk (by rw [List.getElem?_eq_getElem hi9,e9]);rw [← e8,hk2 i9 hi9];decide
 refine Qp rfl ?_
 refine aS8 ?_
 refine Qb rfl (fun h40=>?_) fun h40=>?_
 ·try simp only [dT] at h40
  have hc9 : (nth L v.i).cs.length = 0:=by have hq:=h40;omega
  have hEv : erV (⟨(j : Int),mo,rm,pln L⟩ : Tre) s v = ((v.i : Int),if (if s = 0 then v.d else s) = v.d then 0 else 22):=by rw [hE,if_neg (by rw [hz1];decide),if_neg (by rw [hz2];decide),if_pos hc9]
  refine aS6 ?_
  refine Yi (α:=Unit) [114] (fun _=>[]) (fun _=>HS w (fps [.blk c7 3 1 [.int .i64 s]]) [.blk b2 69 3 (nth L 0).vals,.blk b1 69 3 (nth L v.i).vals,.blk c7 3 1 [.int .i64 (if s = 0 then v.d else s)]]) (fun _=>True) ?_ ?_
  ·skip
   refine Qb rfl (fun h41=>?_) fun h41=>?_
   ·try simp only [dT] at h41
    refine aS2 ?_
    refine oSt ?_
    refine aS ?_
    exact Qw () trivial aSx (fun w h=>by rw [if_pos h41];exact h.ent aEt)
   try simp only [dN] at h41
   refine aS ?_
   exact Qw () trivial aSx (fun w h=>by rw [if_neg h41];exact h.ent aEt)
  intro _ _
  refine aS6 ?_
  refine o_q (Qa rfl Y8 rfl (fun w1 h1=>QdO w1 _ _)) rfl ?_
  refine aS3 ?_
  exact Qs (rs:=[.tmp 10,.tmp 11]) rfl (.tmp rfl (.tmp rfl (.nil))) (fun w' h'=>⟨(),by rw [hEv];simp only [QT,cond_eq_ite,decide_eq_true_eq],trivial,by rw [hS,if_neg (by rw [hz1];decide),if_neg (by rw [hz2];decide),if_pos hc9];exact h'.ent aEt⟩)
 try simp only [dN] at h40
 have hc9 : ¬ (nth L v.i).cs.length = 0:=by have hq:=h40;omega
 refine aS7 ?_
 exact Qs (rs:=[.tmp 10,.tmp 11]) rfl (.tmp rfl (.tmp rfl (.nil))) (fun w' h'=>⟨(),by rw [hE];simp only [];rw [if_neg (by rw [hz1];decide),if_neg (by rw [hz2];decide),if_neg hc9];rfl,trivial,by rw [hS,if_neg (by rw [hz1];decide),if_neg (by rw [hz2];decide),if_neg hc9];exact h'.ent aEt⟩)
theorem Quy : QO Tryz.prog 4 = some [.bool false]:=by kernel_rfl
theorem QtS : QO Tryz.prog 102 = some [.slice none 0 0]:=by kernel_rfl
theorem c200 (w : World) (bt : Nat) (j : Nat) (mo rm : Int) (a : Option Addr) (cap : Nat) (L : List LNd) (ht : TbR w [] bt (j : Int) mo rm a L.length cap) (hs : Nt w [] a L) (hj : j ≤ 3) (hmo : 0 ≤ mo ∧ mo ≤ 1000) (h0 : 0 < L.length) (hB : Bd (pln L)) (hT : TOk (j : Int) (pln L)) : Calls Tryz.prog 200 #[.pointer (some ⟨bt,0,none⟩)] w fun en w'=>en = .returned (.tuple #[.int .i64 (Qbz (⟨(j : Int),mo,rm,pln L⟩ : Tre)).1,.int .i64 (Qbz (⟨(j : Int),mo,rm,pln L⟩ : Tre)).2]) ∧ Below w.heap.size w w':=by
 have hle:=hB.len
 rw [Qi] at hle
 have hvis : vis (pln L) L.length QbX = YI (pln L):=by unfold YI;rw [Qi]
 have hmar:=Qmj (YI (pln L)) (List.replicate L.length false)
 rw [List.length_replicate] at hmar
 have hbel : ∀ i,i < L.length → (XG QeS (fun _ _=>(0,0)) (List.replicate L.length false) (YI (pln L))).2.getD i false = decide (i ∈ (YI (pln L)).map Vis.i):=fun i hi=>by rw [hmar.2.2 i hi,show (List.replicate L.length false).getD i false = false from by rw [List.getD_eq_getElem?_getD,List.getElem?_replicate];split <;> rfl,Bool.false_or]
 have hes9 : ∀ i,i < L.length → (nth L i).es.length ≤ 1000:=fun i hi=>by have h9:=hB.es i (by rw [Qi];exact hi);rw [Q3 hi] at h9;exact h9
 have hcs9 : ∀ i,i < L.length → (nth L i).cs.length ≤ 1000:=fun i hi=>by have h9:=hB.cs i (by rw [Qi];exact hi);rw [Q3 hi] at h9;exact h9
 have hok9 : ∀ i,i < L.length → ∀ x ∈ (nth L i).es,Xa (j : Int) x.key = true ∧ x.key.length ≤ 1000000:=fun i hi=>by have h9:=QdE hT (i:=i) (by rw [Qi];exact hi);rw [Q3 hi] at h9;exact h9
 refine enter (args:=[_]) Tryz.func200 Tryz.ntmps200 rfl rfl (HS.refl w []) ?_
 refine aS2 ?_
 refine oBx fun b1 _=>?_
 refine aS9 ?_
 refine o_q (Qd rfl rfl QbS (ht 3 _ rfl)) rfl ?_
 refine aS ?_
 refine o_h (QhV (n:=L.length) rfl rfl rfl Qa4 Quy (by omega) (by omega)) rfl (fun b2 _=>?_)
 refine X6 (fun w h=>(show HS _ _ [.blk b2 4 L.length ((List.replicate L.length false).map Value.bool),.blk b1 158 1 [.pointer (some ⟨bt,0,none⟩)]] w from by have h9:=h;rw [Nat.mul_one,QbR,← List.map_replicate] at h9;exact h9.ent aEt)) ?_
 refine oAl (fun b3 _=>?_) QtS
 refine oSt ?_
 refine aS5 ?_
 refine o_h (Q0 (Cs:=[.blk b2 4 L.length ((List.replicate L.length false).map Value.bool)]) rfl Qkl rfl aPs (fun w1 h1 hf=>by have h9:=Qk6 (List Bool) (fun s=>s.length = L.length) (fun s=>.blk b2 4 L.length (s.map Value.bool)) QeS (fun _ _=>(0,0)) 236 #[.pointer (some ⟨b3,0,none⟩)] bt j mo rm a cap L L.length w1 (List.replicate L.length false) QbX none none [] hf (by kernel_rfl) (fun _ _=>rfl) (fun s v h=>by simpa [QeS] using h) (by simp) (fun s2 v2 p2 p3 w2 h2 hs2 hi2 _ _ _ _=>c236 w2 v2.i v2.d p2 p3 b3 b2 L.length s2 (HS.focus (Cs:=[_]) (Ds:=[]) h2) (h2.keep (h1.rd_blkF aPs (b:=b3) aPk rfl)) hi2 hs2) ((ht.keep h1).mono (Q6 aPs)) ((hs.keep h1).mono (Q6 aPs)) hT hB rfl rfl h0 rfl (by simp) rfl (fun _ h=>by cases h) (fun _ h=>by cases h);rw [hvis] at h9;exact h9)) rfl (fun _ _=>?_)
 refine aS3 ?_
 refine X6 (fun w h=>(show HS _ _ [.blk b2 4 L.length ((XG QeS (fun _ _=>(0,0)) (List.replicate L.length false) (YI (pln L))).2.map Value.bool),.blk b3 102 1 [.slice (some ⟨b2,0,none⟩) L.length L.length],.blk b1 158 1 [.pointer (some ⟨bt,0,none⟩)]] w from h.ent aEt)) ?_
 refine aS8 ?_
 refine o_q (Qd rfl rfl QbS (ht 3 _ rfl)) rfl ?_
 refine aS4 ?_
 refine Qm (L':=[(1,_),(2,_),(3,_),(4,_),(25,_),(26,_),(27,_)]) aSx (fun _ h=>h) ?_
 refine Qx (α:=Nat) [2,3,5,6,27,28,29,30,31,32,33,34,35,36,37,38,39,40,41,42] (fun k=>[(27,.int .i64 (k : Int))]) (fun _=>HS w [] [.blk b2 4 L.length ((XG QeS (fun _ _=>(0,0)) (List.replicate L.length false) (YI (pln L))).2.map Value.bool),.blk b3 102 1 [.slice (some ⟨b2,0,none⟩) L.length L.length],.blk b1 158 1 [.pointer (some ⟨bt,0,none⟩)]]) (fun k=>k ≤ L.length ∧ Qaa (pln L) ((YI (pln L)).map Vis.i) L.length 0 = Qaa (pln L) ((YI (pln L)).map Vis.i) (L.length - k) k) (fun k=>L.length - k) 0 ⟨Nat.zero_le _,rfl⟩ aSx (fun w h=>h.ent aEt) (fun k hx=>?_)
 obtain ⟨hk1,hk2⟩:=hx
 refine aS5 ?_
 refine Qb rfl (fun h4=>?_) fun h4=>?_
 ·try simp only [dT] at h4
  have hkl : k < L.length:=by omega
  have hst:=Qg9 (ns:=pln L) (below:=(YI (pln L)).map Vis.i) (k:=k) (by rw [Qi];exact hkl)
  rw [Qi,Q3 hkl] at hst
  refine aS6 ?_
  refine o_p (Qc rfl rfl rfl XB (k) (by omega) (by omega) (Rw.some hs.1 (by omega))) rfl ?_
  refine o_q (QA _ rfl rfl Xz rfl (Rw.rd hs.1 hkl)) rfl ?_
  refine oAl (fun b5 _=>?_) XF
  refine aS ?_
  refine oSt ?_
  refine aS6 ?_
  refine Xn 6 34 40 _ _ rfl
   (by
    intro hg6
    have hs7:=hg6;skip
    refine oOn 34 hg6 ?_
    refine aS ?_
    refine oOn 34 hg6 ?_
    refine aS ?_
    refine oOn 34 hg6 ?_
    refine o_p (Qc rfl rfl rfl Qa4 (k) (by omega) (by omega) rfl) rfl ?_
    refine oOn 34 hg6 ?_
    refine o_q (QaD rfl rfl Qdl (fun w h=>by rw [Nat.zero_add,Nat.mul_one];exact h.rd_blk (Mc:=[]) (b:=b2) aPk (QpX (by rw [hmar.2.1];exact hkl)) (by simp))) rfl ?_
    refine oOn 34 hg6 ?_
    refine aS ?_
    refine o_p (Qg rfl rfl hg6 rfl) rfl ?_
    refine aS ?_
    exact oJn 6 40)
   (by
    intro hg8
    have hs9:=hg8;skip
    refine oOf 34 hg8 ?_
    refine oOf 34 hg8 ?_
    refine oOf 34 hg8 ?_
    refine oOf 34 hg8 ?_
    refine oOf 34 hg8 ?_
    refine o_p (Qf rfl rfl hg8 rfl) rfl ?_
    refine aS ?_
    exact oJn 6 40) ?_
  refine aS ?_
  refine Qb rfl (fun h10=>?_) fun h10=>?_
  ·try simp only [Bool.and_eq_true,Bool.not_eq_true'] at h10
   have hz : (nth L k).pl.us = true ∧ k ∉ (YI (pln L)).map Vis.i:=by have hq:=h10;rw [hbel k hkl] at hq;simp only [LNd.pl];simpa using hq
   refine aS6 ?_
   exact Qs (rs:=[.tmp 2,.tmp 3]) rfl (.tmp rfl (.tmp rfl (.nil))) (fun w' h'=>⟨by rw [Qdg (t:=(⟨(j : Int),mo,rm,pln L⟩ : Tre)) (i:=k) (show Qaa (pln L) _ (pln L).length 0 = some k from by rw [Qi,hk2,hst,if_pos hz])];rfl,h'.below⟩)
  try simp only [Bool.and_eq_false_iff,Bool.not_eq_false'] at h10
  have hz : ¬ ((nth L k).pl.us = true ∧ k ∉ (YI (pln L)).map Vis.i):=by have hq:=h10;rw [hbel k hkl] at hq;simp only [LNd.pl];intro h9;simp at hq h9;grind
  refine aS4 ?_
  try refine oWr ?_
  refine aS2 ?_
  exact Qu (k + 1) (by omega) ⟨by omega,by rw [hk2,hst,if_neg hz]⟩ aSx (fun w h=>h.ent aEt)
 try simp only [dN] at h4
 have hnone : Qaa (pln L) ((YI (pln L)).map Vis.i) L.length 0 = none:=by rw [hk2,show L.length - k = 0 by omega];rfl
 refine Qp rfl ?_
 refine aS2 ?_
 refine oAl (fun b11 _=>?_) QeW
 refine oSt ?_
 refine aS5 ?_
 refine o_h (Q0 (Cs:=[.blk b11 3 1 [.int .i64 0]]) rfl Qkl rfl aPs (fun w1 h1 hf=>by have h9:=Qk6 Int (fun _=>True) (fun s=>.blk b11 3 1 [.int .i64 s]) (stV (⟨(j : Int),mo,rm,pln L⟩ : Tre)) (erV (⟨(j : Int),mo,rm,pln L⟩ : Tre)) 237 #[.pointer (some ⟨b1,0,none⟩),.pointer (some ⟨b11,0,none⟩)] bt j mo rm a cap L L.length w1 0 QbX none none [] hf (by kernel_rfl) (fun _ _=>rfl) (fun _ _ _=>trivial) trivial (fun s2 v2 p2 p3 w2 h2 _ hi2 ha2 hb2 hp2 hp3=>c237 w2 v2 p2 p3 b1 b11 s2 bt j mo rm a cap L (HS.focus (Cs:=[_]) (Ds:=[]) h2) (h2.keep (h1.rd_blkF aPs (b:=b1) aPk rfl)) (((ht.keep h1).mono (Q6 aPs)).keep h2) (((hs.keep h1).mono (Q6 aPs)).keep h2) hj hmo hi2 hle (hes9 _ hi2) (hcs9 _ hi2) (hcs9 _ h0) (hes9 _ h0) hp2 hp3 ha2 hb2 (hok9 _ hi2)) ((ht.keep h1).mono (Q6 aPs)) ((hs.keep h1).mono (Q6 aPs)) hT hB rfl rfl h0 rfl (by simp) rfl (fun _ h=>by cases h) (fun _ h=>by cases h);rw [hvis,Gx.run_shape (t:=(⟨(j : Int),mo,rm,pln L⟩ : Tre)) hT (by show 0 < (pln L).length;rw [Qi];exact h0)] at h9;exact h9)) rfl (fun _ _=>?_)
 refine aS5 ?_
 exact Qs (rs:=[.tmp 2,.tmp 3]) rfl (.tmp rfl (.tmp rfl (.nil))) (fun w' h'=>⟨by rw [Qc3 (t:=(⟨(j : Int),mo,rm,pln L⟩ : Tre)) (show Qaa (pln L) _ (pln L).length 0 = none from by rw [Qi];exact hnone)];rfl,h'.below⟩)
end Go.Proofs
