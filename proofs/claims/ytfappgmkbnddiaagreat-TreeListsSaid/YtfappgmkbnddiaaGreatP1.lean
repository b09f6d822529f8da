/- Contracts of the program's functions, proved by walking them with the rules of the Gx texts; without conditions beyond those that each contract names. -/
import Derived.WalkKit
import Derived.Deep.Draws
import Derived.TacticsIn
import Derived.OrdersIn
import Derived.RangeFuncLeaves
import Derived.Lib.Strings
import Derived.Laws.BytesArg
import Derived.Laws.IdiomStrings
import Derived.Deep.Quiet
import Derived.ProofKit
import Derived.OpenShut
import Derived.Laws.StructEq
import Derived.ChangeKeysEq
import Derived.Laws.Externs
import Derived.Lib.Overlaps
import Derived.Carry
import Derived.Laws.Small
import Derived.Lib.Bytealg
import Derived.Test.YtfappgmkbnddiaaGreatProg
import Derived.KernelRfl
import Derived.Lib.Builder
import Derived.Laws.Pointers
import Derived.RangeFuncRecord
import Derived.Test.YtfappgmkbnddiaaGreatP0
namespace Gx
set_option linter.unusedSimpArgs false
set_option linter.unusedVariables false
open Go Go.RowKit
theorem u32wM (n : Int) : IntKind.u32.wrap n = n % 4294967296 := by simp [IntKind.wrap, IntKind.signed, IntKind.bits]
structure RowV (α : Type) where
  a : Option Addr
  c : Nat
  l : List α
instance {α : Type} : Inhabited (RowV α) := ⟨⟨none, 0, []⟩⟩
def RowV.v {α : Type} (r : RowV α) : Value := .slice r.a r.l.length r.c
theorem rv_get {α : Type} {rs : List (RowV α)} {k : Nat} (h : k < rs.length) : (rs.map RowV.v)[k]? = some (.slice (rs.getD k default).a (rs.getD k default).l.length (rs.getD k default).c) := by
  rw [List.getElem?_map, List.getElem?_eq_getElem h, List.getD_eq_getElem?_getD, List.getElem?_eq_getElem h]
  rfl
theorem rv_succ {α : Type} {rs : List (RowV α)} {k : Nat} (h : k < rs.length) : (rs.take (k + 1)).flatMap RowV.l = (rs.take k).flatMap RowV.l ++ (rs.getD k default).l := by
  rw [take_succ_getD (d := default) h, List.flatMap_append]
  simp
theorem rv_le {α : Type} (rs : List (RowV α)) (k : Nat) : ((rs.take k).flatMap RowV.l).length ≤ (rs.flatMap RowV.l).length := by
  conv => rhs; rw [← List.take_append_drop k rs, List.flatMap_append, List.length_append]
  omega
def litB : Nat → Int → List UInt8
  | 0, _ => []
  | k + 1, n => by8 n :: litB k (n / 256)
def headB (d : Dsc) : List UInt8 := [1, by8 (flagB d), by8 d.en.length, by8 d.au.length] ++ le4 d.ow ++ le4 d.gr
theorem bits_or32 (a b : Nat) (ha : a < 4294967296) (hb : b < 4294967296) : bits .or .u32 (a : Int) (b : Int) = ((a ||| b : Nat) : Int) := by
  change IntKind.u32.wrap (((BitVec.ofInt 32 (a : Int)) ||| (BitVec.ofInt 32 (b : Int)) : BitVec 32).toNat : Int) = _
  rw [BitVec.toNat_or, ofInt_nat 32 a ha, ofInt_nat 32 b hb, u32wM]
  have : a ||| b < 4294967296 := Nat.or_lt_two_pow (n := 32) ha hb
  omega
theorem or_add16 (a b : Nat) (h : a < 65536) : a ||| 65536 * b = a + 65536 * b := by
  have h := Nat.two_pow_add_eq_or_of_lt (i := 16) (b := a) (by omega) b
  have e256 : (2 : Nat) ^ 16 = 65536 := by decide
  rw [e256] at h
  rw [Nat.or_comm, ← h, Nat.add_comm]
theorem at1_le (s : List UInt8) (i : Nat) : 0 ≤ at1 s i ∧ at1 s i < 256 := by
  have := (s.getD i 0).toNat_lt
  unfold at1; omega
theorem at2_le (s : List UInt8) (i : Nat) : 0 ≤ at2 s i ∧ at2 s i < 65536 := by
  have := at1_le s i; have := at1_le s (i + 1)
  unfold at2; omega
theorem at4_le (s : List UInt8) (i : Nat) : 0 ≤ at4 s i ∧ at4 s i < 4294967296 := by
  have := at2_le s i; have := at2_le s (i + 2)
  unfold at4; omega
theorem at1_drop (s : List UInt8) (k i : Nat) : at1 (s.drop k) i = at1 s (k + i) := by
  unfold at1
  rw [List.getD_eq_getElem?_getD, List.getD_eq_getElem?_getD, List.getElem?_drop]
theorem at2_drop (s : List UInt8) (k i : Nat) : at2 (s.drop k) i = at2 s (k + i) := by unfold at2; rw [at1_drop, at1_drop, Nat.add_assoc]
theorem at4_drop (s : List UInt8) (k i : Nat) : at4 (s.drop k) i = at4 s (k + i) := by unfold at4; rw [at2_drop, at2_drop, Nat.add_assoc]
theorem g16_slot (s : List UInt8) (i : Nat) : Value.int .u16 (bits .or .u16 (IntKind.u16.wrap ((s.getD i 0).toNat : Int)) (IntKind.u16.wrap (IntKind.u16.wrap ((s.getD (i + 1) 0).toNat : Int) * 2 ^ 8))) = .int .u16 (at2 s i) := by
  have ha := (s.getD i 0).toNat_lt
  have hb := (s.getD (i + 1) 0).toNat_lt
  rw [w2_slot, wv, w2, UInt16.toNat_ofNat', Nat.mod_eq_of_lt (by omega)]
  unfold at2 at1
  congr 1
  omega
theorem g32_slot (X Y : Int) (hx : 0 ≤ X ∧ X < 65536) (hy : 0 ≤ Y ∧ Y < 65536) : Value.int .u32 (bits .or .u32 (IntKind.u32.wrap X) (IntKind.u32.wrap (IntKind.u32.wrap Y * 2 ^ 16))) = .int .u32 (X + Y * 65536) := by
  obtain ⟨a, rfl⟩ := Int.eq_ofNat_of_zero_le hx.1
  obtain ⟨b, rfl⟩ := Int.eq_ofNat_of_zero_le hy.1
  have e1 : IntKind.u32.wrap ((b : Nat) : Int) * 2 ^ 16 = ((65536 * b : Nat) : Int) := by
    rw [u32wM]; omega
  rw [e1, u32wM, u32wM, show (a : Int) % 4294967296 = (a : Nat) by omega, show ((65536 * b : Nat) : Int) % 4294967296 = ((65536 * b : Nat) : Int) by omega, bits_or32 _ _ (by omega) (by omega), or_add16 _ _ (by omega)]
  congr 1
  omega
def sStep (n : Int) (c : UInt8) : Int := (2 * n % 2147483648 + n / 1073741824 + (c.toNat : Int)) % 2147483648
def sumS (s : List UInt8) : Int := s.foldl sStep 0
def hStep' (h : Int) (c : UInt8) : Int := (h * 31 + (c.toNat : Int)) % 1000003
theorem subA_add {a : Option Addr} {b o cap k : Nat} (ha : a = some ⟨b, o, none⟩) (h : k < cap) : subA a cap k 1 = some ⟨b, o + k, none⟩ := by
  subst ha
  unfold subA
  rw [if_neg (by omega)]
  simp [addr_add]
theorem Vl.drop {w : World} {a : Option Addr} {vs : List Value} {cap k : Nat} (h : Vl w a vs) (hk : k < vs.length) (hc : k < cap) : Vl w (subA a cap k 1) (vs.drop k) := by
  obtain ⟨b, o, rfl, h2⟩ := h.at_ (by omega)
  refine ⟨fun hn => ⟨b, o + k, subA_add rfl hc, fun i hi => ?_⟩⟩
  rw [List.length_drop] at hi
  have h3 := h2 (k + i) (by omega)
  rw [List.getElem?_drop]
  refine ⟨h3.1, fun j v hv => ?_⟩
  have h4 := h3.2 j v hv
  rw [show o + k + i * 1 + j = o + (k + i) * 1 + j by omega]
  exact h4
def enK (s : List UInt8) (k : Nat) : List Ace := (List.range (min k (at1 s 2).toNat)).map fun i => aceOf s (12 + 8 * i)
def auK (s : List UInt8) (k : Nat) : List Ace := (List.range (k - (at1 s 2).toNat)).map fun i => aceOf s (12 + 8 * ((at1 s 2).toNat + i))
def litN (s : List UInt8) : Nat → Nat → Int
  | _, 0 => 0
  | a, k + 1 => at1 s a + 256 * litN s (a + 1) k
theorem litN_4 (s : List UInt8) (a : Nat) : litN s a 4 = at4 s a := by simp only [litN, at4, at2, show a + 1 + 1 = a + 2 from rfl]; omega
theorem litN_le (s : List UInt8) : ∀ (k a : Nat), 0 ≤ litN s a k ∧ litN s a k < 256 ^ k
  | 0, a => by simp [litN]
  | k + 1, a => by
    have h1 := litN_le s k (a + 1)
    have h2 := at1_le s a
    rw [litN, Int.pow_succ]
    generalize (256 : Int) ^ k = p at *
    omega
theorem litN_6 (s : List UInt8) (a : Nat) {k : Nat} (h : k ≤ 6) : 0 ≤ litN s a k ∧ litN s a k < 281474976710656 := by
  have h1 := litN_le s k a
  have h2 : ∀ k ≤ 6, (256 : Int) ^ k ≤ 281474976710656 := by decide
  have := h2 k h
  omega
end Gx
namespace Gx
open Go Go.RowKit
theorem aPk {As As' : List HA} {A : HA} (h : Pick As A As' := by repeat (first | exact .here | apply Pick.there)) : Pick As A As' := h
theorem aPt {As As' : List HA} {A B : HA} (h : Put As A B As' := by repeat (first | exact .here | apply Put.there)) : Put As A B As' := h
theorem aPs {As Cs Ds : List HA} (h : Picks As Cs Ds := by repeat (first | exact Picks.nil | (apply Picks.cons; · (repeat (first | exact .here | apply Pick.there))))) : Picks As Cs Ds := h
theorem aEt {As Bs : List HA} (h : Ent As Bs := by repeat (first | exact .nil | refine .cons (by repeat (first | exact .here | apply Pick.there)) ?_)) : Ent As Bs := h
theorem aSx {L L' : Slots} (h : subL L L' := by repeat (first | exact sl_n | refine sl_c rfl ?_)) : subL L L' := h
section
variable {X : Ctx} {ops : Array Oper} {F : List Nat} {fuel : Nat} {listed : Array Bool} {rest : List Oper} {k : List KI} {L : Slots} {d ty : Nat} {op : Op} {pos : String} {aft : Array Edge} {C B : World → Prop} {v : Value}
theorem oP (next : O X ops rest k ((d, v) :: L) C) (h : OpP X.P ⟨some d, op, ty, pos, aft, none⟩ L v := by exact p_pure rfl) (hd : Nat.blt d X.n = true := by rfl) : O X ops (⟨some d, op, ty, pos, aft, none⟩ :: rest) k L C := o_p h hd next
theorem dP (i : Nat) (next : D X ops F B fuel (listed.setIfInBounds i true) k ((d, v) :: L) C) (hi : ops[i]? = some ⟨some d, op, ty, pos, aft, none⟩ := by rfl) (h : OpP X.P ⟨some d, op, ty, pos, aft, none⟩ L v := by exact p_pure rfl) (hok : okFirst ops listed i = true := by kernel_rfl) (hF : F.all (fun f => !Nat.beq f i) = true := by rfl) (hd : Nat.blt d X.n = true := by rfl) : D X ops F B (fuel + 1) listed k L C := d_p i hi h hok hF hd next
end
end Gx
namespace Gx
set_option linter.unusedSimpArgs false
set_option linter.unusedVariables false
open Go Go.RowKit
abbrev KS (l : List UInt8) : Value := .string (bs l)
def nv (n : Int) : Value := .int .i64 n
def e0E (nx : Int) (l : List SItm) (i : Nat) : Int := if 256 ≤ (nth l i).id ∧ (nth l i).id ≤ nx - 1 then if i = 0 ∨ (nth l (i - 1)).id < (nth l i).id then 0 else 9 else 2
def e1E (nx : Int) (l : List SItm) (i : Nat) : Int := if e0E nx l i = 0 then decE (nth l i).by_ else e0E nx l i
def spreE (nx : Int) (l : List SItm) : Int := if 256 ≤ nx ∧ nx ≤ 2147483647 then if l.length ≤ 60 then 0 else 8 else 2
def byB (l : List SItm) (b : List UInt8) : List Bool := l.map fun x => decide (x.by_ = b)
def idB (l : List SItm) (n : Int) : List Bool := l.map fun x => decide (x.id = n)
def byK (l : List SItm) (b : List UInt8) : Nat := ixB (byB l b)
def idK (l : List SItm) (n : Int) : Nat := ixB (idB l n)
def addE (nx : Int) (l : List SItm) (d : Dsc) : Int := if (stoE nx l).2 = 0 then (dscE d).2 else (stoE nx l).2
structure AddR where
  nx : Int
  l : List SItm
  id : Int
  e : Int
def addR (nx : Int) (l : List SItm) (b : List UInt8) : AddR :=
  if byK l b < l.length then ⟨nx, l, (nth l (byK l b)).id, 0⟩
  else if (l ++ [SItm.mk nx b]).length > 60 ∨ (plsI (l ++ [SItm.mk nx b])).2 > 8192 ∨ nx = 2147483647 then ⟨0, [], 0, 16⟩ else ⟨nx + 1, l ++ [SItm.mk nx b], nx, 0⟩
def addT (nx : Int) (l : List SItm) (d : Dsc) : AddR := if addE nx l d = 0 then addR nx l (encD d) else ⟨0, [], 0, addE nx l d⟩
def idtT (nx : Int) (l : List SItm) (d : Dsc) : Int × Int := if addE nx l d = 0 then if byK l (encD d) < l.length then ((nth l (byK l (encD d))).id, 0) else (0, 6) else (0, addE nx l d)
theorem ixB_le : ∀ (l : List Bool), ixB l ≤ l.length := by
  intro l
  induction l with
  | nil => exact Nat.le_refl _
  | cons b l ih =>
    cases b with
    | false => show ixB l + 1 ≤ l.length + 1; omega
    | true => exact Nat.zero_le _
theorem ixB_true : ∀ {l : List Bool}, ixB l < l.length → l.getD (ixB l) false = true
  | [], h => absurd h (Nat.not_lt_zero _)
  | true :: l, h => rfl
  | false :: l, h => by
    have h1 : ixB (false :: l) = ixB l + 1 := rfl
    rw [h1] at h ⊢
    exact ixB_true (l := l) (by simpa using h)
theorem ixB_false : ∀ {l : List Bool} {i : Nat}, i < ixB l → l.getD i false = false
  | [], i, h => absurd h (Nat.not_lt_zero _)
  | true :: l, i, h => absurd h (Nat.not_lt_zero _)
  | false :: l, 0, h => rfl
  | false :: l, i + 1, h => by
    have h1 : ixB (false :: l) = ixB l + 1 := rfl
    rw [h1] at h
    exact ixB_false (l := l) (by omega)
def idC (l : List SItm) (n : Int) : List Int := l.map fun x => x.id - n
def dofT (nx : Int) (l : List SItm) (n : Int) : Dsc × Int :=
  if (stoE nx l).2 = 0 then if 256 ≤ n ∧ n ≤ 2147483647 then if idK l n < l.length then (decD (nth l (idK l n)).by_, decE (nth l (idK l n)).by_) else (noD, 6) else (noD, 6) else (noD, (stoE nx l).2)
def hasB (u : List Int) (n : Int) : List Bool := u.map fun x => decide (n = x)
def mx0 (n : Int) : Int := if n < 0 then 0 else n
def usedAt (l : List SItm) (u : List Int) (i : Nat) : Int := if idK l (u.getD i 0) < l.length then if i = 0 ∨ u.getD (i - 1) 0 < u.getD i 0 then 0 else 9 else 6
def usedEs (l : List SItm) (u : List Int) : List Int := (List.range u.length).map (usedAt l u)
def usedE (l : List SItm) (u : List Int) : Int := (eachF (usedEs l u) 0).2
def colE (nx : Int) (l : List SItm) (u : List Int) : Int := if (stoE nx l).2 = 0 then usedE l u else (stoE nx l).2
def keptL (u : List Int) (l : List SItm) : List SItm := l.filter fun x => decide (x.id ∈ u)
def goneL (u : List Int) (l : List SItm) : List Int := (l.filter fun x => !decide (x.id ∈ u)).map SItm.id
structure ColR where
  nx : Int
  l : List SItm
  g : List Int
def colT (nx : Int) (l : List SItm) (u : List Int) : ColR := if colE nx l u = 0 then ⟨nx, keptL u l, goneL u l⟩ else ⟨0, [], []⟩
def cntS (n : Nat) : Bool := !(decide (14 < n) && decide (n ≤ 60) || decide (62 < n))
def fewS (l : List SItm) : Bool := cntS l.length && l.all fun x => decide (x.by_.length ≤ 300)
def fewD (d : Dsc) : Bool := decide (d.en.length ≤ 20) && decide (d.au.length ≤ 20)
end Gx
namespace Gx
set_option linter.unusedSimpArgs false
set_option linter.unusedVariables false
set_option linter.unusedSectionVars false
open Go Go.RowKit
structure TEnt where
  key : List UInt8
  val : List UInt8
deriving DecidableEq, Inhabited
structure Nd where
  us : Bool
  es : List TEnt
  cs : List Int
deriving DecidableEq, Inhabited
structure Tre where
  co : Int
  mo : Int
  rm : Int
  ns : List Nd
deriving DecidableEq, Inhabited
structure LNd where
  us : Bool
  ea : Option Addr
  ec : Nat
  es : List TEnt
  ca : Option Addr
  cc : Nat
  cs : List Int
deriving Inhabited
def LNd.pl (n : LNd) : Nd := ⟨n.us, n.es, n.cs⟩
abbrev pln (L : List LNd) : List Nd := L.map LNd.pl
def TEnt.vals (x : TEnt) : List Value := [.string (bs x.key), .string (bs x.val)]
def inV (x : Int) : List Value := [.int .i64 x]
def LNd.vals (n : LNd) : List Value := [.bool n.us, .slice n.ea n.es.length n.ec, .slice n.ca n.cs.length n.cc]
theorem ev2 (x : TEnt) : x.vals.length = 2 := rfl
theorem iv1 (x : Int) : (inV x).length = 1 := rfl
theorem nv3 (n : LNd) : n.vals.length = 3 := rfl
theorem ev1 (x : TEnt) : ∀ u ∈ x.vals, u.oneCell' = true := by
  intro u hu
  simp only [TEnt.vals, List.mem_cons, List.mem_nil_iff, or_false] at hu
  rcases hu with rfl | rfl <;> rfl
theorem iv1c (x : Int) : ∀ u ∈ inV x, u.oneCell' = true := by
  intro u hu
  simp only [inV, List.mem_cons, List.mem_nil_iff, or_false] at hu
  subst hu
  rfl
theorem nv1 (n : LNd) : ∀ u ∈ n.vals, u.oneCell' = true := by
  intro u hu
  simp only [LNd.vals, List.mem_cons, List.mem_nil_iff, or_false] at hu
  rcases hu with rfl | rfl | rfl <;> rfl
def Nt (w : World) (M : List Nat) (a : Option Addr) (L : List LNd) : Prop := Rw LNd.vals 3 w M a L ∧ ∀ n ∈ L, Rw TEnt.vals 2 w M n.ea n.es ∧ Rw inV 1 w M n.ca n.cs
section
variable {w w' : World} {M M' : List Nat} {As : List HA} {a : Option Addr} {L : List LNd}
theorem Nt.later (h : Nt w M a L) (hs : HS w M As w') : Nt w' [] a L := ⟨Rw.later h.1 hs, fun n hn => ⟨(h.2 n hn).1.later hs, (h.2 n hn).2.later hs⟩⟩
theorem Nt.keep (h : Nt w M a L) (hs : HS w M As w') : Nt w' (fps As) a L := ⟨Rw.keep h.1 hs, fun n hn => ⟨(h.2 n hn).1.keep hs, (h.2 n hn).2.keep hs⟩⟩
theorem Nt.mono (h : Nt w M a L) (hM : ∀ b ∈ M', b ∈ M) : Nt w M' a L := ⟨Rw.mono h.1 hM, fun n hn => ⟨(h.2 n hn).1.mono hM, (h.2 n hn).2.mono hM⟩⟩
theorem Nt.es (h : Nt w M a L) {k : Nat} (hk : k < L.length) : Rw TEnt.vals 2 w M (nth L k).ea (nth L k).es := (h.2 _ (mem_nth hk)).1
theorem Nt.cs (h : Nt w M a L) {k : Nat} (hk : k < L.length) : Rw inV 1 w M (nth L k).ca (nth L k).cs := (h.2 _ (mem_nth hk)).2
end
def HA.ents (et : Nat) (a : Option Addr) (cap : Nat) (l : List TEnt) : HA := .own (.slice a l.length cap) et 2 l.length (l.flatMap TEnt.vals)
def HA.kids (a : Option Addr) (cap : Nat) (l : List Int) : HA := .own (.slice a l.length cap) 3 1 l.length (l.flatMap inV)
def subN (et : Nat) (n : LNd) : HA := .star [.ents et n.ea n.ec n.es, .kids n.ca n.cc n.cs]
def HA.nodes (et nt : Nat) (a : Option Addr) (cap : Nat) (L : List LNd) : HA := .row nt 3 LNd.vals (subN et) a cap L
section
variable {w0 w : World} {M : List Nat} {As As' : List HA} {a : Option Addr} {cap et nt' : Nat} {L : List LNd}
theorem HS.nt (h : HS w0 M As w) (hp : Pick As (.nodes et nt' a cap L) As') : Nt w [] a L := by
  have h1 := HS.row_open (h.pick hp)
  refine ⟨h1.rw_own nv3 .here rfl, fun n hn => ?_⟩
  obtain ⟨i, hi, e⟩ := List.getElem_of_mem hn
  have e2 : nth L i = n := nth_eq (by rw [List.getElem?_eq_getElem hi, e])
  have h2 := h1.tail.sub_open hi
  rw [e2] at h2
  have h3 := HS.star_open h2
  exact ⟨h3.rw_own ev2 .here rfl, h3.rw_own iv1 (.there .here) rfl⟩
end
def cmpB : List UInt8 → List UInt8 → Int
  | [], [] => 0
  | [], _ :: _ => -1
  | _ :: _, [] => 1
  | a :: x, b :: y => if a < b then -1 else if b < a then 1 else cmpB x y
theorem u8_lt_asymm {a b : UInt8} (h : a < b) : ¬ b < a := fun h2 => by
  rw [UInt8.lt_iff_toNat_lt] at h h2
  omega
theorem cmpB_swap : ∀ a b, cmpB b a = - cmpB a b
  | [], [] => rfl
  | [], _ :: _ => rfl
  | _ :: _, [] => rfl
  | a :: x, b :: y => by
    unfold cmpB
    by_cases h : a < b
    · rw [if_neg (u8_lt_asymm h), if_pos h, if_pos h]
      rfl
    · by_cases h2 : b < a
      · rw [if_pos h2, if_neg h, if_pos h2]
      · rw [if_neg h, if_neg h2, if_neg h2, if_neg h]
        exact cmpB_swap x y
theorem cmpB_eq : ∀ {a b}, cmpB a b = 0 ↔ a = b
  | [], [] => by simp [cmpB]
  | [], _ :: _ => by simp [cmpB]
  | _ :: _, [] => by simp [cmpB]
  | a :: x, b :: y => by
    unfold cmpB
    by_cases h : a < b
    · rw [if_pos h]
      have : a ≠ b := fun e => by
        subst e
        rw [UInt8.lt_iff_toNat_lt] at h
        omega
      simp [this]
    · by_cases h2 : b < a
      · rw [if_neg h, if_pos h2]
        have : a ≠ b := fun e => by
          subst e
          rw [UInt8.lt_iff_toNat_lt] at h2
          omega
        simp [this]
      · rw [if_neg h, if_neg h2, cmpB_eq]
        have : a = b := by
          rw [UInt8.lt_iff_toNat_lt] at h h2
          exact UInt8.toNat_inj.1 (by omega)
        simp [this]
theorem cmpB_trans : ∀ {a b c}, cmpB a b < 0 → cmpB b c < 0 → cmpB a c < 0
  | [], [], _, h, _ => by simp [cmpB] at h
  | _ :: _, [], _, h, _ => by simp [cmpB] at h
  | [], _ :: _, [], _, h => by simp [cmpB] at h
  | [], _ :: _, _ :: _, _, _ => by simp [cmpB]
  | _ :: _, _ :: _, [], _, h => by simp [cmpB] at h
  | a :: x, b :: y, c :: z, h, h2 => by
    unfold cmpB at h h2 ⊢
    by_cases e : a < b
    · by_cases e2 : c < b
      · rw [if_neg (u8_lt_asymm e2), if_pos e2] at h2
        omega
      · rw [if_pos (by
          rw [UInt8.lt_iff_toNat_lt] at e e2 ⊢
          omega)]
        decide
    · rw [if_neg e] at h
      by_cases e3 : b < a
      · rw [if_pos e3] at h
        omega
      · rw [if_neg e3] at h
        have hab : a = b := by
          rw [UInt8.lt_iff_toNat_lt] at e e3
          exact UInt8.toNat_inj.1 (by omega)
        subst hab
        by_cases e4 : a < c
        · rw [if_pos e4]; decide
        · rw [if_neg e4] at h2 ⊢
          by_cases e5 : c < a
          · rw [if_pos e5] at h2
            omega
          · rw [if_neg e5] at h2 ⊢
            exact cmpB_trans h h2
def capB (c : UInt8) : UInt8 := if 97 ≤ c ∧ c ≤ 122 then c - 32 else c
def sgnI (a b : Int) : Int := if a < b then -1 else if b < a then 1 else 0
def cmpK (co : Int) (a b : List UInt8) : Int :=
  if co = 2 then sgnI (at4 a 0) (at4 b 0)
  else if co = 3 then if sgnI (at4 a 0) (at4 b 0) ≠ 0 then sgnI (at4 a 0) (at4 b 0) else sgnI (at4 a 4) (at4 b 4)
  else if co = 1 then cmpB (a.map capB) (b.map capB) else cmpB a b
def numOk (s : List UInt8) (p : Nat) : Bool := decide (at4 s p ≤ 2147483647)
def keyOk (co : Int) (k : List UInt8) : Bool :=
  if co = 0 then decide (1 ≤ k.length ∧ k.length ≤ 40)
  else if co = 1 then decide (1 ≤ k.length ∧ k.length ≤ 32)
  else if co = 2 then decide (k.length = 4) && numOk k 0
  else decide (k.length = 8) && (numOk k 0 && numOk k 4)
def keyE (co : Int) (k : List UInt8) : Int := if keyOk co k then 0 else 3
def entE (co : Int) (x : TEnt) : Int := if keyE co x.key = 0 then if x.val.length ≤ 64 then 0 else 8 else 3
def colE12 (co : Int) : Int := if 0 ≤ co ∧ co ≤ 3 then 0 else 15
def sizE (mo rm : Int) : Int := if (3 ≤ mo ∧ mo ≤ 8) ∧ (mo / 2 ≤ rm ∧ rm ≤ mo) then 0 else 2
def big4 (s : List UInt8) (p : Nat) : List UInt8 := [s.getD (p + 3) 0, s.getD (p + 2) 0, s.getD (p + 1) 0, s.getD p 0]
def imgK (co : Int) (k : List UInt8) : List UInt8 := if co = 2 then big4 k 0 else if co = 3 then big4 k 0 ++ big4 k 4 else if co = 1 then k.map capB else k
theorem cmp_big (a b : List UInt8) (p : Nat) (x y : List UInt8) : cmpB (big4 a p ++ x) (big4 b p ++ y) = if sgnI (at4 a p) (at4 b p) ≠ 0 then sgnI (at4 a p) (at4 b p) else cmpB x y := by
  have h : ∀ (s : List UInt8) i, (s.getD i 0).toNat < 256 := fun s i => UInt8.toNat_lt _
  have a0 := h a p; have a1 := h a (p + 1); have a2 := h a (p + 2); have a3 := h a (p + 3)
  have b0 := h b p; have b1 := h b (p + 1); have b2 := h b (p + 2); have b3 := h b (p + 3)
  unfold big4
  simp only [List.cons_append, List.nil_append, cmpB, sgnI, at4, at2, at1, UInt8.lt_iff_toNat_lt, Nat.add_assoc, Nat.reduceAdd]
  generalize (a.getD p 0).toNat = A0 at *
  generalize (a.getD (p + 1) 0).toNat = A1 at *
  generalize (a.getD (p + 2) 0).toNat = A2 at *
  generalize (a.getD (p + 3) 0).toNat = A3 at *
  generalize (b.getD p 0).toNat = B0 at *
  generalize (b.getD (p + 1) 0).toNat = B1 at *
  generalize (b.getD (p + 2) 0).toNat = B2 at *
  generalize (b.getD (p + 3) 0).toNat = B3 at *
  split <;> (try (split <;> (try (split <;> (try (split <;> (try (split <;> (try (split <;> (try (split <;> (try (split)))))))))))))) <;> first | rfl | omega | (simp_all; omega) | (exfalso; omega)
theorem cmpK_img (co : Int) (a b : List UInt8) : cmpK co a b = cmpB (imgK co a) (imgK co b) := by
  unfold cmpK imgK
  split
  · have h := cmp_big a b 0 [] []
    rw [List.append_nil, List.append_nil] at h
    rw [h]
    split
    · rfl
    · rename_i h2
      rw [show cmpB ([] : List UInt8) [] = 0 from rfl]
      omega
  · split
    · rw [cmp_big]
      congr 1
      have h := cmp_big a b 4 [] []
      rw [List.append_nil, List.append_nil] at h
      rw [h]
      split
      · rfl
      · rename_i h2
        rw [show cmpB ([] : List UInt8) [] = 0 from rfl]
        omega
    · split <;> rfl
theorem cmpK_swap (co : Int) (a b : List UInt8) : cmpK co b a = - cmpK co a b := by rw [cmpK_img, cmpK_img]; exact cmpB_swap _ _
theorem cmpK_eq {co : Int} {a b : List UInt8} : cmpK co a b = 0 ↔ imgK co a = imgK co b := by rw [cmpK_img]; exact cmpB_eq
theorem cmpK_trans {co : Int} {a b c : List UInt8} (h : cmpK co a b < 0) (h2 : cmpK co b c < 0) : cmpK co a c < 0 := by rw [cmpK_img] at h h2 ⊢; exact cmpB_trans h h2
def Asc (co : Int) (es : List TEnt) : Prop := ∀ k, k + 1 < es.length → cmpK co (nth es k).key (nth es (k + 1)).key < 0
theorem Asc.lt {co : Int} {es : List TEnt} (h : Asc co es) : ∀ {i j : Nat}, i < j → j < es.length → cmpK co (nth es i).key (nth es j).key < 0
  | i, 0, hij, _ => absurd hij (Nat.not_lt_zero _)
  | i, j + 1, hij, hj => by
    rcases Nat.lt_or_ge i j with h1 | h1
    · exact cmpK_trans (Asc.lt h h1 (by omega)) (h j hj)
    · obtain rfl : i = j := by omega
      exact h i hj
def cmpsK (co : Int) (es : List TEnt) (key : List UInt8) : List Int := es.map fun x => cmpK co x.key key
theorem cmpsK_len (co : Int) (es : List TEnt) (key : List UInt8) : (cmpsK co es key).length = es.length := by simp [cmpsK]
theorem cmpsK_get {co : Int} {es : List TEnt} {key : List UInt8} {i : Nat} (h : i < es.length) : (cmpsK co es key).getD i 0 = cmpK co (nth es i).key key := by
  unfold cmpsK
  rw [getD_map (d := default) h]
  rfl
def plc (co : Int) : List TEnt → List UInt8 → Nat
  | [], _ => 0
  | x :: es, key => if cmpK co x.key key < 0 then plc co es key + 1 else 0
def fnd (co : Int) (es : List TEnt) (key : List UInt8) : Bool := decide (plc co es key < es.length) && decide (cmpK co (nth es (plc co es key)).key key = 0)
theorem plc_le (co : Int) (key : List UInt8) : ∀ es, plc co es key ≤ es.length
  | [] => Nat.le_refl _
  | x :: es => by
    unfold plc
    split
    · have := plc_le co key es
      simp only [List.length_cons]
      omega
    · exact Nat.zero_le _
theorem nth_succ' {α : Type} [Inhabited α] (x : α) (l : List α) (i : Nat) : nth (x :: l) (i + 1) = nth l i := rfl
theorem plc_before (co : Int) (key : List UInt8) : ∀ es i, i < plc co es key → cmpK co (nth es i).key key < 0
  | [], i, h => absurd h (Nat.not_lt_zero _)
  | x :: es, i, h => by
    unfold plc at h
    split at h
    · rename_i h1
      cases i with
      | zero => exact h1
      | succ i =>
        rw [nth_succ']
        exact plc_before co key es i (by omega)
    · exact absurd h (Nat.not_lt_zero _)
theorem plc_at (co : Int) (key : List UInt8) : ∀ es, plc co es key < es.length → ¬ cmpK co (nth es (plc co es key)).key key < 0
  | [], h => absurd h (Nat.not_lt_zero _)
  | x :: es, h => by
    unfold plc at h ⊢
    split at h
    · rename_i h1
      rw [if_pos h1, nth_succ']
      exact plc_at co key es (by simpa using h)
    · rename_i h1
      rw [if_neg h1]
      exact h1
theorem plc_after {co : Int} {es : List TEnt} (hs : Asc co es) {key : List UInt8} {i : Nat} (h : plc co es key ≤ i) (hi : i < es.length) : ¬ cmpK co (nth es i).key key < 0 := by
  have h1 := plc_at co key es (by omega)
  rcases Nat.lt_or_ge (plc co es key) i with h2 | h2
  · intro h3
    exact h1 (cmpK_trans (hs.lt h2 hi) h3)
  · obtain rfl : i = plc co es key := by omega
    exact h1
theorem plc_bs {co : Int} {es : List TEnt} (hs : Asc co es) (key : List UInt8) : bsL (cmpsK co es key) = plc co es key := by
  refine bsL_spec (by rw [cmpsK_len]; exact plc_le co key es) (fun i hi => ?_) (fun i h1 h2 => ?_)
  · rw [cmpsK_get (by have := plc_le co key es; omega)]
    exact plc_before co key es i hi
  · rw [cmpsK_len] at h2
    rw [cmpsK_get h2]
    exact plc_after hs h1 h2
theorem fnd_bs {co : Int} {es : List TEnt} (hs : Asc co es) (key : List UInt8) : bsF' (cmpsK co es key) = fnd co es key := by
  unfold bsF' fnd
  rw [plc_bs hs, cmpsK_len]
  by_cases h : plc co es key < es.length
  · rw [cmpsK_get h]
  · simp [h]
def ordE (co : Int) (es : List TEnt) (k : Nat) : Int := if k = 0 ∨ cmpK co (nth es (k - 1)).key (nth es k).key < 0 then 0 else 9
def ordsE (co : Int) (es : List TEnt) : Int := (eachF ((List.range es.length).map (ordE co es)) 0).2
theorem ords_asc {co : Int} {es : List TEnt} (h : ordsE co es = 0) : Asc co es := fun k hk => by
  unfold ordsE at h
  have h1 := eachF_0.1 h (ordE co es (k + 1)) (List.mem_map.2 ⟨k + 1, List.mem_range.2 hk, rfl⟩)
  unfold ordE at h1
  split at h1
  · rename_i h2
    rcases h2 with h2 | h2
    · cases h2
    · exact h2
  · exact absurd h1 (by decide)
def kidsE (ns : List Nd) : List Int → List Int → Int × List Int
  | [], seen => (0, seen)
  | c :: cs, seen => if (1 ≤ c ∧ c ≤ (ns.length : Int) - 1) ∧ (nth ns c.toNat).us = true then if c ∈ seen then (23, c :: seen) else kidsE ns cs (c :: seen) else (6, seen)
def entsE (co : Int) (es : List TEnt) : Int := (eachF (es.map (entE co)) 0).2
def mostN (mo rm : Int) (i : Nat) : Int := if i = 0 then rm else mo
def nodE (t : Tre) (i : Nat) (seen : List Int) : Int × List Int :=
  let n := nth t.ns i
  if n.us = true then
    if (n.es.length : Int) ≤ mostN t.mo t.rm i then
      if n.cs.length = 0 ∨ n.cs.length = n.es.length + 1 then
        if entsE t.co n.es = 0 then
          if (kidsE t.ns n.cs seen).1 = 0 then (ordsE t.co n.es, (kidsE t.ns n.cs seen).2) else kidsE t.ns n.cs seen
        else (entsE t.co n.es, seen)
      else (10, seen)
    else (16, seen)
  else if (0 < i ∧ i + 1 < t.ns.length) ∧ n.es.length + n.cs.length = 0 then (0, seen) else (3, seen)
def nodsE (t : Tre) : Nat → Nat → List Int → Int × Int
  | 0, _, _ => (0, 0)
  | f + 1, i, seen => if (nodE t i seen).1 = 0 then nodsE t f (i + 1) (nodE t i seen).2 else ((i : Int), (nodE t i seen).1)
structure Vis where
  i : Nat
  d : Int
  lo : Option (List UInt8)
  hi : Option (List UInt8)
deriving Inhabited
def loK (es : List TEnt) (k : Nat) (lo : Option (List UInt8)) : Option (List UInt8) := if 0 < k then some (nth es (k - 1)).key else lo
def hiK (es : List TEnt) (k : Nat) (hi : Option (List UInt8)) : Option (List UInt8) := if k < es.length then some (nth es k).key else hi
def vis (ns : List Nd) : Nat → Vis → List Vis
  | 0, _ => []
  | f + 1, v => v :: (List.range (nth ns v.i).cs.length).flatMap fun k => vis ns f ⟨((nth ns v.i).cs.getD k 0).toNat, v.d + 1, loK (nth ns v.i).es k v.lo, hiK (nth ns v.i).es k v.hi⟩
def root0 : Vis := ⟨0, 1, none, none⟩
def visT (ns : List Nd) : List Vis := vis ns ns.length root0
def deepT (ns : List Nd) : Nat → Nat → Int
  | 0, _ => 0
  | f + 1, i => if (nth ns i).cs.length = 0 then 0 else deepT ns f ((nth ns i).cs.getD 0 0).toNat + 1
def visE (t : Tre) (deep : Int) (v : Vis) : Int :=
  let n := nth t.ns v.i
  if 0 < v.i ∧ ((n.es.length : Int) < t.mo / 2 ∨ ((nth t.ns 0).es.length = 0 ∧ (v.i : Int) ∈ (nth t.ns 0).cs) ∧ (n.es.length : Int) ≤ t.rm) then 14
  else if (n.es.any fun x => (v.lo.any fun b => decide (0 ≤ cmpK t.co b x.key)) || (v.hi.any fun b => decide (0 ≤ cmpK t.co x.key b))) = true then 9
  else if n.cs.length = 0 ∧ v.d ≠ deep + 1 then 22 else 0
def opnF (ns : List Nd) (below : List Nat) : Nat → Nat → Option Nat
  | 0, _ => none
  | f + 1, i => if (nth ns i).us = true ∧ i ∉ below then some i else opnF ns below f (i + 1)
def shpF (t : Tre) (deep : Int) : List Vis → Int × Int
  | [] => (0, 0)
  | v :: vs => if visE t deep v = 0 then shpF t deep vs else ((v.i : Int), visE t deep v)
def treE (t : Tre) : Int × Int :=
  if colE12 t.co = 0 then
    if sizE t.mo t.rm = 0 then
      if 0 < t.ns.length then
        if t.ns.length ≤ 120 then
          if (nodsE t t.ns.length 0 []).2 = 0 then
            match opnF t.ns ((visT t.ns).map Vis.i) t.ns.length 0 with
            | some i => ((i : Int), 21)
            | none => shpF t (deepT t.ns t.ns.length 0) (visT t.ns)
          else nodsE t t.ns.length 0 []
        else (0, 8)
      else (0, 10)
    else (0, 2)
  else (0, 15)
structure TOk (co : Int) (ns : List Nd) : Prop where
  kid : ∀ i, i < ns.length → ∀ c ∈ (nth ns i).cs, (1 ≤ c ∧ c ≤ (ns.length : Int) - 1) ∧ (nth ns c.toNat).us = true
  once : (ns.flatMap Nd.cs).Nodup
  shape : ∀ i, i < ns.length → (nth ns i).cs.length = 0 ∨ (nth ns i).cs.length = (nth ns i).es.length + 1
  free : ∀ i, i < ns.length → (nth ns i).us = false → (0 < i ∧ i + 1 < ns.length) ∧ (nth ns i).es = [] ∧ (nth ns i).cs = []
  asc : ∀ i, i < ns.length → Asc co (nth ns i).es
  ents : ∀ i, i < ns.length → ∀ x ∈ (nth ns i).es, entE co x = 0
theorem kidsE_ok {ns : List Nd} : ∀ {cs seen : List Int}, (kidsE ns cs seen).1 = 0 → (∀ c ∈ cs, (1 ≤ c ∧ c ≤ (ns.length : Int) - 1) ∧ (nth ns c.toNat).us = true) ∧ (kidsE ns cs seen).2 = cs.reverse ++ seen ∧ (seen.Nodup → (cs.reverse ++ seen).Nodup)
  | [], seen, _ => ⟨fun c hc => (nomatch hc), rfl, fun h => h⟩
  | c :: cs, seen, h => by
    unfold kidsE at h ⊢
    split at h
    · rename_i h1
      split at h
      · cases h
      · rename_i h2
        rw [if_pos h1, if_neg h2]
        obtain ⟨h3, h4, h5⟩ := kidsE_ok h
        refine ⟨fun x hx => ?_, ?_, fun hs => ?_⟩
        · rcases List.mem_cons.1 hx with rfl | hx
          · exact h1
          · exact h3 x hx
        · rw [h4, List.reverse_cons, List.append_assoc]
          rfl
        · have := h5 (List.nodup_cons.2 ⟨h2, hs⟩)
          rw [List.reverse_cons, List.append_assoc]
          exact this
    · cases h
theorem nodE_ok {t : Tre} {i : Nat} {seen : List Int} (h : (nodE t i seen).1 = 0) :
    ((nth t.ns i).us = true → (∀ c ∈ (nth t.ns i).cs, (1 ≤ c ∧ c ≤ (t.ns.length : Int) - 1) ∧ (nth t.ns c.toNat).us = true) ∧ ((nth t.ns i).es.length : Int) ≤ mostN t.mo t.rm i ∧ ((nth t.ns i).cs.length = 0 ∨ (nth t.ns i).cs.length = (nth t.ns i).es.length + 1) ∧ entsE t.co (nth t.ns i).es = 0 ∧ ordsE t.co (nth t.ns i).es = 0) ∧
    ((nth t.ns i).us = false → (0 < i ∧ i + 1 < t.ns.length) ∧ (nth t.ns i).es = [] ∧ (nth t.ns i).cs = []) ∧
    (nodE t i seen).2 = (nth t.ns i).cs.reverse ++ seen ∧ (seen.Nodup → ((nth t.ns i).cs.reverse ++ seen).Nodup) := by
  unfold nodE at h ⊢
  simp only [] at h ⊢
  split at h
  · rename_i hu
    split at h
    · rename_i h1
      split at h
      · rename_i h2
        split at h
        · rename_i h3
          split at h
          · rename_i h4
            obtain ⟨k1, k2, k3⟩ := kidsE_ok h4
            rw [if_pos hu, if_pos h1, if_pos h2, if_pos h3, if_pos h4]
            exact ⟨fun _ => ⟨k1, h1, h2, h3, h⟩, fun hf => absurd (hu.symm.trans hf) (by decide), k2, k3⟩
          · rename_i h4
            exact absurd h h4
        · rename_i h3
          exact absurd h h3
      · cases h
    · cases h
  · rename_i hu
    split at h
    · rename_i h1
      obtain ⟨h2, h3⟩ := h1
      have e1 : (nth t.ns i).es = [] := List.eq_nil_of_length_eq_zero (by omega)
      have e2 : (nth t.ns i).cs = [] := List.eq_nil_of_length_eq_zero (by omega)
      rw [if_neg hu, if_pos ⟨h2, h3⟩, e2]
      exact ⟨fun h9 => absurd h9 hu, fun _ => ⟨h2, e1, rfl⟩, rfl, fun h9 => h9⟩
    · cases h
theorem nodsE_ok {t : Tre} : ∀ {f i : Nat} {seen : List Int}, i + f = t.ns.length → (nodsE t f i seen).2 = 0 → seen.Nodup → (∀ j, i ≤ j → j < t.ns.length → ∃ s, (nodE t j s).1 = 0) ∧ ((seen.reverse ++ (t.ns.drop i).flatMap Nd.cs)).Nodup
  | 0, i, seen, hi, h, hs => by
    refine ⟨fun j h1 h2 => absurd h2 (by omega), ?_⟩
    rw [List.drop_of_length_le (by omega), List.flatMap_nil, List.append_nil]
    exact (List.reverse_perm seen).nodup_iff.2 hs
  | f + 1, i, seen, hi, h, hs => by
    unfold nodsE at h
    split at h
    · rename_i h1
      obtain ⟨h2, h3, h4, h5⟩ := nodE_ok h1
      obtain ⟨h6, h7⟩ := nodsE_ok (f := f) (i := i + 1) (by omega) h (by rw [h4]; exact h5 hs)
      refine ⟨fun j hj1 hj2 => ?_, ?_⟩
      · rcases Nat.lt_or_ge i j with h8 | h8
        · exact h6 j h8 hj2
        · obtain rfl : i = j := by omega
          exact ⟨seen, h1⟩
      · rw [h4, List.reverse_append, List.reverse_reverse, List.append_assoc] at h7
        rw [List.drop_eq_getElem_cons (show i < t.ns.length by omega), List.flatMap_cons]
        have e : t.ns[i] = nth t.ns i := (nth_eq (List.getElem?_eq_getElem (by omega))).symm
        rw [e]
        exact h7
    · rename_i h1
      exact absurd h h1
theorem ents_ok {co : Int} {es : List TEnt} (h : entsE co es = 0) : ∀ x ∈ es, entE co x = 0 := fun x hx => eachF_0.1 h _ (List.mem_map.2 ⟨x, hx, rfl⟩)
theorem tok_of {t : Tre} (h : (nodsE t t.ns.length 0 []).2 = 0) : TOk t.co t.ns := by
  obtain ⟨h1, h2⟩ := nodsE_ok (f := t.ns.length) (i := 0) (by omega) h List.nodup_nil
  have key := fun i (hi : i < t.ns.length) => nodE_ok (h1 i (Nat.zero_le _) hi).choose_spec
  have hF : ∀ i, i < t.ns.length → (nth t.ns i).us = false → (0 < i ∧ i + 1 < t.ns.length) ∧ (nth t.ns i).es = [] ∧ (nth t.ns i).cs = [] := fun i hi => (key i hi).2.1
  refine ⟨fun i hi c hc => ?_, by simpa using h2, fun i hi => ?_, hF, fun i hi => ?_, fun i hi x hx => ?_⟩
  · cases e : (nth t.ns i).us with
    | true => exact ((key i hi).1 e).1 c hc
    | false => rw [(hF i hi e).2.2] at hc; cases hc
  · cases e : (nth t.ns i).us with
    | true => exact ((key i hi).1 e).2.2.1
    | false => exact Or.inl (by rw [(hF i hi e).2.2]; rfl)
  · cases e : (nth t.ns i).us with
    | true => exact ords_asc ((key i hi).1 e).2.2.2.2
    | false =>
      rw [(hF i hi e).2.1]
      intro k hk
      exact absurd hk (Nat.not_lt_zero _)
  · cases e : (nth t.ns i).us with
    | true => exact ents_ok ((key i hi).1 e).2.2.2.1 x hx
    | false => rw [(hF i hi e).2.1] at hx; cases hx
theorem nodup_mid {α : Type} : ∀ {A B : List α} {x : α}, (A ++ B).Nodup → x ∈ A → x ∈ B → False := fun h h1 h2 => (List.nodup_append.1 h).2.2 _ h1 _ h2 rfl
theorem flat_parent {α β : Type} [Inhabited α] {f : α → List β} : ∀ {l : List α}, (l.flatMap f).Nodup → ∀ {i j : Nat} {c : β}, i < l.length → j < l.length → c ∈ f (nth l i) → c ∈ f (nth l j) → i = j
  | [], _, i, j, c, hi, _, _, _ => absurd hi (Nat.not_lt_zero _)
  | x :: l, h, i, j, c, hi, hj, h1, h2 => by
    rw [List.flatMap_cons] at h
    have hm : ∀ k, k < l.length → c ∈ f (nth l k) → c ∈ l.flatMap f := fun k hk hc => List.mem_flatMap.2 ⟨_, mem_nth hk, hc⟩
    cases i with
    | zero =>
      cases j with
      | zero => rfl
      | succ j => exact (nodup_mid h h1 (hm j (by simpa using hj) h2)).elim
    | succ i =>
      cases j with
      | zero => exact (nodup_mid h h2 (hm i (by simpa using hi) h1)).elim
      | succ j => rw [flat_parent (List.nodup_append.1 h).2.1 (by simpa using hi) (by simpa using hj) h1 h2]
theorem flat_nodup {α β : Type} [Inhabited α] {f : α → List β} : ∀ {l : List α}, (l.flatMap f).Nodup → ∀ {i : Nat}, i < l.length → (f (nth l i)).Nodup
  | [], _, i, hi => absurd hi (Nat.not_lt_zero _)
  | x :: l, h, i, hi => by
    rw [List.flatMap_cons] at h
    cases i with
    | zero => exact (List.nodup_append.1 h).1
    | succ i => exact flat_nodup (List.nodup_append.1 h).2.1 (by simpa using hi)
def Way (ns : List Nd) : List Nat → Prop
  | [] => False
  | [r] => r = 0
  | c :: p :: P => ((c : Int) ∈ (nth ns p).cs ∧ p < ns.length) ∧ Way ns (p :: P)
theorem way_lt {co : Int} {ns : List Nd} (ht : TOk co ns) (h0 : 0 < ns.length) : ∀ {P : List Nat}, Way ns P → ∀ x ∈ P, x < ns.length
  | [], h, _, _ => h.elim
  | [r], h, x, hx => by
    rw [List.mem_singleton.1 hx, show r = 0 from h]
    exact h0
  | c :: p :: P, h, x, hx => by
    rcases List.mem_cons.1 hx with rfl | hx
    · have := (ht.kid p h.1.2 _ h.1.1).1
      omega
    · exact way_lt ht h0 h.2 x hx
theorem way_par {ns : List Nd} : ∀ {P : List Nat}, Way ns P → ∀ j, j + 1 < P.length → ((nth P j : Nat) : Int) ∈ (nth ns (nth P (j + 1))).cs ∧ nth P (j + 1) < ns.length
  | [], h, _, _ => h.elim
  | [r], h, j, hj => absurd hj (by simp)
  | c :: p :: P, h, 0, hj => h.1
  | c :: p :: P, h, j + 1, hj => way_par h.2 j (by simpa using hj)
theorem way_last {ns : List Nd} : ∀ {P : List Nat}, Way ns P → nth P (P.length - 1) = 0
  | [], h => h.elim
  | [r], h => h
  | c :: p :: P, h => by
    have h1 := way_last h.2
    show nth (p :: P) P.length = 0
    exact h1
theorem way_nodup {co : Int} {ns : List Nd} (ht : TOk co ns) : ∀ {P : List Nat}, Way ns P → P.Nodup
  | [], h => h.elim
  | [r], h => by simp
  | c :: p :: P, h => by
    have h1 := way_nodup ht h.2
    refine List.nodup_cons.2 ⟨fun hc => ?_, h1⟩
    obtain ⟨j, hj, e⟩ := List.getElem_of_mem hc
    have e2 : nth (p :: P) j = c := nth_eq (by rw [List.getElem?_eq_getElem hj, e])
    have hk := ht.kid p h.1.2 _ h.1.1
    rcases Nat.lt_or_ge (j + 1) (p :: P).length with h2 | h2
    · have h3 := way_par h.2 j h2
      rw [e2] at h3
      have h4 := flat_parent ht.once h.1.2 h3.2 h.1.1 h3.1
      have h5 : (p :: P)[0]? = (p :: P)[j + 1]? := by
        rw [nth_get h2, ← h4]
        rfl
      have := (List.getElem?_inj (by simp) h1).1 h5
      omega
    · have h3 := way_last h.2
      rw [show (p :: P).length - 1 = j by omega, e2] at h3
      omega
theorem nodup_le : ∀ (n : Nat) (l : List Nat), l.Nodup → (∀ x ∈ l, x < n) → l.length ≤ n
  | 0, l, _, h => by
    cases l with
    | nil => exact Nat.le_refl _
    | cons x l => exact absurd (h x (List.mem_cons_self ..)) (Nat.not_lt_zero _)
  | n + 1, l, hd, h => by
    have h1 := nodup_le n (l.erase n) (hd.erase n) (fun x hx => by
      have h2 := (hd.mem_erase_iff).1 hx
      have := h x h2.2
      omega)
    have h2 := List.length_erase_le (a := n) (l := l)
    rw [List.length_erase] at h1
    split at h1 <;> omega
theorem way_len {co : Int} {ns : List Nd} (ht : TOk co ns) (h0 : 0 < ns.length) {P : List Nat} (h : Way ns P) : P.length ≤ ns.length := nodup_le _ _ (way_nodup ht h) (way_lt ht h0 h)
end Gx
namespace Gx
set_option linter.unusedSimpArgs false
set_option linter.unusedVariables false
open Go Go.RowKit
theorem cmpB_lib : ∀ a b, Lib.compareBytes a b = cmpB a b
  | [], [] => rfl
  | [], _ :: _ => rfl
  | _ :: _, [] => rfl
  | a :: x, b :: y => by
    unfold Lib.compareBytes cmpB
    rw [cmpB_lib x y]
section
variable {P : Program} {o : Oper} {L : Slots}
def isCS (P : Program) (f : FuncId) : Prop := ∃ fn, P.funcs[f]? = some fn ∧ (fn.name == "runtime.NumGoroutine") = false ∧ fn.body.isNone = true ∧ Extern.findNext fn = none ∧ Extern.find fn = some Extern.BytealgCompare.compare
theorem q_cmpString {f : FuncId} {x y : Operand} {a b : List UInt8} {at' : Array TypeId} {C : World → Prop} (ho : o.op = .call { callee := .value (.func f), args := #[x, y], argTypes := at' }) (hx : ev L x = some (.string (bs a))) (hy : ev L y = some (.string (bs b))) (hf : isCS P f) : OpQ P o L C (.int .i64 (cmpB a b)) := by
  intro ρ w hρ hw
  obtain ⟨fn, h1, h2, h3, h4, h5⟩ := hf
  have hcall := run_callFunc_extern h1 h2 h3 h4 h5 #[.string (bs a), .string (bs b)] w
  rw [Lib.run_compareString, bs_data, bs_data, cmpB_lib] at hcall
  have : (execOp ρ o).run P w = .ok (.value (.int .i64 (cmpB a b))) w := by
    unfold execOp
    simp only [ho, resolve, Sem.run_bind, hρ (.func f) _ rfl, Deferred.ofValue, Sem.run_pure, Result.andThen_ok, invoke, List.map_toArray, List.map_cons, List.map_nil, hρ _ _ hx, hρ _ _ hy, Array.empty_append, Array.append_empty, hcall]
  rw [this]
  exact ⟨rfl, Below.refl _ _⟩
end
end Gx
namespace Gx
open Go Go.RowKit
class TFd (P : Program) (t f : Nat) (off ft : outParam Nat) : Prop where h : tfd P t f = some (off, ft)
class TSz (P : Program) (t : Nat) (n : outParam Nat) (ag : outParam Bool) : Prop where h : tsz P t = some (n, ag)
class TSe (P : Program) (t : Nat) (e : outParam Nat) : Prop where h : P.underlying t = some (.slice e)
section
variable {X : Ctx} {ops : Array Oper} {rest : List Oper} {k : List KI} {L : Slots} {d ty : Nat} {pos : String} {aft : Array Edge} {C : World → Prop}
theorem oFa {st f x b i off ft sz : Nat} {ag : Bool} [h1 : TFd X.P st f off ft] [h2 : TSz X.P ft sz ag] (next : O X ops rest k ((d, .pointer (some ⟨b, i + off, none⟩)) :: L) C) (hx : Slots.get L x = some (.pointer (some ⟨b, i, none⟩)) := by rfl) (hs : Nat.blt 0 sz = true := by rfl) (hd : Nat.blt d X.n = true := by rfl) :
    O X ops (⟨some d, .fieldAddr st (.tmp x) f, ty, pos, aft, none⟩ :: rest) k L C := o_p (p_fieldAddr rfl hx h1.h h2.h hs) hd next
theorem oLs {t e x n cap : Nat} {a : Option Addr} [h1 : TSe X.P t e] (next : O X ops rest k ((d, .int .i64 n) :: L) C) (hx : Slots.get L x = some (.slice a n cap) := by rfl) (hd : Nat.blt d X.n = true := by rfl) :
    O X ops (⟨some d, .call { callee := .builtin .len, args := #[.tmp x], argTypes := #[t] }, ty, pos, aft, none⟩ :: rest) k L C := o_p (p_len_slice (x := .tmp x) rfl hx h1.h) hd next
theorem oLd {w0 : World} {M : List Nat} {As As' : List HA} {t x b tot i : Nat} {bt : TypeId} {cs : List Value} {v : Value} [h1 : TSz X.P t 1 false] (next : O X ops rest k ((d, v) :: L) (HS w0 M As)) (hx : Slots.get L x = some (.pointer (some ⟨b, i, none⟩)) := by rfl) (hp : Pick As (.blk b bt tot cs) As' := by repeat (first | exact .here | apply Pick.there)) (hv : cs[i]? = some v := by rfl) (hd : Nat.blt d X.n = true := by rfl) :
    O X ops (⟨some d, .load t (.tmp x), ty, pos, aft, none⟩ :: rest) k L (HS w0 M As) := o_q (q_load rfl hx h1.h hp hv) hd next
theorem oLn {w0 : World} {M : List Nat} {As As' : List HA} {t x b tot i n : Nat} {bt : TypeId} {cs : List Value} [h1 : TSz X.P t n true] (next : O X ops rest k ((d, .agg (cut cs i n).toArray) :: L) (HS w0 M As)) (hx : Slots.get L x = some (.pointer (some ⟨b, i, none⟩)) := by rfl) (hp : Pick As (.blk b bt tot cs) As' := by repeat (first | exact .here | apply Pick.there)) (hl : Nat.ble (i + n) cs.length = true := by rfl) (hd : Nat.blt d X.n = true := by rfl) :
    O X ops (⟨some d, .load t (.tmp x), ty, pos, aft, none⟩ :: rest) k L (HS w0 M As) := o_q (q_loadn rfl hx h1.h hp hl) hd next
theorem oOf {j : Nat} {want b : Bool} {op : Op} (dj : Nat) (hb : b = !want) (next : O X ops rest k ((d, undef) :: L) C) (hj : (ops[j]?).bind (·.dst) = some dj := by rfl) (hs : Slots.get L dj = some (.bool b) := by rfl) (hd : Nat.blt d X.n = true := by rfl) : O X ops (⟨some d, op, ty, pos, aft, some (j, want)⟩ :: rest) k L C := o_off dj b hj hs hb hd next
theorem oOn {j : Nat} {want b : Bool} {op : Op} {dst : Option Nat} (dj : Nat) (hb : b = want) (next : O X ops (⟨dst, op, ty, pos, aft, none⟩ :: rest) k L C) (hj : (ops[j]?).bind (·.dst) = some dj := by rfl) (hs : Slots.get L dj = some (.bool b) := by rfl) : O X ops (⟨dst, op, ty, pos, aft, some (j, want)⟩ :: rest) k L C := o_on dj b hj hs hb next
end
section
variable {X : Ctx} {ops : Array Oper} {F : List Nat} {fuel : Nat} {listed : Array Bool} {k : List KI} {L : Slots} {d ty : Nat} {pos : String} {aft : Array Edge} {C B : World → Prop} {w0 : World} {M : List Nat} {As As' Bs : List HA}
theorem dFa (i : Nat) {st f x b o off ft sz : Nat} {ag : Bool} (next : D X ops F B fuel (listed.setIfInBounds i true) k ((d, .pointer (some ⟨b, o + off, none⟩)) :: L) C) (hi : ops[i]? = some ⟨some d, .fieldAddr st (.tmp x) f, ty, pos, aft, none⟩ := by rfl) (hx : Slots.get L x = some (.pointer (some ⟨b, o, none⟩)) := by rfl) (h1 : TFd X.P st f off ft := by infer_instance) (h2 : TSz X.P ft sz ag := by infer_instance) (hs : Nat.blt 0 sz = true := by rfl) (hok : okFirst ops listed i = true := by kernel_rfl) (hF : F.all (fun f => !Nat.beq f i) = true := by rfl) (hd : Nat.blt d X.n = true := by rfl) : D X ops F B (fuel + 1) listed k L C := d_p i hi (p_fieldAddr rfl hx h1.h h2.h hs) hok hF hd next
theorem dFo {j : Nat} {want c : Bool} (i dj : Nat) {st f x b o off ft sz : Nat} {ag : Bool} (hw : c = want) (next : D X ops F B fuel (listed.setIfInBounds i true) k ((d, .pointer (some ⟨b, o + off, none⟩)) :: L) C) (hi : ops[i]? = some ⟨some d, .fieldAddr st (.tmp x) f, ty, pos, aft, some (j, want)⟩ := by rfl) (hj : (ops[j]?).bind (·.dst) = some dj := by rfl) (hb : Slots.get L dj = some (.bool c) := by rfl) (hx : Slots.get L x = some (.pointer (some ⟨b, o, none⟩)) := by rfl) (h1 : TFd X.P st f off ft := by infer_instance) (h2 : TSz X.P ft sz ag := by infer_instance) (hs : Nat.blt 0 sz = true := by rfl) (hok : okFirst ops listed i = true := by kernel_rfl) (hF : F.all (fun f => !Nat.beq f i) = true := by rfl) (hd : Nat.blt d X.n = true := by rfl) : D X ops F B (fuel + 1) listed k L C := d_pon i dj hi hj hb hw (p_fieldAddr rfl hx h1.h h2.h hs) hok hF hd next
theorem dPo {j : Nat} {want c : Bool} {op : Op} {v : Value} (i dj : Nat) (hw : c = want) (next : D X ops F B fuel (listed.setIfInBounds i true) k ((d, v) :: L) C) (hi : ops[i]? = some ⟨some d, op, ty, pos, aft, some (j, want)⟩ := by rfl) (hj : (ops[j]?).bind (·.dst) = some dj := by rfl) (hb : Slots.get L dj = some (.bool c) := by rfl) (h : OpP X.P ⟨some d, op, ty, pos, aft, none⟩ L v := by exact p_pure rfl) (hok : okFirst ops listed i = true := by kernel_rfl) (hF : F.all (fun f => !Nat.beq f i) = true := by rfl) (hd : Nat.blt d X.n = true := by rfl) : D X ops F B (fuel + 1) listed k L C := d_pon i dj hi hj hb hw h hok hF hd next
theorem dOf {j : Nat} {want c : Bool} {op : Op} (i dj : Nat) (hw : c = !want) (next : D X ops F B fuel (listed.setIfInBounds i true) k ((d, undef) :: L) C) (hi : ops[i]? = some ⟨some d, op, ty, pos, aft, some (j, want)⟩ := by rfl) (hj : (ops[j]?).bind (·.dst) = some dj := by rfl) (hb : Slots.get L dj = some (.bool c) := by rfl) (hok : okFirst ops listed i = true := by kernel_rfl) (hF : F.all (fun f => !Nat.beq f i) = true := by rfl) (hd : Nat.blt d X.n = true := by rfl) : D X ops F B (fuel + 1) listed k L C := d_off i dj hi hj hb hw hok hF hd next
theorem dOu {j : Nat} {want : Bool} {op : Op} (i dj : Nat) (next : D X ops F B fuel (listed.setIfInBounds i true) k ((d, undef) :: L) C) (hi : ops[i]? = some ⟨some d, op, ty, pos, aft, some (j, want)⟩ := by rfl) (hj : (ops[j]?).bind (·.dst) = some dj := by rfl) (hb : Slots.get L dj = some undef := by rfl) (hok : okFirst ops listed i = true := by kernel_rfl) (hF : F.all (fun f => !Nat.beq f i) = true := by rfl) (hd : Nat.blt d X.n = true := by rfl) : D X ops F B (fuel + 1) listed k L C := d_offU i dj hi hj hb hok hF hd next
theorem dNi (next : S X k L (HS w0 M As)) (hB : ∀ w, HS w0 M As w → B w := by (intro w h; first | exact h | exact h.ent aEt)) (hr : (Region.ready .any ops listed == []) = true := by kernel_rfl) : D X ops F B 0 listed k L (HS w0 M As) := d_nil hr hB next
theorem dBa (next : D X ops F (HS w0 M As) fuel listed k L (HS w0 M As)) (hB : ∀ w, HS w0 M As w → B w := by (intro w h; exact h.ent aEt)) : D X ops F B fuel listed k L (HS w0 M As) := d_base hB next
theorem dLd (i : Nat) (ps : List (List Nat)) {t x b tot o : Nat} {bt : TypeId} {cs : List Value} {v : Value} (next : D X ops F (HS w0 M Bs) fuel (listed.setIfInBounds i true) k ((d, v) :: L) C) (hi : ops[i]? = some ⟨some d, .load t (.tmp x), ty, pos, aft, none⟩ := by rfl) (hx : Slots.get L x = some (.pointer (some ⟨b, o, none⟩)) := by rfl) (h1 : TSz X.P t 1 false := by infer_instance) (hp : Pick Bs (.blk b bt tot cs) As' := by repeat (first | exact .here | apply Pick.there)) (hv : cs[o]? = some v := by rfl) (hok : okFirst ops listed i = true := by kernel_rfl) (hF : waitsAll ops F i ps = true := by kernel_rfl) (hn : noneOf F listed = true := by kernel_rfl) (hd : Nat.blt d X.n = true := by rfl) : D X ops F (HS w0 M Bs) (fuel + 1) listed k L C := d_q i ps hi (q_load rfl hx h1.h hp hv) hok hF hn hd next
theorem dLn (i : Nat) (ps : List (List Nat)) {t x b tot o n : Nat} {bt : TypeId} {cs : List Value} (next : D X ops F (HS w0 M Bs) fuel (listed.setIfInBounds i true) k ((d, .agg (cut cs o n).toArray) :: L) C) (hi : ops[i]? = some ⟨some d, .load t (.tmp x), ty, pos, aft, none⟩ := by rfl) (hx : Slots.get L x = some (.pointer (some ⟨b, o, none⟩)) := by rfl) (h1 : TSz X.P t n true := by infer_instance) (hp : Pick Bs (.blk b bt tot cs) As' := by repeat (first | exact .here | apply Pick.there)) (hl : Nat.ble (o + n) cs.length = true := by rfl) (hok : okFirst ops listed i = true := by kernel_rfl) (hF : waitsAll ops F i ps = true := by kernel_rfl) (hn : noneOf F listed = true := by kernel_rfl) (hd : Nat.blt d X.n = true := by rfl) : D X ops F (HS w0 M Bs) (fuel + 1) listed k L C := d_q i ps hi (q_loadn rfl hx h1.h hp hl) hok hF hn hd next
end
section
variable {X : Ctx} {ops : Array Oper} {F : List Nat} {fuel : Nat} {listed : Array Bool} {rest : List Oper} {k : List KI} {L : Slots} {d ty : Nat} {pos : String} {aft : Array Edge} {w0 : World} {M : List Nat} {As As' : List HA}
theorem oSt {t x b tot i n : Nat} {y : Operand} {bt : TypeId} {ag : Bool} {cs : List Value} {v : Value} [hs : TSz X.P t n ag] (next : O X ops rest k L (HS w0 M As')) (hx : Slots.get L x = some (.pointer (some ⟨b, i, none⟩)) := by rfl) (hy : ev L y = some v := by rfl) (hn : v.cells.toList.length = n := by rfl)
    (hp : Put As (.blk b bt tot cs) (.blk b bt tot (setMany cs i v.cells.toList)) As' := by repeat (first | exact .here | apply Put.there)) (hl : i + n ≤ cs.length := by (simp only [setMany_length, List.length_set, List.length_cons, List.length_nil, List.length_map]; omega)) (h1 : v.cells.toList.all (·.oneCell') = true := by rfl) :
    O X ops (⟨none, .store t (.tmp x) y, ty, pos, aft, none⟩ :: rest) k L (HS w0 M As) := o_h0 (h_store rfl hx hy hs.h hn hp hl h1) fun _ _ => next
theorem oAl {t : TypeId} {z : List Value} (next : ∀ b, True → O X ops rest k ((d, .pointer (some ⟨b, 0, none⟩)) :: L) (HS w0 M (.blk b t z.length z :: As))) (hz : tzero X.P t = some z) (hd : Nat.blt d X.n = true := by rfl) : O X ops (⟨some d, .alloc t, ty, pos, aft, none⟩ :: rest) k L (HS w0 M As) := o_h (h_alloc rfl hz) hd next
theorem oBx {t : TypeId} {x : Operand} {v : Value} (next : ∀ b, True → O X ops rest k ((d, .pointer (some ⟨b, 0, none⟩)) :: L) (HS w0 M (.blk b t v.cells.toList.length v.cells.toList :: As))) (hx : ev L x = some v := by rfl) (hd : Nat.blt d X.n = true := by rfl) : O X ops (⟨some d, .box t x, ty, pos, aft, none⟩ :: rest) k L (HS w0 M As) := o_h (h_box rfl hx) hd next
theorem oWr {v : Int} {C : World → Prop} (next : O X ops rest k ((d, .int .i64 v) :: L) C) (h1 : -9223372036854775808 ≤ v := by omega) (h2 : v ≤ 9223372036854775807 := by omega) : O X ops rest k ((d, .int .i64 (IntKind.i64.wrap v)) :: L) C := o_slot (i64w h1 h2) next
theorem dWr {v : Int} {C B : World → Prop} (next : D X ops F B fuel listed k ((d, .int .i64 v) :: L) C) (h1 : -9223372036854775808 ≤ v := by omega) (h2 : v ≤ 9223372036854775807 := by omega) : D X ops F B fuel listed k ((d, .int .i64 (IntKind.i64.wrap v)) :: L) C := d_slot (i64w h1 h2) next
theorem oJn {X : Ctx} {k : List KI} {L : Slots} {LJ : Unit → Slots} {C : World → Prop} {CJ : Unit → World → Prop} (m dp : Nat) {v : Value} (hJ : LJ () = (dp, v) :: L.drop m := by exact rfl) (hv : Slots.get L dp = some v := by exact rfl) (hf : freshL L m = true := by exact rfl) (hC : ∀ w, C w → CJ () w := by (intro w h; first | exact h | exact h.ent aEt)) : S X (.join (At X.n X.df LJ CJ) :: k) L C := s_joinN m dp v hJ hv hf hC
theorem dSt {B : World → Prop} (i : Nat) {t x b tot o n : Nat} {y : Operand} {bt : TypeId} {ag : Bool} {cs : List Value} {v : Value} (next : D X ops F B fuel (listed.setIfInBounds i true) k L (HS w0 M As')) (hi : ops[i]? = some ⟨none, .store t (.tmp x) y, ty, pos, aft, none⟩ := by rfl) (hx : Slots.get L x = some (.pointer (some ⟨b, o, none⟩)) := by rfl) (hy : ev L y = some v := by rfl) (hs : TSz X.P t n ag := by infer_instance) (hn : v.cells.toList.length = n := by rfl)
    (hp : Put As (.blk b bt tot cs) (.blk b bt tot (setMany cs o v.cells.toList)) As' := by repeat (first | exact .here | apply Put.there)) (hl : o + n ≤ cs.length) (h1 : v.cells.toList.all (·.oneCell') = true := by rfl) (hr : (Region.ready .any ops listed == [i]) = true := by kernel_rfl) (hB : ∀ w, HS w0 M As w → B w := by (intro w h; exact h.ent aEt)) :
    D X ops F B (fuel + 1) listed k L (HS w0 M As) := d_h0 i hi (h_store rfl hx hy hs.h hn hp hl h1) hr hB fun _ _ => next
theorem dTu {B : World → Prop} (F' : List Nat) (next : D X ops F' (HS w0 M As) fuel listed k L (HS w0 M As)) (hf : F.any (fun f => listed.getD f false) = true := by kernel_rfl) : D X ops F B fuel listed k L (HS w0 M As) := d_turn F' hf next
end
theorem aS {p q : Prop} (hq : q) (h : q → p := by (intro hq; first | refine s_seq ?_ | refine s_region ?_ | refine o_nil ?_ | refine s_skip ?_ | refine s_block ?_ | refine s_blk ?_ | refine oP ?_ | refine oFa ?_ | refine oLs ?_ | refine oLd ?_ | refine oLn ?_); exact hq) : p := h hq
end Gx
namespace Go.Proofs
open Go Go.RowKit Gx
instance : TSe Tryz.prog 22 102 := ⟨Tryz.underlying22⟩
instance : TSe Tryz.prog 30 3 := ⟨Tryz.underlying30⟩
instance : TSe Tryz.prog 77 26 := ⟨Tryz.underlying77⟩
instance : TSe Tryz.prog 150 5 := ⟨Tryz.underlying150⟩
instance : TSe Tryz.prog 165 31 := ⟨Tryz.underlying165⟩
instance : TSe Tryz.prog 199 77 := ⟨Tryz.underlying199⟩
instance : TSe Tryz.prog 200 30 := ⟨Tryz.underlying200⟩
end Go.Proofs
namespace Go.Proofs
open Go Go.RowKit Gx
set_option linter.unusedVariables false
set_option linter.unusedSimpArgs false
attribute [local irreducible] Go.Calls Gx.S Gx.O Gx.D Gx.OpP Gx.OpQ Gx.OpH
set_option maxRecDepth 20000
theorem sl_165 : tsl Tryz.prog 165 = some (31, 1, 8) := by kernel_rfl
theorem sz_31 : tsz Tryz.prog 31 = some (1, false) := by kernel_rfl
theorem fn_93 : isFn Tryz.prog 93 = true := by kernel_rfl
theorem fn_81 : isFn Tryz.prog 81 = true := by kernel_rfl
theorem fn_74 : isFn Tryz.prog 74 = true := by kernel_rfl
theorem zr_31 : tzero Tryz.prog 31 = some [.int .i64 0] := by kernel_rfl
theorem fn_75 : isFn Tryz.prog 75 = true := by kernel_rfl
theorem fn_46 : isFn Tryz.prog 46 = true := by kernel_rfl
theorem c93 (w : World) (n lo hi : Int) : Calls Tryz.prog 93 #[.int .i64 n, .int .i64 lo, .int .i64 hi] w fun en w' => en = .returned (.bool (decide (lo ≤ n) && decide (n ≤ hi))) ∧ Below w.heap.size w w' := by
 refine enter (args := [_, _, _]) Tryz.func93 Tryz.ntmps93 rfl rfl (HS.refl w []) ?_
 iterate 10 refine aS ?_
 refine o_and 4 10 14 _ _ rfl
  (by
   intro hg1
   have hs2 := hg1; try simp only [decide_eq_true_eq] at hs2
   refine oOn 10 hg1 ?_
   refine aS ?_
   refine oOn 10 hg1 ?_
   refine aS ?_
   refine oOn 10 hg1 ?_
   refine aS ?_
   refine o_p (p_pickt rfl rfl hg1 rfl) rfl ?_
   refine aS ?_
   exact oJn 4 14)
  (by
   intro hg3
   have hs4 := hg3; try simp only [decide_eq_false_iff_not] at hs4
   refine oOf 10 hg3 ?_
   refine oOf 10 hg3 ?_
   refine oOf 10 hg3 ?_
   refine o_p (p_pickf rfl rfl hg3 rfl) rfl ?_
   refine aS ?_
   exact oJn 4 14) ?_
 iterate 2 refine aS ?_
 exact s_retv (rs := [.tmp 6]) rfl (.tmp rfl (.nil)) (fun w' h' => ⟨rfl, h'.below⟩)
theorem c46 (w : World) (n lo hi : Int) : Calls Tryz.prog 46 #[.int .i64 n, .int .i64 lo, .int .i64 hi] w fun en w' => en = .returned (.bool (decide (lo ≤ n) && decide (n ≤ hi))) ∧ Below w.heap.size w w' := by
 refine enter (args := [_, _, _]) Tryz.func46 Tryz.ntmps46 rfl rfl (HS.refl w []) ?_
 iterate 10 refine aS ?_
 refine o_and 4 10 14 _ _ rfl
  (by
   intro hg1
   have hs2 := hg1; try simp only [decide_eq_true_eq] at hs2
   refine oOn 10 hg1 ?_
   refine aS ?_
   refine oOn 10 hg1 ?_
   refine aS ?_
   refine oOn 10 hg1 ?_
   refine aS ?_
   refine o_p (p_pickt rfl rfl hg1 rfl) rfl ?_
   refine aS ?_
   exact oJn 4 14)
  (by
   intro hg3
   have hs4 := hg3; try simp only [decide_eq_false_iff_not] at hs4
   refine oOf 10 hg3 ?_
   refine oOf 10 hg3 ?_
   refine oOf 10 hg3 ?_
   refine o_p (p_pickf rfl rfl hg3 rfl) rfl ?_
   refine aS ?_
   exact oJn 4 14) ?_
 iterate 2 refine aS ?_
 exact s_retv (rs := [.tmp 6]) rfl (.tmp rfl (.nil)) (fun w' h' => ⟨rfl, h'.below⟩)
theorem c81 (w : World) (ok : Bool) (e : Int) : Calls Tryz.prog 81 #[.bool ok, .int .i64 e] w fun en w' => en = .returned (.int .i64 (cond ok 0 e)) ∧ Below w.heap.size w w' := by
 refine enter (args := [_, _]) Tryz.func81 Tryz.ntmps81 rfl rfl (HS.refl w []) ?_
 iterate 9 refine aS ?_
 refine s_cond rfl (fun h1 => ?_) fun h1 => ?_
 ·skip
  iterate 4 refine aS ?_
  exact s_retv (rs := [.tmp 4]) rfl (.tmp rfl (.nil)) (fun w' h' => ⟨by simp_all [retV], h'.below⟩)
 skip
 iterate 6 refine aS ?_
 exact s_retv (rs := [.tmp 4]) rfl (.tmp rfl (.nil)) (fun w' h' => ⟨by simp_all [retV], h'.below⟩)
theorem c75 (w : World) (a : Option Addr) (cap : Nat) (es : List Int) (hs : Sl w [] a 1 es.length (fun i => [.int .i64 (es.getD i 0)])) (hm : es.length ≤ 1000) : Calls Tryz.prog 75 #[.slice a es.length cap] w fun en w' => en = .returned (.int .i64 (firstI es)) ∧ Below w.heap.size w w' := by
 refine enter (args := [_]) Tryz.func75 Tryz.ntmps75 rfl rfl (HS.refl w []) ?_
 iterate 12 refine aS ?_
 refine s_loopI (α := Nat) [2, 4, 7, 8, 9, 10, 11, 12, 13, 14] (fun k => [(7, .int .i64 (k : Int))]) (fun _ => _) (fun k => k ≤ es.length ∧ firstI es = firstI (es.drop k)) (fun k => es.length - k) 0 ⟨by omega, rfl⟩ aSx (fun w h => h) (fun k hk => ?_)
 obtain ⟨hk1, hk2⟩ := hk
 iterate 5 refine aS ?_
 refine s_cond rfl (fun h1 => ?_) fun h1 => ?_
 ·try simp only [decide_eq_true_eq] at h1
  iterate 5 refine aS ?_
  refine o_p (p_indexAddr rfl rfl rfl sl_165 _ rfl (by omega) (hs.some (by omega))) rfl ?_
  refine o_q (q_load_old rfl rfl sz_31 (hs.rd (i := k) (j := 0) (by omega) rfl)) rfl ?_
  iterate 7 refine aS ?_
  refine s_cond rfl (fun h2 => ?_) fun h2 => ?_
  ·try simp only [Bool.not_eq_true', decide_eq_false_iff_not] at h2
   iterate 5 refine aS ?_
   exact s_retv (rs := [.tmp 2]) rfl (.tmp rfl (.nil)) (fun w' h' => ⟨by simp only [retV]; rw [hk2, firstI_drop (by omega), if_neg (by assumption)], h'.below⟩)
  try simp only [Bool.not_eq_false', decide_eq_true_eq] at h2
  iterate 4 refine aS ?_
  try refine oWr ?_
  iterate 2 refine aS ?_
  exact s_backI (k+1) (by omega) ⟨by omega, by rw [hk2, firstI_drop (by omega), if_pos (by assumption)]⟩ aSx (fun w h => h)
 try simp only [decide_eq_false_iff_not] at h1
 refine s_exit_to rfl ?_
 iterate 4 refine aS ?_
 exact s_retv (rs := [.tmp 2]) rfl (.tmp rfl (.nil)) (fun w' h' => ⟨by simp only [retV]; rw [hk2, firstI_end (by omega)], h'.below⟩)
theorem f75 {w0 w : World} {M : List Nat} {As As' : List HA} {b cap n : Nat} {t : TypeId} {tot : Nat} {cs : List Value} (h : HS w0 M As w) (hp : Pick As (.blk b t tot cs) As') (hc : cs.all isI64 = true) (hn : cs.length = n) (hl : n ≤ 1000) :
    Calls Tryz.prog 75 #[.slice (some ⟨b, 0, none⟩) n cap] w fun en w' => en = .returned (.int .i64 (firstV cs)) ∧ Below w.heap.size w w' := by
  subst hn
  have := c75 w (some ⟨b, 0, none⟩) cap (cs.map Go.RowKit.intOf) (by simpa using h.sl_ints hp hc) (by simpa using hl)
  rw [firstV_eq hc] at this
  simpa using this
theorem c74 (w : World) (n : Int) : Calls Tryz.prog 74 #[.int .i64 n] w fun en w' => en = .returned (.int .i64 (colE12 n)) ∧ Below w.heap.size w w' := by
 refine enter (args := [_]) Tryz.func74 Tryz.ntmps74 rfl rfl (HS.refl w []) ?_
 iterate 7 refine aS ?_
 refine o_q (q_call rfl fn_93 rfl (fun w1 h1 => c93 w1 _ _ _)) rfl ?_
 refine o_q (q_call rfl fn_81 rfl (fun w1 h1 => c81 w1 _ _)) rfl ?_
 iterate 2 refine aS ?_
 exact s_retv (rs := [.tmp 2]) rfl (.tmp rfl (.nil)) (fun w' h' => ⟨by simp only [retV, colE12, cond_eq_ite, Bool.and_eq_true, decide_eq_true_eq], h'.below⟩)
theorem firstW2 {a b : Int} : firstV [.int .i64 a, .int .i64 b] = if a = 0 then b else a := by
  simp only [firstV]
  grind
theorem c78 (w : World) (co mo rm : Int) : Calls Tryz.prog 78 #[.int .i64 co, .int .i64 mo, .int .i64 rm] w fun en w' => en = .returned (.int .i64 (if colE12 co = 0 then sizE mo rm else colE12 co)) ∧ Below w.heap.size w w' := by
 refine enter (args := [_, _, _]) Tryz.func78 Tryz.ntmps78 rfl rfl (HS.refl w []) ?_
 iterate 7 refine aS ?_
 refine o_q (q_call rfl fn_93 rfl (fun w1 h1 => c93 w1 _ _ _)) rfl ?_
 refine aS ?_
 refine o_and 6 10 16 _ _ rfl
  (by
   intro hg1
   have hs2 := hg1; try simp only [Bool.and_eq_true, decide_eq_true_eq] at hs2
   refine oOn 10 hg1 ?_
   refine aS ?_
   refine oOn 10 hg1 ?_
   refine aS ?_
   refine oOn 10 hg1 ?_
   refine o_p (p_quo_nn rfl rfl rfl (by omega) (by omega) (by omega)) rfl ?_
   refine oOn 10 hg1 ?_
   refine aS ?_
   refine oOn 10 hg1 ?_
   refine o_q (q_call rfl fn_93 rfl (fun w1 h1 => c93 w1 _ _ _)) rfl ?_
   refine o_p (p_pickt rfl rfl hg1 rfl) rfl ?_
   refine aS ?_
   exact oJn 6 16)
  (by
   intro hg3
   have hs4 := hg3; try simp only [Bool.and_eq_false_iff, decide_eq_false_iff_not] at hs4
   refine oOf 10 hg3 ?_
   refine oOf 10 hg3 ?_
   refine oOf 10 hg3 ?_
   refine oOf 10 hg3 ?_
   refine oOf 10 hg3 ?_
   refine o_p (p_pickf rfl rfl hg3 rfl) rfl ?_
   refine aS ?_
   exact oJn 6 16) ?_
 iterate 5 refine aS ?_
 refine o_q (q_call rfl fn_74 rfl (fun w1 h1 => c74 w1 _)) rfl ?_
 refine aS ?_
 refine o_q (q_call rfl fn_81 rfl (fun w1 h1 => c81 w1 _ _)) rfl ?_
 refine o_h (h_buildSlice (cs := [_, _]) rfl rfl sl_165 zr_31 rfl rfl rfl) rfl (fun b5 _ => ?_)
 refine o_q (q_call rfl fn_75 rfl (fun w1 h1 => f75 h1 aPk (by rfl) (by rfl) (by decide))) rfl ?_
 iterate 2 refine aS ?_
 exact s_retv (rs := [.tmp 6]) rfl (.tmp rfl (.nil)) (fun w' h' => ⟨by simp only [retV]; rw [firstW2]; simp only [sizE, cond_eq_ite, Bool.and_eq_true, decide_eq_true_eq], h'.below⟩)
theorem c30 (w : World) (n : Int) : Calls Tryz.prog 30 #[.int .i64 n] w fun en w' => en = .returned (.int .i64 (colE12 n)) ∧ Below w.heap.size w w' := by
 refine enter (args := [_]) Tryz.func30 Tryz.ntmps30 rfl rfl (HS.refl w []) ?_
 iterate 8 refine aS ?_
 refine o_q (q_call rfl fn_46 rfl (fun w1 h1 => c46 w1 _ _ _)) rfl ?_
 iterate 2 refine aS ?_
 refine s_cond rfl (fun h1 => ?_) fun h1 => ?_
 ·try simp only [Bool.not_eq_true', Bool.and_eq_false_iff, decide_eq_false_iff_not] at h1
  have hz : colE12 n = 15 := by have hq := h1; unfold colE12; rw [if_neg (by first | omega | (simp at hq; omega))]
  iterate 4 refine aS ?_
  exact s_retv (rs := [.tmp 2]) rfl (.tmp rfl (.nil)) (fun w' h' => ⟨by rw [hz]; rfl, h'.below⟩)
 try simp only [Bool.not_eq_false', Bool.and_eq_true, decide_eq_true_eq] at h1
 have hz : colE12 n = 0 := by have hq := h1; unfold colE12; rw [if_pos (by first | omega | (simp at hq; omega))]
 iterate 5 refine aS ?_
 exact s_retv (rs := [.tmp 2]) rfl (.tmp rfl (.nil)) (fun w' h' => ⟨by rw [hz]; rfl, h'.below⟩)
theorem c31 (w : World) (mo rm : Int) : Calls Tryz.prog 31 #[.int .i64 mo, .int .i64 rm] w fun en w' => en = .returned (.int .i64 (sizE mo rm)) ∧ Below w.heap.size w w' := by
 refine enter (args := [_, _]) Tryz.func31 Tryz.ntmps31 rfl rfl (HS.refl w []) ?_
 iterate 8 refine aS ?_
 refine o_q (q_call rfl fn_46 rfl (fun w1 h1 => c46 w1 _ _ _)) rfl ?_
 iterate 2 refine aS ?_
 refine o_or 7 8 15 _ _ rfl
  (by
   intro hg1
   have hs2 := hg1; try simp only [Bool.not_eq_false', Bool.and_eq_true, decide_eq_true_eq] at hs2
   refine oOn 8 hg1 ?_
   refine aS ?_
   refine oOn 8 hg1 ?_
   refine aS ?_
   refine oOn 8 hg1 ?_
   refine o_p (p_quo_nn rfl rfl rfl (by omega) (by omega) (by omega)) rfl ?_
   refine oOn 8 hg1 ?_
   refine aS ?_
   refine oOn 8 hg1 ?_
   refine o_q (q_call rfl fn_46 rfl (fun w1 h1 => c46 w1 _ _ _)) rfl ?_
   refine oOn 8 hg1 ?_
   refine aS ?_
   refine o_p (p_pickf rfl rfl hg1 rfl) rfl ?_
   refine aS ?_
   exact oJn 7 15)
  (by
   intro hg3
   have hs4 := hg3; try simp only [Bool.not_eq_true', Bool.and_eq_false_iff, decide_eq_false_iff_not] at hs4
   refine oOf 8 hg3 ?_
   refine oOf 8 hg3 ?_
   refine oOf 8 hg3 ?_
   refine oOf 8 hg3 ?_
   refine oOf 8 hg3 ?_
   refine oOf 8 hg3 ?_
   refine o_p (p_pickt rfl rfl hg3 rfl) rfl ?_
   refine aS ?_
   exact oJn 7 15) ?_
 refine aS ?_
 refine s_cond rfl (fun h5 => ?_) fun h5 => ?_
 ·try simp only [Bool.or_eq_true, Bool.not_eq_true', Bool.and_eq_false_iff, decide_eq_false_iff_not] at h5
  have hz : sizE mo rm = 2 := by have hq := h5; unfold sizE; rw [if_neg (by first | omega | (simp at hq; omega))]
  iterate 4 refine aS ?_
  exact s_retv (rs := [.tmp 4]) rfl (.tmp rfl (.nil)) (fun w' h' => ⟨by rw [hz]; rfl, h'.below⟩)
 try simp only [Bool.or_eq_false_iff, Bool.not_eq_false', Bool.and_eq_true, decide_eq_true_eq] at h5
 have hz : sizE mo rm = 0 := by have hq := h5; unfold sizE; rw [if_pos (by first | omega | (simp at hq; omega))]
 iterate 5 refine aS ?_
 exact s_retv (rs := [.tmp 4]) rfl (.tmp rfl (.nil)) (fun w' h' => ⟨by rw [hz]; rfl, h'.below⟩)
end Go.Proofs
namespace Go.Proofs
open Go Go.RowKit Gx
set_option linter.unusedVariables false
set_option linter.unusedSimpArgs false
theorem rw_of {α : Type} [Inhabited α] {vals : α → List Value} {sz n : Nat} {W : World} {a : Option Addr} {cell : Nat → List Value} {Q : α → Prop} (hs : Sl W [] a sz n cell) (hr : ∀ i, i < n → ∃ x, cell i = vals x ∧ Q x) : ∃ l : List α, n = l.length ∧ Rw vals sz W [] a l ∧ (∀ x ∈ l, Q x) ∧ ∀ i, i < n → cell i = vals (nth l i) := by
  have hr2 : ∀ i, ∃ x, i < n → cell i = vals x ∧ Q x := fun i => by
    by_cases hi : i < n
    · obtain ⟨x, h⟩ := hr i hi
      exact ⟨x, fun _ => h⟩
    · exact ⟨default, fun h => absurd h hi⟩
  obtain ⟨f, hf⟩ := Classical.axiomOfChoice hr2
  have hg : ∀ i, i < n → nth ((List.range n).map f) i = f i := fun i hi => by
    simp only [nth, List.getD_eq_getElem?_getD, List.getElem?_map, List.getElem?_range hi, Option.map_some, Option.getD_some]
  refine ⟨(List.range n).map f, by simp, ⟨fun hn => ?_⟩, fun x hx => ?_, fun i hi => ?_⟩
  · rw [List.length_map, List.length_range] at hn
    obtain ⟨b, o, e, h2⟩ := hs.at_ hn
    refine ⟨b, o, e, fun i hi => ?_⟩
    rw [List.length_map, List.length_range] at hi
    have h3 := h2 i hi
    rw [(hf i hi).1] at h3
    rw [hg i hi]
    exact h3
  · obtain ⟨i, hi, rfl⟩ := List.mem_map.1 hx
    exact (hf i (List.mem_range.1 hi)).2
  · rw [hg i hi]
    exact (hf i hi).1
theorem zcells3 : Tryz.prog.cellsOf 3 = 1 := by kernel_rfl
theorem zcells4 : Tryz.prog.cellsOf 4 = 1 := by kernel_rfl
theorem zcells9 : Tryz.prog.cellsOf 9 = 1 := by kernel_rfl
theorem zcells26 : Tryz.prog.cellsOf 26 = 2 := by kernel_rfl
theorem zcells30 : Tryz.prog.cellsOf 30 = 1 := by kernel_rfl
theorem zcells77 : Tryz.prog.cellsOf 77 = 1 := by kernel_rfl
theorem zcells102 : Tryz.prog.cellsOf 102 = 3 := by kernel_rfl
section
variable {W : World} {d : Nat}
theorem ln2 {cs : List Value} (h : cs.length = 2) : ∃ x0 x1, cs = [x0, x1] := by
  match cs, h with
  | [x0, x1], _ => exact ⟨x0, x1, rfl⟩
theorem ln3 {cs : List Value} (h : cs.length = 3) : ∃ x0 x1 x2, cs = [x0, x1, x2] := by
  match cs, h with
  | [x0, x1, x2], _ => exact ⟨x0, x1, x2, rfl⟩
theorem bool_of {x : Value} (h : okT Tryz.prog W d 4 [x]) : ∃ n, x = .bool n := by
  obtain ⟨n, e⟩ := okT_bool h Tryz.underlying4
  cases e
  exact ⟨n, rfl⟩
theorem str_of {x : Value} (h : okT Tryz.prog W d 9 [x]) : ∃ l : List UInt8, x = .string (bs l) ∧ l.length ≤ maxLen := by
  obtain ⟨l, e, g⟩ := okT_str h Tryz.underlying9
  cases e
  exact ⟨l, rfl, g⟩
theorem ent_of {cs : List Value} (h : okT Tryz.prog W d 26 cs) : ∃ x : TEnt, cs = x.vals ∧ True := by
  obtain ⟨d2, l, o⟩ := okT_st h Tryz.underlying26
  rw [zcells26] at l
  obtain ⟨x0, x1, rfl⟩ := ln2 l
  simp only [List.mem_cons, List.mem_nil_iff, or_false, forall_eq_or_imp, forall_eq] at o
  rw [zcells9] at o
  obtain ⟨s, rfl, hs⟩ := str_of (x := x0) o.1
  obtain ⟨t, rfl, ht⟩ := str_of (x := x1) o.2
  exact ⟨⟨s, t⟩, rfl, trivial⟩
theorem ents_of {x : Value} (h : okT Tryz.prog W d 77 [x]) : ∃ a c l, x = .slice a (List.length (α := TEnt) l) c ∧ Rw TEnt.vals 2 W [] a l := by
  obtain ⟨d2, a, n, cap, cell, e, h1, h2, sl, rows⟩ := okT_sl h Tryz.underlying77 (by rw [zcells26]; decide)
  rw [zcells26] at sl
  cases e
  obtain ⟨l, rfl, hl, _⟩ := rw_of (vals := TEnt.vals) (Q := fun _ => True) sl fun i hi => ent_of (rows i hi)
  exact ⟨a, cap, l, rfl, hl⟩
theorem kids_of {x : Value} (h : okT Tryz.prog W d 30 [x]) : ∃ a c l, x = .slice a (List.length (α := Int) l) c ∧ Rw inV 1 W [] a l := by
  obtain ⟨d2, a, n, cap, cell, e, h1, h2, sl, rows⟩ := okT_sl h Tryz.underlying30 (by rw [zcells3]; decide)
  rw [zcells3] at sl
  cases e
  obtain ⟨l, rfl, hl, _⟩ := rw_of (vals := inV) (Q := fun _ => True) sl fun i hi => by
    obtain ⟨m, e, g⟩ := okT_int (rows i hi) Tryz.underlying3
    exact ⟨m, e, trivial⟩
  exact ⟨a, cap, l, rfl, hl⟩
theorem nd_of {cs : List Value} (h : okT Tryz.prog W d 102 cs) : ∃ k : LNd, cs = k.vals ∧ Rw TEnt.vals 2 W [] k.ea k.es ∧ Rw inV 1 W [] k.ca k.cs := by
  obtain ⟨d2, l, o⟩ := okT_st h Tryz.underlying102
  rw [zcells102] at l
  obtain ⟨x0, x1, x2, rfl⟩ := ln3 l
  simp only [List.mem_cons, List.mem_nil_iff, or_false, forall_eq_or_imp, forall_eq] at o
  rw [zcells4, zcells77, zcells30] at o
  obtain ⟨n0, rfl⟩ := bool_of (x := x0) o.1
  obtain ⟨ea, ec, es, rfl, he⟩ := ents_of (x := x1) o.2.1
  obtain ⟨ca, cc, ks, rfl, hk⟩ := kids_of (x := x2) o.2.2
  exact ⟨⟨n0, ea, ec, es, ca, cc, ks⟩, rfl, he, hk⟩
theorem nodes_of {n : Nat} {a : Option Addr} {cell : Nat → List Value} (sl : Sl W [] a 3 n cell) (rows : ∀ i, i < n → okT Tryz.prog W d 102 (cell i)) : ∃ l : List LNd, n = l.length ∧ Nt W [] a l := by
  obtain ⟨l, rfl, hl, hk, _⟩ := rw_of (vals := LNd.vals) (Q := fun k => Rw TEnt.vals 2 W [] k.ea k.es ∧ Rw inV 1 W [] k.ca k.cs) sl fun i hi => nd_of (rows i hi)
  exact ⟨l, rfl, hl, hk⟩
end
end Go.Proofs
namespace Go.Proofs
open Go Go.RowKit Gx
set_option linter.unusedVariables false
set_option linter.unusedSimpArgs false
attribute [local irreducible] Go.Calls Gx.S Gx.O Gx.D Gx.OpP Gx.OpQ Gx.OpH
set_option maxRecDepth 20000
theorem ki_5 : tki Tryz.prog 5 = some .u8 := by kernel_rfl
theorem ki_3 : tki Tryz.prog 3 = some .i64 := by kernel_rfl
theorem fn_50 : isFn Tryz.prog 50 = true := by kernel_rfl
theorem sgn_slot (a b : Int) : Value.int .i64 (IntKind.i64.wrap ((if decide (b < a) = true then 1 else 0) - (if decide (a < b) = true then 1 else 0))) = Value.int .i64 (sgnI a b) := by
  unfold sgnI
  by_cases h1 : a < b
  · have h2 : ¬ b < a := by omega
    simp only [h1, h2, decide_true, decide_false, Bool.false_eq_true, if_true, if_false]
    rfl
  · by_cases h2 : b < a
    · simp only [h1, h2, decide_true, decide_false, Bool.false_eq_true, if_true, if_false]
      rfl
    · simp only [h1, h2, decide_true, decide_false, Bool.false_eq_true, if_true, if_false]
      rfl
def capI (c : Int) : Int := if 97 ≤ c ∧ c ≤ 122 then c - 32 else c
theorem capI_cap (u : UInt8) : capI (u.toNat : Int) = ((capB u).toNat : Int) := by
  have hu := u.toNat_lt
  unfold capI capB
  by_cases h : 97 ≤ u ∧ u ≤ 122
  · have h2 := h
    rw [UInt8.le_iff_toNat_le, UInt8.le_iff_toNat_le] at h2
    have e97 : (97 : UInt8).toNat = 97 := rfl
    have e122 : (122 : UInt8).toNat = 122 := rfl
    rw [e97, e122] at h2
    rw [if_pos h, if_pos (by omega), UInt8.toNat_sub_of_le _ _ (by rw [UInt8.le_iff_toNat_le]; show 32 ≤ _; omega)]
    show (u.toNat : Int) - 32 = ((u.toNat - 32 : Nat) : Int)
    omega
  · have h2 := h
    rw [UInt8.le_iff_toNat_le, UInt8.le_iff_toNat_le] at h2
    have e97 : (97 : UInt8).toNat = 97 := rfl
    have e122 : (122 : UInt8).toNat = 122 := rfl
    rw [e97, e122] at h2
    rw [if_neg h, if_neg (by omega)]
theorem c71 (w : World) (s : List UInt8) (at' c : Nat) (hm : s.length ≤ 1000000000) (hc : c ≤ 7) (hac : at' + c ≤ s.length) : Calls Tryz.prog 71 #[.string (bs s), .int .i64 (at' : Int), .int .i64 (c : Int)] w fun en w' => en = .returned (.int .i64 (litN s at' c)) ∧ Below w.heap.size w w' := by
 refine enter (args := [_, _, _]) Tryz.func71 Tryz.ntmps71 rfl rfl (HS.refl w []) ?_
 iterate 13 refine aS ?_
 try refine oWr ?_
 iterate 3 refine aS ?_
 refine s_loopI (α := Nat) [7, 8, 11, 12, 13, 14, 15, 16, 17, 18, 19, 20, 21, 22, 23] (fun j => [(8, .int .i64 ((j : Int) - 1)), (7, .int .i64 (litN s (at' + j) (c - j)))]) (fun _ => _) (fun j => j ≤ c) (fun j => j) c (Nat.le_refl _) (by rw [Nat.sub_self]; exact aSx) (fun w h => h) (fun j hj => ?_)
 iterate 6 refine aS ?_
 refine s_cond rfl (fun h1 => ?_) fun h1 => ?_
 ·try simp only [decide_eq_true_eq] at h1
  obtain ⟨i, rfl⟩ : ∃ i, j = i + 1 := ⟨j - 1, by omega⟩
  have hst : litN s (at' + i) (c - i) = at1 s (at' + i) + 256 * litN s (at' + (i + 1)) (c - (i + 1)) := by rw [show c - i = (c - (i + 1)) + 1 by omega, litN]; rfl
  have hb1 := at1_le s (at' + i)
  have hn6 := litN_6 s (at' + (i + 1)) (k := c - (i + 1)) (by omega)
  have hb9 := (s.getD (at' + i) 0).toNat_lt
  iterate 6 refine aS ?_
  try refine oWr ?_
  iterate 4 refine aS ?_
  try refine oWr ?_
  refine o_slot (show _ = Value.int .i64 ((at' + i : Nat) : Int) from by congr 1; omega) ?_
  refine o_p (p_index_str rfl rfl rfl Tryz.underlying9 (at' + i) (by omega) (by omega)) rfl ?_
  refine o_p (p_conv_int rfl rfl ki_5 ki_3) rfl ?_
  try refine oWr ?_
  refine aS ?_
  try refine oWr ?_
  refine o_slot (show _ = Value.int .i64 (litN s (at' + i) (c - i)) from by rw [hst]; congr 1; show _ * 256 + at1 s (at' + i) = _; omega) ?_
  iterate 6 refine aS ?_
  try refine oWr ?_
  iterate 2 refine aS ?_
  exact s_backI i (by omega) (by omega) (by rw [show ((i : Int) - 1) = ((i + 1 : Nat) : Int) - 1 - 1 from by omega]; exact aSx) (fun w h => h)
 try simp only [decide_eq_false_iff_not] at h1
 obtain rfl : j = 0 := by omega
 rw [Nat.add_zero, Nat.sub_zero]
 refine s_exit_to rfl ?_
 iterate 5 refine aS ?_
 exact s_retv (rs := [.tmp 6]) rfl (.tmp rfl (.nil)) (fun w' h' => ⟨by rfl, h'.below⟩)
theorem c50 (w : World) (b : Bool) : Calls Tryz.prog 50 #[.bool b] w fun en w' => en = .returned (.int .i64 (if b then 1 else 0)) ∧ Below w.heap.size w w' := by
 refine enter (args := [_]) Tryz.func50 Tryz.ntmps50 rfl rfl (HS.refl w []) ?_
 iterate 9 refine aS ?_
 refine s_cond rfl (fun h1 => ?_) fun h1 => ?_
 ·skip
  iterate 4 refine aS ?_
  exact s_retv (rs := [.tmp 2]) rfl (.tmp rfl (.nil)) (fun w' h' => ⟨by simp_all [retV], h'.below⟩)
 skip
 iterate 5 refine aS ?_
 exact s_retv (rs := [.tmp 2]) rfl (.tmp rfl (.nil)) (fun w' h' => ⟨by simp_all [retV], h'.below⟩)
theorem c70 (w : World) (n : Int) : Calls Tryz.prog 70 #[.int .i64 n] w fun en w' => en = .returned (.bool (decide (0 ≤ n) && decide (n ≤ 2147483647))) ∧ Below w.heap.size w w' := by
 refine enter (args := [_]) Tryz.func70 Tryz.ntmps70 rfl rfl (HS.refl w []) ?_
 iterate 7 refine aS ?_
 refine o_q (q_call rfl fn_46 rfl (fun w1 h1 => c46 w1 _ _ _)) rfl ?_
 iterate 2 refine aS ?_
 exact s_retv (rs := [.tmp 2]) rfl (.tmp rfl (.nil)) (fun w' h' => ⟨rfl, h'.below⟩)
theorem c79 (w : World) (a b : Int) : Calls Tryz.prog 79 #[.int .i64 a, .int .i64 b] w fun en w' => en = .returned (.int .i64 (sgnI a b)) ∧ Below w.heap.size w w' := by
 refine enter (args := [_, _]) Tryz.func79 Tryz.ntmps79 rfl rfl (HS.refl w []) ?_
 iterate 9 refine aS ?_
 refine o_q (q_call rfl fn_50 rfl (fun w1 h1 => c50 w1 _)) rfl ?_
 iterate 3 refine aS ?_
 refine o_q (q_call rfl fn_50 rfl (fun w1 h1 => c50 w1 _)) rfl ?_
 refine aS ?_
 refine o_slot (show _ = Value.int .i64 (sgnI a b) from sgn_slot a b) ?_
 iterate 2 refine aS ?_
 exact s_retv (rs := [.tmp 4]) rfl (.tmp rfl (.nil)) (fun w' h' => ⟨by rfl, h'.below⟩)
theorem c80 (w : World) (c : Int) (h0 : 0 ≤ c ∧ c ≤ 255) : Calls Tryz.prog 80 #[.int .i64 c] w fun en w' => en = .returned (.int .i64 (capI c)) ∧ Below w.heap.size w w' := by
 refine enter (args := [_]) Tryz.func80 Tryz.ntmps80 rfl rfl (HS.refl w []) ?_
 iterate 8 refine aS ?_
 refine o_q (q_call rfl fn_46 rfl (fun w1 h1 => c46 w1 _ _ _)) rfl ?_
 refine aS ?_
 refine s_cond rfl (fun h1 => ?_) fun h1 => ?_
 ·try simp only [Bool.and_eq_true, decide_eq_true_eq] at h1
  have hz : capI c = c - 97 + 65 := by have hq := h1; unfold capI; rw [if_pos (by first | exact hq | (simp at hq; omega))]; omega
  iterate 4 refine aS ?_
  try refine oWr ?_
  refine aS ?_
  try refine oWr ?_
  iterate 2 refine aS ?_
  exact s_retv (rs := [.tmp 2]) rfl (.tmp rfl (.nil)) (fun w' h' => ⟨by rw [hz]; rfl, h'.below⟩)
 try simp only [Bool.and_eq_false_iff, decide_eq_false_iff_not] at h1
 have hz : capI c = c := by have hq := h1; unfold capI; rw [if_neg (by intro h9; first | exact hq h9 | (simp at hq; omega))]
 iterate 6 refine aS ?_
 exact s_retv (rs := [.tmp 2]) rfl (.tmp rfl (.nil)) (fun w' h' => ⟨by rw [hz]; rfl, h'.below⟩)
theorem sl_150 : tsl Tryz.prog 150 = some (5, 1, 1) := by kernel_rfl
theorem sz_5 : tsz Tryz.prog 5 = some (1, false) := by kernel_rfl
theorem ki_201 : tki Tryz.prog 201 = some .u16 := by kernel_rfl
theorem mixed : Tryz.prog.follows .mixedOrders = true := by kernel_rfl
theorem fn_165 : isFn Tryz.prog 165 = true := by kernel_rfl
theorem ki_186 : tki Tryz.prog 186 = some .u32 := by kernel_rfl
theorem fn_156 : isFn Tryz.prog 156 = true := by kernel_rfl
theorem fn_157 : isFn Tryz.prog 157 = true := by kernel_rfl
theorem cs_155 : isCS Tryz.prog 155 := ⟨_, Tryz.func155, rfl, rfl, by kernel_rfl, by kernel_rfl⟩
theorem fn_145 : isFn Tryz.prog 145 = true := by kernel_rfl
theorem c165 (w : World) (a : Option Addr) (m cap : Nat) (x : List UInt8) (hs : Vl w a (x.map bv)) (hm : x.length = m) (h2 : 2 ≤ m) (hc : m ≤ cap) (hc9 : cap ≤ 9223372036854775807) : Calls Tryz.prog 165 #[.slice a m cap] w fun en w' => en = .returned (.int .u16 (at2 x 0)) ∧ Below w.heap.size w w' := by
 refine enter (args := [_]) Tryz.func165 Tryz.ntmps165 rfl rfl (HS.refl w []) ?_
 iterate 5 refine aS ?_
 refine s_draw [] mixed ?_
 refine dP 0 ?_
 refine d_p 1 rfl (p_indexAddr rfl rfl rfl sl_150 0 rfl (by omega) (hs.some (by rw [List.length_map]; omega))) (by kernel_rfl) rfl rfl ?_
 refine d_q 2 [] rfl (q_load_old rfl rfl sz_5 ((hs.rd (i := 0) (bv_get (l := x) (k := 0) (by omega))))) (by kernel_rfl) (by kernel_rfl) (by kernel_rfl) rfl ?_
 refine d_p 3 rfl (p_conv_int rfl rfl ki_5 ki_201) (by kernel_rfl) rfl rfl ?_
 refine dP 4 ?_
 refine d_p 5 rfl (p_indexAddr rfl rfl rfl sl_150 1 rfl (by omega) (hs.some (by rw [List.length_map]; omega))) (by kernel_rfl) rfl rfl ?_
 refine d_q 6 [] rfl (q_load_old rfl rfl sz_5 ((hs.rd (i := 1) (bv_get (l := x) (k := 1) (by omega))))) (by kernel_rfl) (by kernel_rfl) (by kernel_rfl) rfl ?_
 refine d_p 7 rfl (p_conv_int rfl rfl ki_5 ki_201) (by kernel_rfl) rfl rfl ?_
 refine d_p 8 rfl (p_shl rfl rfl rfl (by decide) 8 rfl) (by kernel_rfl) rfl rfl ?_
 refine dP 9 ?_
 refine dP 10 ?_
 refine dNi ?_
 exact s_retv (rs := [.tmp 2]) rfl (.tmp rfl (.nil)) (fun w' h' => ⟨by rw [← g16_slot]; rfl, h'.below⟩)
theorem c156 (w : World) (a : Option Addr) (m cap : Nat) (x : List UInt8) (hs : Vl w a (x.map bv)) (hm : x.length = m) (h2 : 4 ≤ m) (hc : m ≤ cap) (hc9 : cap ≤ 9223372036854775807) : Calls Tryz.prog 156 #[.slice a m cap] w fun en w' => en = .returned (.int .u32 (at4 x 0)) ∧ Below w.heap.size w w' := by
 have hx2 := at2_le x 0
 have hx3 := at2_le x 2
 refine enter (args := [_]) Tryz.func156 Tryz.ntmps156 rfl rfl (HS.refl w []) ?_
 iterate 5 refine aS ?_
 refine s_draw [] mixed ?_
 refine dP 0 ?_
 refine d_q 1 [] rfl (q_call rfl fn_165 rfl (fun w1 h1 => c165 w1 a m cap x (hs.later h1) hm (by omega) hc hc9)) (by kernel_rfl) (by kernel_rfl) (by kernel_rfl) rfl ?_
 refine d_p 2 rfl (p_conv_int rfl rfl ki_201 ki_186) (by kernel_rfl) rfl rfl ?_
 refine dP 3 ?_
 refine d_p 4 rfl (p_slice _ _ 2 m rfl rfl sl_150 ⟨_, _, rfl, rfl⟩ rfl (by omega) (by omega)) (by kernel_rfl) rfl rfl ?_
 refine d_q 5 [] rfl (q_call rfl fn_165 rfl (fun w1 h1 => c165 w1 (subA a cap 2 1) (m - 2) (cap - 2) (x.drop 2) (by rw [List.map_drop]; exact (hs.later h1).drop (by rw [List.length_map]; omega) (by omega)) (by rw [List.length_drop]; omega) (by omega) (by omega) (by omega))) (by kernel_rfl) (by kernel_rfl) (by kernel_rfl) rfl ?_
 refine d_p 6 rfl (p_conv_int rfl rfl ki_201 ki_186) (by kernel_rfl) rfl rfl ?_
 refine d_p 7 rfl (p_shl rfl rfl rfl (by decide) 16 rfl) (by kernel_rfl) rfl rfl ?_
 refine dP 8 ?_
 refine dP 9 ?_
 refine dNi ?_
 exact s_retv (rs := [.tmp 2]) rfl (.tmp rfl (.nil)) (fun w' h' => ⟨by have h9 := g32_slot (at2 x 0) (at2 (x.drop 2) 0) (at2_le _ _) (at2_le _ _); rw [at2_drop] at h9 ⊢; exact (congrArg Ending.returned h9), h'.below⟩)
theorem c146 (w : World) (s : List UInt8) (p : Nat) (hm : s.length ≤ 1000000) (hp : p + 4 ≤ s.length) : Calls Tryz.prog 146 #[.string (bs s), .int .i64 (p : Int)] w fun en w' => en = .returned (.int .u32 (at4 s p)) ∧ Below w.heap.size w w' := by
 have h4 := at4_le s p
 have hdl : (s.drop p).length = s.length - p := List.length_drop
 refine enter (args := [_, _]) Tryz.func146 Tryz.ntmps146 rfl rfl (HS.refl w []) ?_
 iterate 8 refine aS ?_
 refine o_p (p_slice_str_from p rfl rfl rfl Tryz.underlying9 rfl (by omega)) rfl ?_
 refine o_h (h_bytes rfl rfl Tryz.underlying9 Tryz.underlying150 Tryz.underlying5 rfl (by simp only [maxLen]; omega)) rfl (fun ⟨b1, c2⟩ ⟨h3, k4⟩ => ?_)
 refine o_q (q_call rfl fn_156 rfl (fun w1 h1 => by have h9 := c156 w1 (some ⟨b1, 0, none⟩) (s.drop p).length c2 (s.drop p) (h1.vl_blk aPk) rfl (by omega) (by assumption) (by have hq9 : c2 ≤ maxLen := (by assumption); simp only [maxLen] at hq9; omega); rw [at4_drop, Nat.add_zero] at h9; exact h9)) rfl ?_
 iterate 2 refine aS ?_
 exact s_retv (rs := [.tmp 4]) rfl (.tmp rfl (.nil)) (fun w' h' => ⟨by rfl, h'.below⟩)
theorem c157 (w : World) (x : Int) : Calls Tryz.prog 157 #[.int .u32 x] w fun en w' => en = .returned (.bool false) ∧ Below w.heap.size w w' := by
 refine enter (args := [_]) Tryz.func157 Tryz.ntmps157 rfl rfl (HS.refl w []) ?_
 iterate 11 refine aS ?_
 exact s_retv (rs := [.tmp 2]) rfl (.tmp rfl (.nil)) (fun w' h' => ⟨by simp [retV], h'.below⟩)
theorem c147 (w : World) (x y : Int) : Calls Tryz.prog 147 #[.int .u32 x, .int .u32 y] w fun en w' => en = .returned (.int .i64 (sgnI x y)) ∧ Below w.heap.size w w' := by
 refine enter (args := [_, _]) Tryz.func147 Tryz.ntmps147 rfl rfl (HS.refl w []) ?_
 iterate 7 refine aS ?_
 refine o_q (q_call rfl fn_157 rfl (fun w1 h1 => c157 w1 _)) rfl ?_
 iterate 5 refine aS ?_
 refine o_q (q_call rfl fn_157 rfl (fun w1 h1 => c157 w1 _)) rfl ?_
 iterate 7 refine aS ?_
 refine s_cond rfl (fun h1 => ?_) fun h1 => ?_
 ·skip
  exfalso; simp at h1
 skip
 iterate 6 refine aS ?_
 refine s_cond rfl (fun h2 => ?_) fun h2 => ?_
 ·skip
  exfalso; simp at h2
 skip
 iterate 8 refine aS ?_
 refine s_cond rfl (fun h3 => ?_) fun h3 => ?_
 ·try simp only [decide_eq_true_eq] at h3
  have hz : sgnI x y = -1 := by have hq := h3; unfold sgnI; rw [if_pos hq]
  iterate 4 refine aS ?_
  exact s_retv (rs := [.tmp 4]) rfl (.tmp rfl (.nil)) (fun w' h' => ⟨by rw [hz]; rfl, h'.below⟩)
 try simp only [decide_eq_false_iff_not] at h3
 iterate 8 refine aS ?_
 refine s_cond rfl (fun h4 => ?_) fun h4 => ?_
 ·try simp only [decide_eq_true_eq] at h4
  have hz : sgnI x y = 1 := by have hq := h4; unfold sgnI; rw [if_neg (by omega), if_pos hq]
  iterate 4 refine aS ?_
  exact s_retv (rs := [.tmp 4]) rfl (.tmp rfl (.nil)) (fun w' h' => ⟨by rw [hz]; rfl, h'.below⟩)
 try simp only [decide_eq_false_iff_not] at h4
 have hz : sgnI x y = 0 := by have hq := h4; unfold sgnI; rw [if_neg (by omega), if_neg hq]
 iterate 5 refine aS ?_
 exact s_retv (rs := [.tmp 4]) rfl (.tmp rfl (.nil)) (fun w' h' => ⟨by rw [hz]; rfl, h'.below⟩)
theorem c145 (w : World) (a b : List UInt8) : Calls Tryz.prog 145 #[.string (bs a), .string (bs b)] w fun en w' => en = .returned (.int .i64 (cmpB a b)) ∧ Below w.heap.size w w' := by
 refine enter (args := [_, _]) Tryz.func145 Tryz.ntmps145 rfl rfl (HS.refl w []) ?_
 iterate 8 refine aS ?_
 refine o_q (q_cmpString rfl rfl rfl cs_155) rfl ?_
 iterate 2 refine aS ?_
 exact s_retv (rs := [.tmp 4]) rfl (.tmp rfl (.nil)) (fun w' h' => ⟨by rfl, h'.below⟩)
theorem c110 (w : World) (a b : List UInt8) : Calls Tryz.prog 110 #[.string (bs a), .string (bs b)] w fun en w' => en = .returned (.int .i64 (cmpB a b)) ∧ Below w.heap.size w w' := by
 refine enter (args := [_, _]) Tryz.func110 Tryz.ntmps110 rfl rfl (HS.refl w []) ?_
 iterate 8 refine aS ?_
 refine o_q (q_call rfl fn_145 rfl (fun w1 h1 => c145 w1 _ _)) rfl ?_
 iterate 2 refine aS ?_
 exact s_retv (rs := [.tmp 4]) rfl (.tmp rfl (.nil)) (fun w' h' => ⟨by rfl, h'.below⟩)
theorem fn_146 : isFn Tryz.prog 146 = true := by kernel_rfl
theorem fn_147 : isFn Tryz.prog 147 = true := by kernel_rfl
theorem fn_115 : isFn Tryz.prog 115 = true := by kernel_rfl
def numsOk (s : List UInt8) (q : Nat) : Bool := (List.range q).all fun i => numOk s (4 * i)
theorem numsOk_no {s : List UInt8} {q k : Nat} (hk : k < q) (h : 2147483647 < at4 s (4 * k)) : numsOk s q = false := by
  unfold numsOk
  rw [List.all_eq_false]
  exact ⟨k, List.mem_range.2 hk, by unfold numOk; simp; omega⟩
theorem numsOk_succ {s : List UInt8} {k : Nat} (h : numsOk s k = true) (h2 : ¬ 2147483647 < at4 s (4 * k)) : numsOk s (k + 1) = true := by
  unfold numsOk at h ⊢
  rw [List.range_succ, List.all_append, h]
  unfold numOk
  simp
  omega
def cmpNs (a b : List UInt8) : Nat → Nat → Int
  | 0, _ => 0
  | f + 1, k => if sgnI (at4 a (4 * k)) (at4 b (4 * k)) ≠ 0 then sgnI (at4 a (4 * k)) (at4 b (4 * k)) else cmpNs a b f (k + 1)
theorem c115 (w : World) (s : List UInt8) (q : Nat) (hm : s.length ≤ 1000000) (hq : q ≤ 1000) : Calls Tryz.prog 115 #[.string (bs s), .int .i64 ((4 * q : Nat) : Int)] w fun en w' => en = .returned (.bool (decide (s.length = 4 * q) && numsOk s q)) ∧ Below w.heap.size w w' := by
 refine enter (args := [_, _]) Tryz.func115 Tryz.ntmps115 rfl rfl (HS.refl w []) ?_
 iterate 8 refine aS ?_
 refine o_p (p_len_str rfl rfl Tryz.underlying9) rfl ?_
 iterate 3 refine aS ?_
 refine s_cond rfl (fun h1 => ?_) fun h1 => ?_
 ·try simp only [Bool.not_eq_true', decide_eq_false_iff_not] at h1
  have hne : ¬ s.length = 4 * q := by have hq9 := h1; omega
  iterate 4 refine aS ?_
  exact s_retv (rs := [.tmp 4]) rfl (.tmp rfl (.nil)) (fun w' h' => ⟨by simp [retV, hne], h'.below⟩)
 try simp only [Bool.not_eq_false', decide_eq_true_eq] at h1
 have heq : s.length = 4 * q := by have hq9 := h1; omega
 iterate 7 refine aS ?_
 refine s_loopI (α := Nat) [4, 5, 10, 11, 12, 13, 14, 15, 16, 17, 18] (fun k => [(5, .int .i64 ((4 * k : Nat) : Int))]) (fun _ => _) (fun k => k ≤ q ∧ numsOk s k = true) (fun k => q - k) 0 ⟨Nat.zero_le _, rfl⟩ aSx (fun w h => h) (fun k hx => ?_)
 obtain ⟨hk1, hok⟩ := hx
 iterate 7 refine aS ?_
 refine s_cond rfl (fun h2 => ?_) fun h2 => ?_
 ·try simp only [decide_eq_true_eq] at h2
  have hk : k < q := by omega
  iterate 7 refine aS ?_
  refine o_q (q_call rfl fn_146 rfl (fun w1 h1 => c146 w1 s (4 * k) (by omega) (by omega))) rfl ?_
  iterate 2 refine aS ?_
  refine s_cond rfl (fun h3 => ?_) fun h3 => ?_
  ·try simp only [decide_eq_true_eq] at h3
   have hz := numsOk_no hk h3
   iterate 4 refine aS ?_
   exact s_retv (rs := [.tmp 4]) rfl (.tmp rfl (.nil)) (fun w' h' => ⟨by simp [retV, hz], h'.below⟩)
  try simp only [decide_eq_false_iff_not] at h3
  have hz := numsOk_succ hok h3
  iterate 5 refine aS ?_
  try refine oWr ?_
  iterate 2 refine aS ?_
  exact s_backI (k + 1) (by omega) ⟨by omega, hz⟩ (by rw [show (((4 * k : Nat)) : Int) + 4 = ((4 * (k + 1) : Nat) : Int) from by omega]; exact aSx) (fun w h => h)
 try simp only [decide_eq_false_iff_not] at h2
 obtain rfl : k = q := by omega
 refine s_exit_to rfl ?_
 iterate 4 refine aS ?_
 exact s_retv (rs := [.tmp 4]) rfl (.tmp rfl (.nil)) (fun w' h' => ⟨by simp [retV, heq, hok], h'.below⟩)
theorem c116 (w : World) (a b : List UInt8) (q : Nat) (ha : a.length = 4 * q) (hb : b.length = 4 * q) (hq : q ≤ 1000) : Calls Tryz.prog 116 #[.string (bs a), .string (bs b)] w fun en w' => en = .returned (.int .i64 (cmpNs a b q 0)) ∧ Below w.heap.size w w' := by
 refine enter (args := [_, _]) Tryz.func116 Tryz.ntmps116 rfl rfl (HS.refl w []) ?_
 iterate 10 refine aS ?_
 refine s_loopI (α := Nat) [4, 5, 6, 7, 8, 9, 10, 11, 12, 13, 14, 15, 16, 17, 18, 19, 20, 21, 22] (fun k => [(5, .int .i64 ((4 * k : Nat) : Int))]) (fun _ => _) (fun k => k ≤ q ∧ cmpNs a b q 0 = cmpNs a b (q - k) k) (fun k => q - k) 0 ⟨Nat.zero_le _, rfl⟩ aSx (fun w h => h) (fun k hx => ?_)
 obtain ⟨hk1, hx2⟩ := hx
 iterate 5 refine aS ?_
 refine o_p (p_len_str rfl rfl Tryz.underlying9) rfl ?_
 iterate 2 refine aS ?_
 refine s_cond rfl (fun h1 => ?_) fun h1 => ?_
 ·try simp only [decide_eq_true_eq] at h1
  have hk : k < q := by omega
  have hst : cmpNs a b (q - k) k = if sgnI (at4 a (4 * k)) (at4 b (4 * k)) ≠ 0 then sgnI (at4 a (4 * k)) (at4 b (4 * k)) else cmpNs a b (q - (k + 1)) (k + 1) := by rw [show q - k = (q - (k + 1)) + 1 by omega, cmpNs]
  iterate 7 refine aS ?_
  refine o_q (q_call rfl fn_146 rfl (fun w1 h1 => c146 w1 a (4 * k) (by omega) (by omega))) rfl ?_
  iterate 2 refine aS ?_
  refine o_q (q_call rfl fn_146 rfl (fun w1 h1 => c146 w1 b (4 * k) (by omega) (by omega))) rfl ?_
  refine o_q (q_call rfl fn_147 rfl (fun w1 h1 => c147 w1 _ _)) rfl ?_
  iterate 7 refine aS ?_
  refine s_cond rfl (fun h2 => ?_) fun h2 => ?_
  ·try simp only [Bool.not_eq_true', decide_eq_false_iff_not] at h2
   have hq9 : sgnI (at4 a (4 * k)) (at4 b (4 * k)) ≠ 0 := h2
   rw [hst, if_pos hq9] at hx2
   iterate 5 refine aS ?_
   exact s_retv (rs := [.tmp 4]) rfl (.tmp rfl (.nil)) (fun w' h' => ⟨by rw [hx2]; rfl, h'.below⟩)
  try simp only [Bool.not_eq_false', decide_eq_true_eq] at h2
  have hq9 : ¬ sgnI (at4 a (4 * k)) (at4 b (4 * k)) ≠ 0 := by have hq8 := h2; simpa using hq8
  rw [hst, if_neg hq9] at hx2
  iterate 5 refine aS ?_
  try refine oWr ?_
  iterate 2 refine aS ?_
  exact s_backI (k + 1) (by omega) ⟨by omega, hx2⟩ (by rw [show (((4 * k : Nat)) : Int) + 4 = ((4 * (k + 1) : Nat) : Int) from by omega]; exact aSx) (fun w h => h)
 try simp only [decide_eq_false_iff_not] at h1
 obtain rfl : k = q := by omega
 rw [Nat.sub_self, cmpNs] at hx2
 refine s_exit_to rfl ?_
 iterate 4 refine aS ?_
 exact s_retv (rs := [.tmp 4]) rfl (.tmp rfl (.nil)) (fun w' h' => ⟨by rw [hx2]; rfl, h'.below⟩)
theorem c114 (w : World) (s : List UInt8) (hm : s.length ≤ 1000000) : Calls Tryz.prog 114 #[.string (bs s)] w fun en w' => en = .returned (.bool (keyOk 2 s)) ∧ Below w.heap.size w w' := by
 refine enter (args := [_]) Tryz.func114 Tryz.ntmps114 rfl rfl (HS.refl w []) ?_
 iterate 7 refine aS ?_
 refine o_q (q_call rfl fn_115 rfl (fun w1 h1 => c115 w1 s 1 hm (by decide))) rfl ?_
 iterate 2 refine aS ?_
 exact s_retv (rs := [.tmp 2]) rfl (.tmp rfl (.nil)) (fun w' h' => ⟨by simp [retV, keyOk, numsOk, List.range_succ, List.range_zero], h'.below⟩)
theorem c117 (w : World) (s : List UInt8) (hm : s.length ≤ 1000000) : Calls Tryz.prog 117 #[.string (bs s)] w fun en w' => en = .returned (.bool (keyOk 3 s)) ∧ Below w.heap.size w w' := by
 refine enter (args := [_]) Tryz.func117 Tryz.ntmps117 rfl rfl (HS.refl w []) ?_
 iterate 7 refine aS ?_
 refine o_q (q_call rfl fn_115 rfl (fun w1 h1 => c115 w1 s 2 hm (by decide))) rfl ?_
 iterate 2 refine aS ?_
 exact s_retv (rs := [.tmp 2]) rfl (.tmp rfl (.nil)) (fun w' h' => ⟨by simp [retV, keyOk, numsOk, List.range_succ, List.range_zero], h'.below⟩)
theorem c109 (w : World) (s : List UInt8) : Calls Tryz.prog 109 #[.string (bs s)] w fun en w' => en = .returned (.bool (keyOk 0 s)) ∧ Below w.heap.size w w' := by
 refine enter (args := [_]) Tryz.func109 Tryz.ntmps109 rfl rfl (HS.refl w []) ?_
 iterate 7 refine aS ?_
 refine o_p (p_len_str rfl rfl Tryz.underlying9) rfl ?_
 refine o_q (q_call rfl fn_93 rfl (fun w1 h1 => c93 w1 _ _ _)) rfl ?_
 iterate 2 refine aS ?_
 exact s_retv (rs := [.tmp 2]) rfl (.tmp rfl (.nil)) (fun w' h' => ⟨by simp [retV, keyOk, Bool.decide_and]; first | done | (congr 1 <;> simp <;> omega) | grind, h'.below⟩)
theorem c111 (w : World) (s : List UInt8) : Calls Tryz.prog 111 #[.string (bs s)] w fun en w' => en = .returned (.bool (keyOk 1 s)) ∧ Below w.heap.size w w' := by
 refine enter (args := [_]) Tryz.func111 Tryz.ntmps111 rfl rfl (HS.refl w []) ?_
 iterate 7 refine aS ?_
 refine o_p (p_len_str rfl rfl Tryz.underlying9) rfl ?_
 refine o_q (q_call rfl fn_93 rfl (fun w1 h1 => c93 w1 _ _ _)) rfl ?_
 iterate 2 refine aS ?_
 exact s_retv (rs := [.tmp 2]) rfl (.tmp rfl (.nil)) (fun w' h' => ⟨by simp [retV, keyOk, Bool.decide_and]; first | done | (congr 1 <;> simp <;> omega) | grind, h'.below⟩)
theorem zr_132 : tzero Tryz.prog 132 = some [.nilFunc, .nilFunc, .nilFunc, .nilFunc, .nilFunc, .nilFunc, .nilFunc, .nilFunc] := by kernel_rfl
theorem pl_110 : tplaces Tryz.prog 110 = some [(0, 1), (1, 1)] := by kernel_rfl
theorem zr_110 : tzero Tryz.prog 110 = some [.nilFunc, .nilFunc] := by kernel_rfl
theorem ar_132 : tar Tryz.prog 132 = some (4, 110, 2) := by kernel_rfl
theorem sz_132 : tsz Tryz.prog 132 = some (8, true) := by kernel_rfl
instance : TSz Tryz.prog 132 8 true := ⟨sz_132⟩
theorem fn_77 : isFn Tryz.prog 77 = true := by kernel_rfl
theorem sz_110 : tsz Tryz.prog 110 = some (2, true) := by kernel_rfl
instance : TSz Tryz.prog 110 2 true := ⟨sz_110⟩
theorem fd_110_0 : tfd Tryz.prog 110 0 = some (0, 107) := by kernel_rfl
theorem sz_107 : tsz Tryz.prog 107 = some (1, false) := by kernel_rfl
def keyF (co : Int) : Nat := if co = 0 then 109 else if co = 1 then 111 else if co = 2 then 114 else 117
def cmpF (co : Int) : Nat := if co = 0 then 110 else if co = 1 then 112 else 116
def fv12 (f : Nat) : Value := .func (.func f) #[] #[]
def ordV (co : Int) : Value := .agg #[fv12 (keyF co), fv12 (cmpF co)]
theorem c77 (w : World)  : Calls Tryz.prog 77 #[] w fun en w' => en = .returned (.agg #[fv12 (keyF 0), fv12 (cmpF 0), fv12 (keyF 1), fv12 (cmpF 1), fv12 (keyF 2), fv12 (cmpF 2), fv12 (keyF 3), fv12 (cmpF 3)]) ∧ Below w.heap.size w w' := by
 refine enter (args := []) Tryz.func77 Tryz.ntmps77 rfl rfl (HS.refl w []) ?_
 iterate 2 refine aS ?_
 refine oAl (fun b1 _ => ?_) zr_132
 iterate 3 refine aS ?_
 refine o_p (p_build (cs := [_, _]) rfl rfl pl_110 zr_110 rfl) rfl ?_
 refine o_p (p_build (cs := [_, _]) rfl rfl pl_110 zr_110 rfl) rfl ?_
 refine o_p (p_build (cs := [_, _]) rfl rfl pl_110 zr_110 rfl) rfl ?_
 refine o_p (p_build (cs := [_, _]) rfl rfl pl_110 zr_110 rfl) rfl ?_
 refine o_p (p_build_arr (cs := [_, _, _, _, _, _, _, _]) rfl rfl ar_132 zr_132 rfl) rfl ?_
 refine oSt ?_
 refine aS ?_
 exact s_retv (rs := [.cell 0 132]) rfl (.cell rfl sz_132 aPk rfl (.nil)) (fun w' h' => ⟨by rfl, h'.below⟩)
theorem key_fn (co : Int) : isFn Tryz.prog (keyF co) = true := by
  unfold keyF
  split
  · kernel_rfl
  · split
    · kernel_rfl
    · split <;> kernel_rfl
theorem key_calls (w : World) (j : Nat) (s : List UInt8) (hj : j ≤ 3) (hm : s.length ≤ 1000000) : Calls Tryz.prog (keyF (j : Int)) #[.string (bs s)] w fun en w' => en = .returned (.bool (keyOk (j : Int) s)) ∧ Below w.heap.size w w' := by
  match j, hj with
  | 0, _ => exact c109 w s
  | 1, _ => exact c111 w s
  | 2, _ => exact c114 w s hm
  | 3, _ => exact c117 w s hm
theorem ord_slot (j : Nat) (hj : j ≤ 3) : Value.agg (cut [fv12 (keyF 0), fv12 (cmpF 0), fv12 (keyF 1), fv12 (cmpF 1), fv12 (keyF 2), fv12 (cmpF 2), fv12 (keyF 3), fv12 (cmpF 3)] (j * 2) 2).toArray = ordV (j : Int) := by
  match j, hj with
  | 0, _ => rfl
  | 1, _ => rfl
  | 2, _ => rfl
  | 3, _ => rfl
theorem c76 (w : World) (j : Nat) (s : List UInt8) (hj : j ≤ 3) (hm : s.length ≤ 1000000) : Calls Tryz.prog 76 #[.int .i64 (j : Int), .string (bs s)] w fun en w' => en = .returned (.int .i64 (keyE (j : Int) s)) ∧ Below w.heap.size w w' := by
 refine enter (args := [_, _]) Tryz.func76 Tryz.ntmps76 rfl rfl (HS.refl w []) ?_
 iterate 6 refine aS ?_
 refine o_q (q_call rfl fn_77 rfl (fun w1 h1 => c77 w1)) rfl ?_
 refine aS ?_
 refine o_p (p_indexn rfl rfl rfl ar_132 sz_110 j rfl (by omega)) rfl ?_
 refine o_slot (ord_slot j hj) ?_
 refine o_p (p_field1 rfl rfl fd_110_0 sz_107 rfl) rfl ?_
 refine aS ?_
 refine o_q (q_callv rfl rfl (key_fn _) rfl (fun w1 h1 => key_calls w1 j s hj hm)) rfl ?_
 refine o_q (q_call rfl fn_81 rfl (fun w1 h1 => c81 w1 _ _)) rfl ?_
 iterate 2 refine aS ?_
 exact s_retv (rs := [.tmp 4]) rfl (.tmp rfl (.nil)) (fun w' h' => ⟨by simp only [retV, keyE, cond_eq_ite], h'.below⟩)
theorem fn_113 : isFn Tryz.prog 113 = true := by kernel_rfl
theorem fn_110 : isFn Tryz.prog 110 = true := by kernel_rfl
theorem bset {L : List UInt8} {k : Nat} {x : UInt8} {v : Value} (h : k < L.length) (hv : v = bv x) : setMany (L.map bv) (k * 1) [v] = (L.set k x).map bv := by
  subst hv
  have h9 := flat_set (vals := byV) (sz := 1) (fun _ => rfl) L k 0 [bv x] (L.getD k 0) x (by rw [List.getElem?_eq_getElem h, List.getD_eq_getElem?_getD, List.getElem?_eq_getElem h]; rfl) rfl (by simp)
  rw [Nat.add_zero] at h9
  have e : ∀ M : List UInt8, M.flatMap byV = M.map bv := fun M => map_flat bv M
  rw [e, e] at h9
  exact h9
def mixC (s : List UInt8) (k : Nat) : List UInt8 := (s.map capB).take k ++ s.drop k
theorem mixC_len {s : List UInt8} {k : Nat} (h : k ≤ s.length) : (mixC s k).length = s.length := by simp [mixC]; omega
theorem mixC_get {s : List UInt8} {k : Nat} (h : k < s.length) : (mixC s k).getD k 0 = s.getD k 0 := by
  unfold mixC
  rw [List.getD_eq_getElem?_getD, List.getElem?_append_right (by simp; omega), List.getElem?_drop, List.getD_eq_getElem?_getD]
  congr 2
  simp; omega
theorem mixC_set {s : List UInt8} {k : Nat} (h : k < s.length) : (mixC s k).set k (capB (s.getD k 0)) = mixC s (k + 1) := by
  unfold mixC
  apply List.ext_getElem?
  intro j
  simp only [List.getElem?_set, List.getElem?_append, List.getElem?_take, List.getElem?_drop, List.length_append, List.length_take, List.length_map, List.length_drop, List.getElem?_map, List.getD_eq_getElem?_getD]
  have hk := List.getElem?_eq_getElem h
  grind
theorem mixC_0 (s : List UInt8) : mixC s 0 = s := by simp [mixC]
theorem mixC_end (s : List UInt8) : mixC s s.length = s.map capB := by
  unfold mixC
  rw [List.drop_length, List.append_nil, List.take_of_length_le (by simp)]
theorem mixC_same {s : List UInt8} {k : Nat} (h : k < s.length) (hc : capB (s.getD k 0) = s.getD k 0) : mixC s k = mixC s (k + 1) := by
  rw [← mixC_set h, hc]
  apply List.ext_getElem?
  intro j
  rw [List.getElem?_set]
  split
  · rename_i e
    subst e
    rw [← mixC_get h, List.getD_eq_getElem?_getD]
    rw [if_pos (by rw [mixC_len (by omega)]; exact h), List.getElem?_eq_getElem (by rw [mixC_len (by omega)]; exact h)]
    rfl
  · rfl
theorem cap_slot {x : UInt8} (h : 97 ≤ x.toNat ∧ x.toNat ≤ 122) : Value.int .u8 (IntKind.u8.wrap (IntKind.u8.wrap ((x.toNat : Int) - 97) + 65)) = bv (capB x) := by
  have h2 := capI_cap x
  unfold capI at h2
  rw [if_pos (by omega)] at h2
  rw [show (x.toNat : Int) - 97 = ((x.toNat - 97 : Nat) : Int) by omega, wrap_u8 _ (by omega), show ((x.toNat - 97 : Nat) : Int) + 65 = ((x.toNat - 32 : Nat) : Int) by omega, wrap_u8 _ (by omega)]
  unfold bv
  exact congrArg (Value.int .u8) (by omega)
theorem cap_no {x : UInt8} (h : ¬ (97 ≤ x.toNat ∧ x.toNat ≤ 122)) : capB x = x := by
  have h2 := capI_cap x
  unfold capI at h2
  rw [if_neg (by omega)] at h2
  exact UInt8.toNat_inj.1 (by omega)
theorem c113 (w : World) (s : List UInt8) (hm : s.length ≤ 1000000) : Calls Tryz.prog 113 #[.string (bs s)] w fun en w' => en = .returned (.string (bs (s.map capB))) ∧ Below w.heap.size w w' := by
 refine enter (args := [_]) Tryz.func113 Tryz.ntmps113 rfl rfl (HS.refl w []) ?_
 iterate 7 refine aS ?_
 refine o_h (h_bytes rfl rfl Tryz.underlying9 Tryz.underlying150 Tryz.underlying5 rfl (by simp only [maxLen]; omega)) rfl (fun ⟨b1, c2⟩ ⟨h3, k4⟩ => ?_)
 iterate 10 refine aS ?_
 refine s_loopI (α := Nat) [4, 5, 10, 11, 12, 13, 14, 15, 16, 17, 18, 19, 20, 21, 22, 23, 24, 25, 26, 27] (fun k => [(10, .int .i64 (k : Int))]) (fun k => HS w [] [.blk b1 5 c2 ((mixC s k).map bv)]) (fun k => k ≤ s.length) (fun k => s.length - k) 0 (Nat.zero_le _) aSx (fun w h => by rw [mixC_0]; exact h.ent aEt) (fun k hk1 => ?_)
 iterate 5 refine aS ?_
 refine s_cond rfl (fun h5 => ?_) fun h5 => ?_
 ·try simp only [decide_eq_true_eq] at h5
  have hk : k < s.length := by omega
  have hb9 := (s.getD k 0).toNat_lt
  iterate 6 refine aS ?_
  refine o_p (p_indexAddr rfl rfl rfl sl_150 (k) (by omega) (by omega) rfl) rfl ?_
  refine o_q (q_load_at rfl rfl sz_5 (fun w h => by rw [Nat.zero_add]; exact h.rd_blk (Mc := []) aPk (by rw [Nat.mul_one, bv_get (by rw [mixC_len hk1]; exact hk), mixC_get hk]) (by simp))) rfl ?_
  iterate 8 refine aS ?_
  refine o_and 3 17 20 _ _ rfl
   (by
    intro hg6
    have hs7 := hg6; try simp only [decide_eq_true_eq] at hs7
    refine oOn 17 hg6 ?_
    refine aS ?_
    refine oOn 17 hg6 ?_
    refine aS ?_
    refine o_p (p_pickt rfl rfl hg6 rfl) rfl ?_
    refine aS ?_
    exact oJn 3 20)
   (by
    intro hg8
    have hs9 := hg8; try simp only [decide_eq_false_iff_not] at hs9
    refine oOf 17 hg8 ?_
    refine oOf 17 hg8 ?_
    refine o_p (p_pickf rfl rfl hg8 rfl) rfl ?_
    refine aS ?_
    exact oJn 3 20) ?_
  refine aS ?_
  refine s_cutI (α := Unit) [21, 22, 23, 24, 25, 26] (fun _ => []) (fun _ => HS w [] [.blk b1 5 c2 ((mixC s (k + 1)).map bv)]) (fun _ => True) ?_ ?_
  ·skip
   refine s_cond rfl (fun h10 => ?_) fun h10 => ?_
   ·try simp only [Bool.and_eq_true, decide_eq_true_eq] at h10
    have hcc : 97 ≤ (s.getD k 0).toNat ∧ (s.getD k 0).toNat ≤ 122 := by have hq := h10; omega
    iterate 6 refine aS ?_
    try (refine o_slot (u8add _ _) ?_)
    refine o_slot (cap_slot hcc) ?_
    refine o_p (p_indexAddr rfl rfl rfl sl_150 (k) (by omega) (by omega) rfl) rfl ?_
    refine o_slot (show _ = Value.pointer (some ⟨b1, k * 1, none⟩) from by rw [Nat.zero_add]) ?_
    refine o_h0 (h_store rfl rfl rfl sz_5 rfl aPt (by rw [List.length_map, mixC_len hk1]; omega) rfl) (fun _ _ => ?_)
    refine aS ?_
    exact s_joinI () trivial aSx (fun w h => by have h2 := HS.blk_to (b := b1) h aPk (bset (L := mixC s k) (x := capB (s.getD k 0)) (by rw [mixC_len hk1]; exact hk) rfl); rw [mixC_set hk] at h2; exact h2.ent aEt)
   try simp only [Bool.and_eq_false_iff, decide_eq_false_iff_not] at h10
   have hno : capB (s.getD k 0) = s.getD k 0 := cap_no (by have hq := h10; omega)
   refine aS ?_
   exact s_joinI () trivial aSx (fun w h => by rw [← mixC_same hk hno]; exact h.ent aEt)
  intro _ _
  iterate 3 refine aS ?_
  try refine oWr ?_
  iterate 2 refine aS ?_
  exact s_backI (k + 1) (by omega) (by omega) aSx (fun w h => h.ent aEt)
 try simp only [decide_eq_false_iff_not] at h5
 obtain rfl : k = s.length := by omega
 rw [mixC_end]
 refine s_exit_to rfl ?_
 iterate 3 refine aS ?_
 refine o_q (q_string_blk rfl rfl Tryz.underlying150 Tryz.underlying9 Tryz.underlying5 aPk (by simp [List.length_map]) (isU8_bv _)) rfl ?_
 iterate 2 refine aS ?_
 exact s_retv (rs := [.tmp 2]) rfl (.tmp rfl (.nil)) (fun w' h' => ⟨by simp only [vByte_bv]; rfl, h'.below⟩)
theorem c112 (w : World) (a b : List UInt8) (ha : a.length ≤ 1000000) (hb : b.length ≤ 1000000) : Calls Tryz.prog 112 #[.string (bs a), .string (bs b)] w fun en w' => en = .returned (.int .i64 (cmpB (a.map capB) (b.map capB))) ∧ Below w.heap.size w w' := by
 refine enter (args := [_, _]) Tryz.func112 Tryz.ntmps112 rfl rfl (HS.refl w []) ?_
 iterate 7 refine aS ?_
 refine o_q (q_call rfl fn_113 rfl (fun w1 h1 => c113 w1 a ha)) rfl ?_
 refine aS ?_
 refine o_q (q_call rfl fn_113 rfl (fun w1 h1 => c113 w1 b hb)) rfl ?_
 refine o_q (q_call rfl fn_110 rfl (fun w1 h1 => c110 w1 _ _)) rfl ?_
 iterate 2 refine aS ?_
 exact s_retv (rs := [.tmp 4]) rfl (.tmp rfl (.nil)) (fun w' h' => ⟨by rfl, h'.below⟩)
theorem fn_76 : isFn Tryz.prog 76 = true := by kernel_rfl
theorem fd_110_1 : tfd Tryz.prog 110 1 = some (1, 108) := by kernel_rfl
instance : TFd Tryz.prog 110 1 1 108 := ⟨fd_110_1⟩
theorem sz_108 : tsz Tryz.prog 108 = some (1, false) := by kernel_rfl
instance : TSz Tryz.prog 108 1 false := ⟨sz_108⟩
theorem cmpNs_1 (a b : List UInt8) : cmpNs a b 1 0 = cmpK 2 a b := by
  simp only [cmpNs, cmpK, Nat.mul_zero]
  split
  · rfl
  · rename_i h
    simp only [ne_eq, Decidable.not_not] at h
    rw [h]
    rfl
theorem cmpNs_2 (a b : List UInt8) : cmpNs a b 2 0 = cmpK 3 a b := by
  have e : cmpK 3 a b = if sgnI (at4 a 0) (at4 b 0) ≠ 0 then sgnI (at4 a 0) (at4 b 0) else sgnI (at4 a 4) (at4 b 4) := rfl
  rw [e]
  show (if sgnI (at4 a 0) (at4 b 0) ≠ 0 then sgnI (at4 a 0) (at4 b 0) else if sgnI (at4 a 4) (at4 b 4) ≠ 0 then sgnI (at4 a 4) (at4 b 4) else 0) = _
  by_cases h : sgnI (at4 a 0) (at4 b 0) ≠ 0
  · rw [if_pos h, if_pos h]
  · rw [if_neg h, if_neg h]
    split
    · rfl
    · rename_i h2
      simp only [ne_eq, Decidable.not_not] at h2
      exact h2.symm
theorem keyOk_2 {s : List UInt8} (h : keyOk 2 s = true) : s.length = 4 := by
  unfold keyOk at h
  simp at h
  exact h.1
theorem keyOk_3 {s : List UInt8} (h : keyOk 3 s = true) : s.length = 8 := by
  unfold keyOk at h
  simp at h
  exact h.1
theorem cmp_fn (co : Int) : isFn Tryz.prog (cmpF co) = true := by
  unfold cmpF
  split
  · kernel_rfl
  · split <;> kernel_rfl
theorem cmp_calls (w : World) (j : Nat) (a b : List UInt8) (hj : j ≤ 3) (hka : keyOk (j : Int) a = true) (hkb : keyOk (j : Int) b = true) (ha : a.length ≤ 1000000) (hb : b.length ≤ 1000000) : Calls Tryz.prog (cmpF (j : Int)) #[.string (bs a), .string (bs b)] w fun en w' => en = .returned (.int .i64 (cmpK (j : Int) a b)) ∧ Below w.heap.size w w' := by
  match j, hj with
  | 0, _ => exact c110 w a b
  | 1, _ => exact c112 w a b ha hb
  | 2, _ =>
    have h := c116 w a b 1 (keyOk_2 hka) (keyOk_2 hkb) (by decide)
    rw [cmpNs_1] at h
    exact h
  | 3, _ =>
    have h := c116 w a b 2 (keyOk_3 hka) (keyOk_3 hkb) (by decide)
    rw [cmpNs_2] at h
    exact h
theorem keyE_ok {co : Int} {k : List UInt8} (h : keyE co k = 0) : keyOk co k = true := by
  unfold keyE at h
  split at h
  · assumption
  · cases h
def cmpE (co : Int) (a b : List UInt8) : Int := if colE12 co = 0 then if keyE co a = 0 then keyE co b else keyE co a else colE12 co
theorem col_ok {co : Int} (h : colE12 co = 0) : ∃ j : Nat, co = (j : Int) ∧ j ≤ 3 := by
  unfold colE12 at h
  split at h
  · exact ⟨co.toNat, by omega, by omega⟩
  · cases h
theorem c28 (w : World) (co : Int) (a b : List UInt8) (ha : a.length ≤ 1000000) (hb : b.length ≤ 1000000) : Calls Tryz.prog 28 #[.int .i64 co, .string (bs a), .string (bs b)] w fun en w' => en = .returned (.tuple #[.int .i64 (if cmpE co a b = 0 then cmpK co a b else 0), .int .i64 (cmpE co a b)]) ∧ Below w.heap.size w w' := by
 refine enter (args := [_, _, _]) Tryz.func28 Tryz.ntmps28 rfl rfl (HS.refl w []) ?_
 iterate 9 refine aS ?_
 refine o_q (q_call rfl fn_74 rfl (fun w1 h1 => c74 w1 _)) rfl ?_
 iterate 7 refine aS ?_
 refine s_cond rfl (fun h1 => ?_) fun h1 => ?_
 ·try simp only [Bool.not_eq_true', decide_eq_false_iff_not] at h1
  have h0 : ¬ colE12 co = 0 := h1
  have hz : cmpE co a b = colE12 co := by unfold cmpE; rw [if_neg h0]
  iterate 6 refine aS ?_
  exact s_retv (rs := [.tmp 6, .tmp 7]) rfl (.tmp rfl (.tmp rfl (.nil))) (fun w' h' => ⟨by rw [hz, if_neg h0]; rfl, h'.below⟩)
 try simp only [Bool.not_eq_false', decide_eq_true_eq] at h1
 have h0 : colE12 co = 0 := h1
 obtain ⟨j, rfl, hj⟩ := col_ok h0
 have hz : cmpE (j : Int) a b = firstV [.int .i64 (keyE (j : Int) a), .int .i64 (keyE (j : Int) b)] := by rw [firstW2]; unfold cmpE; rw [if_pos h0]
 iterate 6 refine aS ?_
 refine o_q (q_call rfl fn_76 rfl (fun w1 h1 => c76 w1 j a hj ha)) rfl ?_
 iterate 2 refine aS ?_
 refine o_q (q_call rfl fn_76 rfl (fun w1 h1 => c76 w1 j b hj hb)) rfl ?_
 refine o_h (h_buildSlice (cs := [_, _]) rfl rfl sl_165 zr_31 rfl rfl rfl) rfl (fun b2 _ => ?_)
 refine o_q (q_call rfl fn_75 rfl (fun w1 h1 => f75 h1 aPk (by rfl) (by rfl) (by decide))) rfl ?_
 iterate 7 refine aS ?_
 refine s_cond rfl (fun h3 => ?_) fun h3 => ?_
 ·try simp only [Bool.not_eq_true', decide_eq_false_iff_not] at h3
  have h1 : ¬ firstV [.int .i64 (keyE (j : Int) a), .int .i64 (keyE (j : Int) b)] = 0 := h3
  iterate 6 refine aS ?_
  exact s_retv (rs := [.tmp 6, .tmp 7]) rfl (.tmp rfl (.tmp rfl (.nil))) (fun w' h' => ⟨by rw [hz, if_neg h1]; rfl, h'.below⟩)
 try simp only [Bool.not_eq_false', decide_eq_true_eq] at h3
 have h1 : firstV [.int .i64 (keyE (j : Int) a), .int .i64 (keyE (j : Int) b)] = 0 := h3
 obtain ⟨hka, hkb⟩ : keyE (j : Int) a = 0 ∧ keyE (j : Int) b = 0 := by rw [firstW2] at h1; split at h1; exact ⟨by assumption, h1⟩; rename_i h9; exact absurd h1 h9
 iterate 3 refine aS ?_
 refine o_q (q_call rfl fn_77 rfl (fun w1 h1 => c77 w1)) rfl ?_
 refine aS ?_
 refine o_p (p_indexn rfl rfl rfl ar_132 sz_110 j rfl (by omega)) rfl ?_
 refine o_slot (ord_slot j hj) ?_
 refine o_p (p_field1 rfl rfl fd_110_1 sz_108 rfl) rfl ?_
 iterate 2 refine aS ?_
 refine o_q (q_callv rfl rfl (cmp_fn _) rfl (fun w1 h1 => cmp_calls w1 j a b hj (keyE_ok hka) (keyE_ok hkb) ha hb)) rfl ?_
 iterate 3 refine aS ?_
 exact s_retv (rs := [.tmp 6, .tmp 7]) rfl (.tmp rfl (.tmp rfl (.nil))) (fun w' h' => ⟨by rw [hz, if_pos h1, h1]; rfl, h'.below⟩)
instance : TFd Tryz.prog 26 0 0 9 := ⟨by kernel_rfl⟩
theorem sz_9 : tsz Tryz.prog 9 = some (1, false) := by kernel_rfl
instance : TSz Tryz.prog 9 1 false := ⟨sz_9⟩
instance : TFd Tryz.prog 26 1 1 9 := ⟨by kernel_rfl⟩
theorem ent_slot (co : Int) (x : TEnt) : Ending.returned (Value.int .i64 (if keyE co x.key = 0 then cond (decide ((x.val.length : Int) ≤ 64)) 0 8 else keyE co x.key)) = Ending.returned (Value.int .i64 (entE co x)) := by
  unfold entE
  by_cases h : keyE co x.key = 0
  · rw [if_pos h, if_pos h]
    by_cases h2 : x.val.length ≤ 64
    · rw [if_pos h2, decide_eq_true (by omega)]; rfl
    · rw [if_neg h2, decide_eq_false (by omega)]; rfl
  · rw [if_neg h, if_neg h]
    unfold keyE at h ⊢
    split at h
    · exact absurd rfl h
    · rename_i h3
      rw [if_neg h3]
theorem c91 (w : World) (j : Nat) (x : TEnt) (hj : j ≤ 3) (hm : x.key.length ≤ 1000000) : Calls Tryz.prog 91 #[.int .i64 (j : Int), .agg #[.string (bs x.key), .string (bs x.val)]] w fun en w' => en = .returned (.int .i64 (entE (j : Int) x)) ∧ Below w.heap.size w w' := by
 refine enter (args := [_, _]) Tryz.func91 Tryz.ntmps91 rfl rfl (HS.refl w []) ?_
 iterate 2 refine aS ?_
 refine oBx fun b1 _ => ?_
 iterate 3 refine aS ?_
 refine s_draw [] mixed ?_
 refine dP 0 ?_
 refine dFa 1 ?_
 refine dLd 2 [] ?_
 refine d_q 3 [] rfl (q_call rfl fn_76 rfl (fun w1 h1 => c76 w1 j x.key hj hm)) (by kernel_rfl) (by kernel_rfl) (by kernel_rfl) rfl ?_
 refine dFa 4 ?_
 refine dLd 5 [] ?_
 refine d_p 6 rfl (p_len_str rfl rfl Tryz.underlying9) (by kernel_rfl) rfl rfl ?_
 refine dP 7 ?_
 refine d_q 8 [] rfl (q_call rfl fn_81 rfl (fun w1 h1 => c81 w1 _ _)) (by kernel_rfl) (by kernel_rfl) (by kernel_rfl) rfl ?_
 refine d_h 9 rfl (h_buildSlice (cs := [_, _]) rfl rfl sl_165 zr_31 rfl rfl rfl) (by kernel_rfl) (fun w h => h.ent aEt) rfl (fun b2 _ => ?_)
 refine dBa ?_
 refine d_q 10 [] rfl (q_call rfl fn_75 rfl (fun w1 h1 => f75 h1 aPk (by rfl) (by rfl) (by decide))) (by kernel_rfl) (by kernel_rfl) (by kernel_rfl) rfl ?_
 refine dP 11 ?_
 refine dNi ?_
 exact s_retv (rs := [.tmp 4]) rfl (.tmp rfl (.nil)) (fun w' h' => ⟨by simp only [retV]; rw [firstW2]; exact ent_slot _ _, h'.below⟩)
theorem fn_71 : isFn Tryz.prog 71 = true := by kernel_rfl
theorem fn_70 : isFn Tryz.prog 70 = true := by kernel_rfl
theorem kok0 (s : List UInt8) : keyOk ((0 : Nat) : Int) s = (decide ((1 : Int) ≤ (s.length : Int)) && decide ((s.length : Int) ≤ 40)) := by
  rw [Bool.eq_iff_iff]; simp [keyOk]; omega
theorem kok1 (s : List UInt8) : keyOk ((1 : Nat) : Int) s = (decide ((1 : Int) ≤ (s.length : Int)) && decide ((s.length : Int) ≤ 32)) := by
  rw [Bool.eq_iff_iff]; simp [keyOk]; omega
theorem kok2 (s : List UInt8) : keyOk ((2 : Nat) : Int) s = (decide ((s.length : Int) = 4) && (decide (0 ≤ at4 s 0) && decide (at4 s 0 ≤ 2147483647))) := by
  have := at4_le s 0
  rw [Bool.eq_iff_iff]; simp [keyOk, numOk]; omega
theorem kok3 (s : List UInt8) : keyOk ((3 : Nat) : Int) s = (decide ((s.length : Int) = 8) && (decide (0 ≤ at4 s 0) && decide (at4 s 0 ≤ 2147483647)) && (decide (0 ≤ at4 s 4) && decide (at4 s 4 ≤ 2147483647))) := by
  have := at4_le s 0
  have := at4_le s 4
  rw [Bool.eq_iff_iff]; simp [keyOk, numOk]; omega
theorem c26 (w : World) (j : Nat) (s : List UInt8) (hj : j ≤ 3) (hm : s.length ≤ 1000000) : Calls Tryz.prog 26 #[.int .i64 (j : Int), .string (bs s)] w fun en w' => en = .returned (.int .i64 (keyE (j : Int) s)) ∧ Below w.heap.size w w' := by
 refine enter (args := [_, _]) Tryz.func26 Tryz.ntmps26 rfl rfl (HS.refl w []) ?_
 iterate 7 refine aS ?_
 refine o_p (p_len_str rfl rfl Tryz.underlying9) rfl ?_
 refine o_q (q_call rfl fn_46 rfl (fun w1 h1 => c46 w1 _ _ _)) rfl ?_
 iterate 13 refine aS ?_
 refine s_cutI (α := Unit) [5, 12, 13, 14, 15, 16, 17, 18, 19, 20, 21, 22, 23, 24, 25, 26, 27, 28, 29, 30, 31, 32, 33, 34, 35, 36, 37, 38, 39] (fun _ => [(5, .bool (keyOk (j : Int) s))]) (fun _ => HS w [] []) (fun _ => True) ?_ ?_
 ·skip
  refine s_cond rfl (fun h1 => ?_) fun h1 => ?_
  ·try simp only [decide_eq_true_eq] at h1
   obtain rfl : j = 1 := by have hq := h1; omega
   iterate 2 refine aS ?_
   refine o_p (p_len_str rfl rfl Tryz.underlying9) rfl ?_
   refine o_q (q_call rfl fn_46 rfl (fun w1 h1 => c46 w1 _ _ _)) rfl ?_
   iterate 2 refine aS ?_
   exact s_joinI () trivial (by rw [kok1]; exact aSx) (fun w h => h.ent aEt)
  try simp only [decide_eq_false_iff_not] at h1
  have hn1 : ¬ (j : Int) = 1 := h1
  iterate 5 refine aS ?_
  refine s_cond rfl (fun h2 => ?_) fun h2 => ?_
  ·try simp only [decide_eq_true_eq] at h2
   obtain rfl : j = 2 := by have hq := h2; omega
   iterate 2 refine aS ?_
   refine o_p (p_len_str rfl rfl Tryz.underlying9) rfl ?_
   iterate 2 refine aS ?_
   refine o_and 4 20 24 _ _ rfl
    (by
     intro hg3
     have hs4 := hg3; try simp only [decide_eq_true_eq] at hs4
     refine oOn 20 hg3 ?_
     refine aS ?_
     refine oOn 20 hg3 ?_
     refine o_q (q_call rfl fn_71 rfl (fun w1 h1 => by have h9 := c71 w1 s 0 4 (by omega) (by omega) (by have hq := hg3; first | omega | (simp at hq; omega)); rw [litN_4] at h9; exact h9)) rfl ?_
     refine oOn 20 hg3 ?_
     refine o_q (q_call rfl fn_70 rfl (fun w1 h1 => c70 w1 _)) rfl ?_
     refine o_p (p_pickt rfl rfl hg3 rfl) rfl ?_
     refine aS ?_
     exact oJn 4 24)
    (by
     intro hg5
     have hs6 := hg5; try simp only [decide_eq_false_iff_not] at hs6
     refine oOf 20 hg5 ?_
     refine oOf 20 hg5 ?_
     refine oOf 20 hg5 ?_
     refine o_p (p_pickf rfl rfl hg5 rfl) rfl ?_
     refine aS ?_
     exact oJn 4 24) ?_
   iterate 2 refine aS ?_
   exact s_joinI () trivial (by rw [kok2]; exact aSx) (fun w h => h.ent aEt)
  try simp only [decide_eq_false_iff_not] at h2
  have hn2 : ¬ (j : Int) = 2 := h2
  iterate 5 refine aS ?_
  refine s_cond rfl (fun h7 => ?_) fun h7 => ?_
  ·try simp only [decide_eq_true_eq] at h7
   obtain rfl : j = 3 := by have hq := h7; omega
   iterate 2 refine aS ?_
   refine o_p (p_len_str rfl rfl Tryz.underlying9) rfl ?_
   iterate 2 refine aS ?_
   refine o_and 4 30 34 _ _ rfl
    (by
     intro hg8
     have hs9 := hg8; try simp only [decide_eq_true_eq] at hs9
     refine oOn 30 hg8 ?_
     refine aS ?_
     refine oOn 30 hg8 ?_
     refine o_q (q_call rfl fn_71 rfl (fun w1 h1 => by have h9 := c71 w1 s 0 4 (by omega) (by omega) (by have hq := hg8; first | omega | (simp at hq; omega)); rw [litN_4] at h9; exact h9)) rfl ?_
     refine oOn 30 hg8 ?_
     refine o_q (q_call rfl fn_70 rfl (fun w1 h1 => c70 w1 _)) rfl ?_
     refine o_p (p_pickt rfl rfl hg8 rfl) rfl ?_
     refine aS ?_
     exact oJn 4 34)
    (by
     intro hg10
     have hs11 := hg10; try simp only [decide_eq_false_iff_not] at hs11
     refine oOf 30 hg10 ?_
     refine oOf 30 hg10 ?_
     refine oOf 30 hg10 ?_
     refine o_p (p_pickf rfl rfl hg10 rfl) rfl ?_
     refine aS ?_
     exact oJn 4 34) ?_
   refine aS ?_
   refine o_and 4 35 39 _ _ rfl
    (by
     intro hg12
     have hs13 := hg12; try simp only [Bool.and_eq_true, decide_eq_true_eq] at hs13
     refine oOn 35 hg12 ?_
     refine aS ?_
     refine oOn 35 hg12 ?_
     refine o_q (q_call rfl fn_71 rfl (fun w1 h1 => by have h9 := c71 w1 s 4 4 (by omega) (by omega) (by have hq := hg12; first | omega | (simp at hq; omega)); rw [litN_4] at h9; exact h9)) rfl ?_
     refine oOn 35 hg12 ?_
     refine o_q (q_call rfl fn_70 rfl (fun w1 h1 => c70 w1 _)) rfl ?_
     refine o_p (p_pickt rfl rfl hg12 rfl) rfl ?_
     refine aS ?_
     exact oJn 4 39)
    (by
     intro hg14
     have hs15 := hg14; try simp only [Bool.and_eq_false_iff, decide_eq_false_iff_not] at hs15
     refine oOf 35 hg14 ?_
     refine oOf 35 hg14 ?_
     refine oOf 35 hg14 ?_
     refine o_p (p_pickf rfl rfl hg14 rfl) rfl ?_
     refine aS ?_
     exact oJn 4 39) ?_
   iterate 2 refine aS ?_
   exact s_joinI () trivial (by rw [kok3]; exact aSx) (fun w h => h.ent aEt)
  try simp only [decide_eq_false_iff_not] at h7
  have hn3 : ¬ (j : Int) = 3 := h7
  obtain rfl : j = 0 := by omega
  refine aS ?_
  exact s_joinI () trivial (by rw [kok0]; exact aSx) (fun w h => h.ent aEt)
 intro _ _
 iterate 7 refine aS ?_
 refine s_cond rfl (fun h16 => ?_) fun h16 => ?_
 ·try simp only [Bool.not_eq_true'] at h16
  have hz : keyE (j : Int) s = 3 := by have hq := h16; unfold keyE; rw [if_neg (by simpa using hq)]
  iterate 4 refine aS ?_
  exact s_retv (rs := [.tmp 4]) rfl (.tmp rfl (.nil)) (fun w' h' => ⟨by rw [hz]; rfl, h'.below⟩)
 try simp only [Bool.not_eq_false'] at h16
 have hz : keyE (j : Int) s = 0 := by have hq := h16; unfold keyE; rw [if_pos (by simpa using hq)]
 iterate 5 refine aS ?_
 exact s_retv (rs := [.tmp 4]) rfl (.tmp rfl (.nil)) (fun w' h' => ⟨by rw [hz]; rfl, h'.below⟩)
theorem fn_26 : isFn Tryz.prog 26 = true := by kernel_rfl
theorem c19 (w : World) (j : Nat) (x : TEnt) (hj : j ≤ 3) (hm : x.key.length ≤ 1000000) : Calls Tryz.prog 19 #[.int .i64 (j : Int), .agg #[.string (bs x.key), .string (bs x.val)]] w fun en w' => en = .returned (.int .i64 (entE (j : Int) x)) ∧ Below w.heap.size w w' := by
 refine enter (args := [_, _]) Tryz.func19 Tryz.ntmps19 rfl rfl (HS.refl w []) ?_
 iterate 2 refine aS ?_
 refine oBx fun b1 _ => ?_
 iterate 8 refine aS ?_
 refine o_q (q_call rfl fn_26 rfl (fun w1 h1 => c26 w1 j x.key hj hm)) rfl ?_
 iterate 7 refine aS ?_
 refine s_cond rfl (fun h2 => ?_) fun h2 => ?_
 ·try simp only [Bool.not_eq_true', decide_eq_false_iff_not] at h2
  have h0 : ¬ keyE (j : Int) x.key = 0 := h2
  have hz : entE (j : Int) x = keyE (j : Int) x.key := by have h9 := ent_slot (j : Int) x; rw [if_neg h0] at h9; injection h9 with h9; injection h9 with _ h9; exact h9.symm
  iterate 5 refine aS ?_
  exact s_retv (rs := [.tmp 4]) rfl (.tmp rfl (.nil)) (fun w' h' => ⟨by rw [hz]; rfl, h'.below⟩)
 try simp only [Bool.not_eq_false', decide_eq_true_eq] at h2
 have h0 : keyE (j : Int) x.key = 0 := h2
 iterate 6 refine aS ?_
 refine o_p (p_len_str rfl rfl Tryz.underlying9) rfl ?_
 iterate 2 refine aS ?_
 refine s_cond rfl (fun h3 => ?_) fun h3 => ?_
 ·try simp only [decide_eq_true_eq] at h3
  have hz : entE (j : Int) x = 8 := by have hq := h3; unfold entE; rw [if_pos h0, if_neg (by omega)]
  iterate 4 refine aS ?_
  exact s_retv (rs := [.tmp 4]) rfl (.tmp rfl (.nil)) (fun w' h' => ⟨by rw [hz]; rfl, h'.below⟩)
 try simp only [decide_eq_false_iff_not] at h3
 have hz : entE (j : Int) x = 0 := by have hq := h3; unfold entE; rw [if_pos h0, if_pos (by omega)]
 iterate 5 refine aS ?_
 exact s_retv (rs := [.tmp 4]) rfl (.tmp rfl (.nil)) (fun w' h' => ⟨by rw [hz]; rfl, h'.below⟩)
theorem fn_79 : isFn Tryz.prog 79 = true := by kernel_rfl
theorem fn_80 : isFn Tryz.prog 80 = true := by kernel_rfl
def mpK (j : Int) (l : List UInt8) : List UInt8 := if j = 1 then l.map capB else l
theorem mpK_len (j : Int) (l : List UInt8) : (mpK j l).length = l.length := by unfold mpK; split <;> simp
theorem cmpK_mp {j : Nat} (h2 : ¬ (j : Int) = 2) (h3 : ¬ (j : Int) = 3) (a b : List UInt8) : cmpK (j : Int) a b = cmpB (mpK (j : Int) a) (mpK (j : Int) b) := by
  unfold cmpK mpK
  rw [if_neg h2, if_neg h3]
  split <;> rfl
theorem cmpB_step {x y : List UInt8} {k : Nat} (hx : k < x.length) (hy : k < y.length) : cmpB (x.drop k) (y.drop k) = if sgnI ((x.getD k 0).toNat : Int) ((y.getD k 0).toNat : Int) ≠ 0 then sgnI ((x.getD k 0).toNat : Int) ((y.getD k 0).toNat : Int) else cmpB (x.drop (k + 1)) (y.drop (k + 1)) := by
  rw [List.drop_eq_getElem_cons hx, List.drop_eq_getElem_cons hy, List.getD_eq_getElem?_getD, List.getD_eq_getElem?_getD, List.getElem?_eq_getElem hx, List.getElem?_eq_getElem hy]
  simp only [cmpB, Option.getD_some, sgnI, UInt8.lt_iff_toNat_lt]
  split
  · rename_i h
    rw [if_pos (by omega), if_pos (by omega)]
  · rename_i h
    rw [if_neg (show ¬ ((x[k].toNat : Int) < y[k].toNat) by omega)]
    split
    · rename_i h2
      rw [if_pos (by omega), if_pos (by omega)]
    · rename_i h2
      rw [if_neg (by omega)]
theorem cmpB_len {x y : List UInt8} {k : Nat} (hx : k ≤ x.length) (hy : k ≤ y.length) (h : ¬ (k < x.length ∧ k < y.length)) : cmpB (x.drop k) (y.drop k) = sgnI (x.length : Int) (y.length : Int) := by
  unfold sgnI
  rcases Nat.lt_or_ge k x.length with h1 | h1
  · have e : y.drop k = [] := List.drop_of_length_le (by omega)
    rw [e, List.drop_eq_getElem_cons h1, if_neg (by omega), if_pos (by omega)]
    rfl
  · have e : x.drop k = [] := List.drop_of_length_le h1
    rw [e]
    rcases Nat.lt_or_ge k y.length with h2 | h2
    · rw [List.drop_eq_getElem_cons h2, if_pos (by omega)]
      rfl
    · have e2 : y.drop k = [] := List.drop_of_length_le h2
      rw [e2, if_neg (by omega), if_neg (by omega)]
      rfl
theorem mpK_cap {a : List UInt8} {k : Nat} (h : k < a.length) : (((mpK 1 a).getD k 0).toNat : Int) = capI ((a.getD k 0).toNat : Int) := by
  unfold mpK
  rw [if_pos rfl, capI_cap, List.getD_eq_getElem?_getD, List.getElem?_map, List.getElem?_eq_getElem h, List.getD_eq_getElem?_getD, List.getElem?_eq_getElem h]
  rfl
theorem mpK_id {j : Int} (hj : ¬ j = 1) (a : List UInt8) : mpK j a = a := by unfold mpK; rw [if_neg hj]
theorem c33 (w : World) (j : Nat) (a b : List UInt8) (hj : j ≤ 3) (hka : keyOk (j : Int) a = true) (hkb : keyOk (j : Int) b = true) (ha : a.length ≤ 1000000) (hb : b.length ≤ 1000000) : Calls Tryz.prog 33 #[.int .i64 (j : Int), .string (bs a), .string (bs b)] w fun en w' => en = .returned (.int .i64 (cmpK (j : Int) a b)) ∧ Below w.heap.size w w' := by
 refine enter (args := [_, _, _]) Tryz.func33 Tryz.ntmps33 rfl rfl (HS.refl w []) ?_
 iterate 15 refine aS ?_
 refine s_cond rfl (fun h1 => ?_) fun h1 => ?_
 ·try simp only [decide_eq_true_eq] at h1
  obtain rfl : j = 2 := by have hq := h1; omega
  have hl1 := keyOk_2 hka
  have hl2 := keyOk_2 hkb
  have hz : cmpK ((2 : Nat) : Int) a b = sgnI (at4 a 0) (at4 b 0) := rfl
  iterate 3 refine aS ?_
  refine o_q (q_call rfl fn_71 rfl (fun w1 h1 => by have h9 := c71 w1 a 0 4 (by omega) (by omega) (by omega); rw [litN_4] at h9; exact h9)) rfl ?_
  refine aS ?_
  refine o_q (q_call rfl fn_71 rfl (fun w1 h1 => by have h9 := c71 w1 b 0 4 (by omega) (by omega) (by omega); rw [litN_4] at h9; exact h9)) rfl ?_
  refine o_q (q_call rfl fn_79 rfl (fun w1 h1 => c79 w1 _ _)) rfl ?_
  iterate 2 refine aS ?_
  exact s_retv (rs := [.tmp 6]) rfl (.tmp rfl (.nil)) (fun w' h' => ⟨by rw [hz]; rfl, h'.below⟩)
 try simp only [decide_eq_false_iff_not] at h1
 have hn2 : ¬ (j : Int) = 2 := h1
 iterate 5 refine aS ?_
 refine s_cond rfl (fun h2 => ?_) fun h2 => ?_
 ·try simp only [decide_eq_true_eq] at h2
  obtain rfl : j = 3 := by have hq := h2; omega
  have hl1 := keyOk_3 hka
  have hl2 := keyOk_3 hkb
  have hz : cmpK ((3 : Nat) : Int) a b = if sgnI (at4 a 0) (at4 b 0) ≠ 0 then sgnI (at4 a 0) (at4 b 0) else sgnI (at4 a 4) (at4 b 4) := rfl
  iterate 4 refine aS ?_
  refine o_q (q_call rfl fn_71 rfl (fun w1 h1 => by have h9 := c71 w1 a 0 4 (by omega) (by omega) (by omega); rw [litN_4] at h9; exact h9)) rfl ?_
  refine aS ?_
  refine o_q (q_call rfl fn_71 rfl (fun w1 h1 => by have h9 := c71 w1 b 0 4 (by omega) (by omega) (by omega); rw [litN_4] at h9; exact h9)) rfl ?_
  refine o_q (q_call rfl fn_79 rfl (fun w1 h1 => c79 w1 _ _)) rfl ?_
  iterate 7 refine aS ?_
  refine s_cond rfl (fun h3 => ?_) fun h3 => ?_
  ·try simp only [Bool.not_eq_true', decide_eq_false_iff_not] at h3
   have hq9 : sgnI (at4 a 0) (at4 b 0) ≠ 0 := h3
   rw [if_pos hq9] at hz
   iterate 5 refine aS ?_
   exact s_retv (rs := [.tmp 6]) rfl (.tmp rfl (.nil)) (fun w' h' => ⟨by rw [hz]; rfl, h'.below⟩)
  try simp only [Bool.not_eq_false', decide_eq_true_eq] at h3
  have hq9 : ¬ sgnI (at4 a 0) (at4 b 0) ≠ 0 := by have hq8 := h3; simpa using hq8
  rw [if_neg hq9] at hz
  iterate 4 refine aS ?_
  refine o_q (q_call rfl fn_71 rfl (fun w1 h1 => by have h9 := c71 w1 a 4 4 (by omega) (by omega) (by omega); rw [litN_4] at h9; exact h9)) rfl ?_
  refine aS ?_
  refine o_q (q_call rfl fn_71 rfl (fun w1 h1 => by have h9 := c71 w1 b 4 4 (by omega) (by omega) (by omega); rw [litN_4] at h9; exact h9)) rfl ?_
  refine o_q (q_call rfl fn_79 rfl (fun w1 h1 => c79 w1 _ _)) rfl ?_
  iterate 2 refine aS ?_
  exact s_retv (rs := [.tmp 6]) rfl (.tmp rfl (.nil)) (fun w' h' => ⟨by rw [hz]; rfl, h'.below⟩)
 try simp only [decide_eq_false_iff_not] at h2
 have hn3 : ¬ (j : Int) = 3 := h2
 have hmp := cmpK_mp hn2 hn3 a b
 iterate 8 refine aS ?_
 refine s_loopI (α := Nat) [6, 8, 9, 10, 11, 35, 36, 37, 38, 39, 40, 41, 42, 43, 44, 45, 46, 47, 48, 49, 50, 51, 52, 53, 54, 55, 56, 57, 58, 59, 60, 61, 62, 63, 64, 65, 66] (fun k => [(8, .int .i64 (k : Int))]) (fun _ => _) (fun k => k ≤ a.length ∧ k ≤ b.length ∧ cmpB (mpK (j : Int) a) (mpK (j : Int) b) = cmpB ((mpK (j : Int) a).drop k) ((mpK (j : Int) b).drop k)) (fun k => a.length - k) 0 ⟨Nat.zero_le _, Nat.zero_le _, rfl⟩ aSx (fun w h => h) (fun k hx => ?_)
 obtain ⟨hk1, hk2, hk3⟩ := hx
 iterate 5 refine aS ?_
 refine o_p (p_len_str rfl rfl Tryz.underlying9) rfl ?_
 iterate 2 refine aS ?_
 refine o_and 5 39 44 _ _ rfl
  (by
   intro hg4
   have hs5 := hg4; try simp only [decide_eq_true_eq] at hs5
   refine oOn 39 hg4 ?_
   refine aS ?_
   refine oOn 39 hg4 ?_
   refine aS ?_
   refine oOn 39 hg4 ?_
   refine o_p (p_len_str rfl rfl Tryz.underlying9) rfl ?_
   refine oOn 39 hg4 ?_
   refine aS ?_
   refine o_p (p_pickt rfl rfl hg4 rfl) rfl ?_
   refine aS ?_
   exact oJn 5 44)
  (by
   intro hg6
   have hs7 := hg6; try simp only [decide_eq_false_iff_not] at hs7
   refine oOf 39 hg6 ?_
   refine oOf 39 hg6 ?_
   refine oOf 39 hg6 ?_
   refine oOf 39 hg6 ?_
   refine o_p (p_pickf rfl rfl hg6 rfl) rfl ?_
   refine aS ?_
   exact oJn 5 44) ?_
 refine aS ?_
 refine s_cond rfl (fun h8 => ?_) fun h8 => ?_
 ·try simp only [Bool.and_eq_true, decide_eq_true_eq] at h8
  obtain ⟨hka1, hkb1⟩ : k < a.length ∧ k < b.length := by have hq := h8; omega
  have hb1 := (a.getD k 0).toNat_lt
  have hb2 := (b.getD k 0).toNat_lt
  have hst := cmpB_step (x := mpK (j : Int) a) (y := mpK (j : Int) b) (k := k) (by rw [mpK_len]; exact hka1) (by rw [mpK_len]; exact hkb1)
  iterate 4 refine aS ?_
  refine s_draw [] mixed ?_
  refine dP 0 ?_
  refine dP 1 ?_
  refine d_p 2 rfl (p_index_str rfl rfl rfl Tryz.underlying9 (k) (by omega) (by omega)) (by kernel_rfl) rfl rfl ?_
  refine d_p 3 rfl (p_conv_int rfl rfl ki_5 ki_3) (by kernel_rfl) rfl rfl ?_
  try refine dWr ?_
  refine dP 4 ?_
  refine dP 5 ?_
  refine d_p 6 rfl (p_index_str rfl rfl rfl Tryz.underlying9 (k) (by omega) (by omega)) (by kernel_rfl) rfl rfl ?_
  refine d_p 7 rfl (p_conv_int rfl rfl ki_5 ki_3) (by kernel_rfl) rfl rfl ?_
  try refine dWr ?_
  refine dP 8 ?_
  refine dP 9 ?_
  refine dNi ?_
  iterate 6 refine aS ?_
  refine s_weaken (L' := [(0, _), (1, _), (2, _), (8, _), (9, _), (10, _), (12, _), (13, _), (14, _), (20, _), (21, _), (56, _)]) aSx (fun _ h => h) ?_
  refine s_cutI (α := Unit) [9, 10, 57, 58, 59, 60] (fun _ => [(9, .int .i64 (((mpK (j : Int) a).getD k 0).toNat : Int)), (10, .int .i64 (((mpK (j : Int) b).getD k 0).toNat : Int))]) (fun _ => HS w [] []) (fun _ => True) ?_ ?_
  ·skip
   refine s_cond rfl (fun h9 => ?_) fun h9 => ?_
   ·try simp only [decide_eq_true_eq] at h9
    obtain rfl : j = 1 := by have hq := h9; omega
    iterate 2 refine aS ?_
    refine o_q (q_call rfl fn_80 rfl (fun w1 h1 => c80 w1 _ (by omega))) rfl ?_
    refine aS ?_
    refine o_q (q_call rfl fn_80 rfl (fun w1 h1 => c80 w1 _ (by omega))) rfl ?_
    iterate 3 refine aS ?_
    exact s_joinI () trivial (by rw [show (((1 : Nat) : Int)) = 1 from rfl, mpK_cap hka1, mpK_cap hkb1]; exact aSx) (fun w h => h.ent aEt)
   try simp only [decide_eq_false_iff_not] at h9
   have hn1 : ¬ (j : Int) = 1 := h9
   refine aS ?_
   exact s_joinI () trivial (by rw [mpK_id hn1, mpK_id hn1]; exact aSx) (fun w h => h.ent aEt)
  intro _ _
  iterate 4 refine aS ?_
  refine o_q (q_call rfl fn_79 rfl (fun w1 h1 => c79 w1 _ _)) rfl ?_
  iterate 7 refine aS ?_
  refine s_cond rfl (fun h10 => ?_) fun h10 => ?_
  ·try simp only [Bool.not_eq_true', decide_eq_false_iff_not] at h10
   have hq9 : sgnI (((mpK (j : Int) a).getD k 0).toNat : Int) (((mpK (j : Int) b).getD k 0).toNat : Int) ≠ 0 := h10
   have hz := hmp.trans (hk3.trans (hst.trans (if_pos hq9)))
   iterate 5 refine aS ?_
   exact s_retv (rs := [.tmp 6]) rfl (.tmp rfl (.nil)) (fun w' h' => ⟨by rw [hz]; rfl, h'.below⟩)
  try simp only [Bool.not_eq_false', decide_eq_true_eq] at h10
  have hq9 : ¬ sgnI (((mpK (j : Int) a).getD k 0).toNat : Int) (((mpK (j : Int) b).getD k 0).toNat : Int) ≠ 0 := by have hq8 := h10; simpa using hq8
  have hz := hk3.trans (hst.trans (if_neg hq9))
  iterate 5 refine aS ?_
  try refine oWr ?_
  iterate 2 refine aS ?_
  exact s_backI (k + 1) (by omega) ⟨by omega, by omega, hz⟩ aSx (fun w h => h)
 try simp only [Bool.and_eq_false_iff, decide_eq_false_iff_not] at h8
 have hz := cmpB_len (x := mpK (j : Int) a) (y := mpK (j : Int) b) (k := k) (by rw [mpK_len]; exact hk1) (by rw [mpK_len]; exact hk2) (by rw [mpK_len, mpK_len]; have hq := h8; omega)
 rw [← hk3, ← hmp, mpK_len, mpK_len] at hz
 refine s_exit_to rfl ?_
 iterate 3 refine aS ?_
 refine o_p (p_len_str rfl rfl Tryz.underlying9) rfl ?_
 refine aS ?_
 refine o_p (p_len_str rfl rfl Tryz.underlying9) rfl ?_
 refine o_q (q_call rfl fn_79 rfl (fun w1 h1 => c79 w1 _ _)) rfl ?_
 iterate 2 refine aS ?_
 exact s_retv (rs := [.tmp 6]) rfl (.tmp rfl (.nil)) (fun w' h' => ⟨by rw [hz]; rfl, h'.below⟩)
theorem zr_24 : tzero Tryz.prog 24 = some [.int .i64 0, .int .i64 0, .int .i64 0, .slice none 0 0] := by kernel_rfl
theorem pl_102 : tplaces Tryz.prog 102 = some [(0, 1), (1, 1), (2, 1)] := by kernel_rfl
theorem zr_102 : tzero Tryz.prog 102 = some [.bool false, .slice none 0 0, .slice none 0 0] := by kernel_rfl
theorem sl_22 : tsl Tryz.prog 22 = some (102, 3, 56) := by kernel_rfl
theorem pl_24 : tplaces Tryz.prog 24 = some [(0, 1), (1, 1), (2, 1), (3, 1)] := by kernel_rfl
theorem sz_24 : tsz Tryz.prog 24 = some (4, true) := by kernel_rfl
instance : TSz Tryz.prog 24 4 true := ⟨sz_24⟩
theorem c32 (w : World) (co mo rm : Int) : Calls Tryz.prog 32 #[.int .i64 co, .int .i64 mo, .int .i64 rm] w fun en w' => ∃ g : Option Addr × Nat, en = .returned (.agg #[.int .i64 co, .int .i64 mo, .int .i64 rm, .slice g.1 1 g.2]) ∧ True ∧ HS w [] [.own (.slice g.1 1 g.2) 102 3 1 [.bool true, .slice none 0 0, .slice none 0 0]] w' := by
 refine enter (args := [_, _, _]) Tryz.func32 Tryz.ntmps32 rfl rfl (HS.refl w []) ?_
 iterate 2 refine aS ?_
 refine oAl (fun b1 _ => ?_) zr_24
 iterate 6 refine aS ?_
 refine o_p (p_build (cs := [_, _, _]) rfl rfl pl_102 zr_102 rfl) rfl ?_
 refine o_h (h_buildSlice (cs := [_, _, _]) rfl rfl sl_22 zr_102 rfl rfl rfl) rfl (fun b2 _ => ?_)
 refine o_p (p_build (cs := [_, _, _, _]) rfl rfl pl_24 zr_24 rfl) rfl ?_
 refine oSt ?_
 refine aS ?_
 exact s_retv (rs := [.cell 6 24]) rfl (.cell rfl sz_24 aPk rfl (.nil)) (fun w' h' => ⟨(some ⟨b2, 0, none⟩, 1), rfl, trivial, (HS.own_shut (n := 1) (cap := 1) (sz := 3) h' rfl (by decide) (by decide)).ent aEt⟩)
end Go.Proofs
namespace Gx
set_option linter.unusedSimpArgs false
set_option linter.unusedVariables false
set_option linter.unusedSectionVars false
open Go Go.RowKit
section
variable {S : Type} (st : S → Vis → S) (er : S → Vis → Int × Int)
def runV : S → List Vis → (Int × Int) × S
  | s, [] => ((0, 0), s)
  | s, v :: vs => if (er s v).2 = 0 then runV (st s v) vs else (er s v, st s v)
theorem runV_append : ∀ (A B : List Vis) (s : S), runV st er s (A ++ B) = if (runV st er s A).1.2 = 0 then runV st er (runV st er s A).2 B else runV st er s A
  | [], B, s => rfl
  | v :: A, B, s => by
    rw [List.cons_append, runV, runV]
    by_cases h : (er s v).2 = 0
    · rw [if_pos h, if_pos h]
      exact runV_append A B _
    · rw [if_neg h, if_neg h, if_neg h]
theorem runV_err {A B : List Vis} {s : S} (h : ¬ (runV st er s A).1.2 = 0) : runV st er s (A ++ B) = runV st er s A := by rw [runV_append, if_neg h]
theorem runV_ok {A B : List Vis} {s : S} (h : (runV st er s A).1.2 = 0) : runV st er s (A ++ B) = runV st er (runV st er s A).2 B := by rw [runV_append, if_pos h]
theorem runV_0 : ∀ {A : List Vis} {s : S}, (runV st er s A).1.2 = 0 → (runV st er s A).1 = (0, 0)
  | [], s, _ => rfl
  | v :: A, s, h => by
    rw [runV] at h ⊢
    split at h
    · rename_i h1
      rw [if_pos h1]
      exact runV_0 h
    · rename_i h1
      exact absurd h h1
end
def kidV (ns : List Nd) (v : Vis) (k : Nat) : Vis := ⟨((nth ns v.i).cs.getD k 0).toNat, v.d + 1, loK (nth ns v.i).es k v.lo, hiK (nth ns v.i).es k v.hi⟩
def visK (ns : List Nd) (f : Nat) (v : Vis) (k : Nat) : List Vis := v :: (List.range k).flatMap fun k => vis ns f (kidV ns v k)
theorem visK_0 (ns : List Nd) (f : Nat) (v : Vis) : visK ns f v 0 = [v] := rfl
theorem visK_succ (ns : List Nd) (f : Nat) (v : Vis) (k : Nat) : visK ns f v (k + 1) = visK ns f v k ++ vis ns f (kidV ns v k) := by
  unfold visK
  rw [List.range_succ, List.flatMap_append, List.flatMap_singleton]
  rfl
theorem visK_all (ns : List Nd) (f : Nat) (v : Vis) : vis ns (f + 1) v = visK ns f v (nth ns v.i).cs.length := rfl
theorem visK_more (ns : List Nd) (f : Nat) (v : Vis) {k m : Nat} (h : k ≤ m) : ∃ B, visK ns f v m = visK ns f v k ++ B := by
  induction m with
  | zero =>
    obtain rfl : k = 0 := by omega
    exact ⟨[], by rw [List.append_nil]⟩
  | succ m ih =>
    rcases Nat.lt_or_ge m k with h1 | h1
    · obtain rfl : k = m + 1 := by omega
      exact ⟨[], by rw [List.append_nil]⟩
    · obtain ⟨B, e⟩ := ih h1
      exact ⟨B ++ vis ns f (kidV ns v m), by rw [visK_succ, e, List.append_assoc]⟩
theorem way_kid {ns : List Nd} {i : Nat} {P : List Nat} (h : Way ns (i :: P)) (hi : i < ns.length) {k : Nat} (hk : k < (nth ns i).cs.length) (hc : 0 ≤ (nth ns i).cs.getD k 0) : Way ns (((nth ns i).cs.getD k 0).toNat :: i :: P) := by
  refine ⟨⟨?_, hi⟩, h⟩
  rw [Int.toNat_of_nonneg hc, List.getD_eq_getElem?_getD, List.getElem?_eq_getElem hk]
  exact List.getElem_mem hk
theorem kid_in {co : Int} {ns : List Nd} (ht : TOk co ns) {i k : Nat} (hi : i < ns.length) (hk : k < (nth ns i).cs.length) : 1 ≤ (nth ns i).cs.getD k 0 ∧ (nth ns i).cs.getD k 0 ≤ (ns.length : Int) - 1 ∧ (nth ns ((nth ns i).cs.getD k 0).toNat).us = true := by
  have hm : (nth ns i).cs.getD k 0 ∈ (nth ns i).cs := by
    rw [List.getD_eq_getElem?_getD, List.getElem?_eq_getElem hk]
    exact List.getElem_mem hk
  have h := ht.kid i hi _ hm
  exact ⟨h.1.1, h.1.2, h.2⟩
def pthN (co : Int) (ns : List Nd) (key : List UInt8) : Nat → Nat → List Nat × Nat × Bool
  | 0, _ => ([], 0, false)
  | f + 1, i => if fnd co (nth ns i).es key = true ∨ (nth ns i).cs.length = 0 then ([i], plc co (nth ns i).es key, fnd co (nth ns i).es key)
      else (i :: (pthN co ns key f ((nth ns i).cs.getD (plc co (nth ns i).es key) 0).toNat).1, (pthN co ns key f ((nth ns i).cs.getD (plc co (nth ns i).es key) 0).toNat).2)
def pathN (co : Int) (ns : List Nd) (key : List UInt8) : List Nat × Nat × Bool := pthN co ns key ns.length 0
structure Bd (ns : List Nd) : Prop where
  len : ns.length ≤ 1000
  es : ∀ i, i < ns.length → (nth ns i).es.length ≤ 1000
  cs : ∀ i, i < ns.length → (nth ns i).cs.length ≤ 1000
theorem pln_len (L : List LNd) : (pln L).length = L.length := by simp
theorem pln_nth {L : List LNd} {i : Nat} (h : i < L.length) : nth (pln L) i = (nth L i).pl := by
  apply nth_eq
  rw [List.getElem?_map, nth_get h]
  rfl
theorem pln_set (L : List LNd) (i : Nat) (n : LNd) : pln (L.set i n) = (pln L).set i n.pl := by simp [List.map_set]
theorem pln_app (L M : List LNd) : pln (L ++ M) = pln L ++ pln M := by simp
def PtrK (w : World) (M : List Nat) (p : Option Addr) (o : Option (List UInt8)) : Prop := match o with
  | none => p = none
  | some k => ∃ b off, p = some ⟨b, off, none⟩ ∧ Rd w M b off (.string (bs k))
theorem PtrK.keep {w w' : World} {M : List Nat} {As : List HA} {p : Option Addr} {o : Option (List UInt8)} (h : PtrK w M p o) (hs : HS w M As w') : PtrK w' (fps As) p o := by
  cases o with
  | none => exact h
  | some k =>
    obtain ⟨b, off, e, hr⟩ := h
    exact ⟨b, off, e, hs.keep hr⟩
theorem PtrK.mono {w : World} {M M' : List Nat} {p : Option Addr} {o : Option (List UInt8)} (h : PtrK w M p o) (hM : ∀ b ∈ M', b ∈ M) : PtrK w M' p o := by
  cases o with
  | none => exact h
  | some k =>
    obtain ⟨b, off, e, hr⟩ := h
    exact ⟨b, off, e, hr.mono hM⟩
theorem PtrK.of_some {w : World} {M : List Nat} {p : Option Addr} {o : Option (List UInt8)} (h : PtrK w M p o) (hp : p.isSome = true) : ∃ k b off, o = some k ∧ p = some ⟨b, off, none⟩ ∧ Rd w M b off (.string (bs k)) := by
  cases o with
  | none =>
    have : p = none := h
    subst this
    cases hp
  | some k =>
    obtain ⟨b, off, e, hr⟩ := h
    exact ⟨k, b, off, rfl, e, hr⟩
theorem PtrK.of_none {w : World} {M : List Nat} {p : Option Addr} {o : Option (List UInt8)} (h : PtrK w M p o) (hp : p.isSome = false) : o = none := by
  cases o with
  | none => rfl
  | some k =>
    obtain ⟨b, off, e, hr⟩ := h
    subst e
    cases hp
theorem fps_pick {As Cs Ds : List HA} (h : Picks As Cs Ds) : ∀ b ∈ fps Cs, b ∈ fps As := fun b hb => by
  obtain ⟨A, hA, hb⟩ := List.mem_flatMap.1 hb
  exact List.mem_flatMap.2 ⟨A, (List.Perm.mem_iff h).2 (List.mem_append_left _ hA), hb⟩
theorem HS.rd_blkF {w0 w : World} {M : List Nat} {As Cs Ds Es : List HA} {b i t tot : Nat} {cs : List Value} {v : Value} (h : HS w0 M As w) (hp : Picks As Cs Ds) (hp2 : Pick Ds (.blk b t tot cs) Es) (hv : cs[i]? = some v) : Rd w (fps Cs) b i v := by
  have h1 : HS w0 M (Cs ++ Ds) w := h.perm hp
  refine ⟨(h1.ok _ (List.mem_append_right _ hp2.mem) |> BlkOk.lt), fun hb => ?_, BlkOk.cell (h1.ok _ (List.mem_append_right _ hp2.mem)) hv⟩
  obtain ⟨A, hA, hb⟩ := List.mem_flatMap.1 hb
  exact (List.pairwise_append.1 h1.sep).2.2 A hA _ hp2.mem b hb (List.mem_singleton.2 rfl)
section
variable (t : Tre) (i : Nat)
def nE1 : Int := if ((nth t.ns i).es.length : Int) ≤ mostN t.mo t.rm i then if (nth t.ns i).cs.length = 0 ∨ (nth t.ns i).cs.length = (nth t.ns i).es.length + 1 then 0 else 10 else 16
def nE2 : Int := if nE1 t i = 0 then entsE t.co (nth t.ns i).es else nE1 t i
def nE3 (seen : List Int) : Int × List Int := if nE2 t i = 0 then kidsE t.ns (nth t.ns i).cs seen else (nE2 t i, seen)
def nE4 (seen : List Int) : Int := if (nE3 t i seen).1 = 0 then ordsE t.co (nth t.ns i).es else (nE3 t i seen).1
theorem nodE_used {seen : List Int} (h : (nth t.ns i).us = true) : nodE t i seen = (nE4 t i seen, (nE3 t i seen).2) := by
  unfold nodE nE4 nE3 nE2 nE1
  simp only []
  rw [if_pos h]
  by_cases h1 : ((nth t.ns i).es.length : Int) ≤ mostN t.mo t.rm i
  · simp only [if_pos h1]
    by_cases h2 : (nth t.ns i).cs.length = 0 ∨ (nth t.ns i).cs.length = (nth t.ns i).es.length + 1
    · simp only [if_pos h2, if_true]
      by_cases h3 : entsE t.co (nth t.ns i).es = 0
      · simp only [if_pos h3]
        by_cases h4 : (kidsE t.ns (nth t.ns i).cs seen).1 = 0
        · simp only [if_pos h4]
        · simp only [if_neg h4]
      · simp only [if_neg h3]
    · simp only [if_neg h2, show ¬ ((10 : Int) = 0) by decide, if_false]
  · simp only [if_neg h1, show ¬ ((16 : Int) = 0) by decide, if_false]
theorem nE2_0 (h : nE2 t i = 0) : entsE t.co (nth t.ns i).es = 0 := by
  unfold nE2 at h
  split at h
  · exact h
  · rename_i h1
    exact absurd h h1
theorem nE3_0 {seen : List Int} (h : (nE3 t i seen).1 = 0) : nE2 t i = 0 := by
  unfold nE3 at h
  split at h
  · assumption
  · exact h
end
def KidOk (ns : List Nd) (c : Int) : Prop := (1 ≤ c ∧ c ≤ (ns.length : Int) - 1) ∧ (nth ns c.toNat).us = true
instance (ns : List Nd) (c : Int) : Decidable (KidOk ns c) := inferInstanceAs (Decidable (_ ∧ _))
def kidE1 (ns : List Nd) (c : Int) (seen : List Int) : Int := if KidOk ns c then if c ∈ seen then 23 else 0 else 6
def kidS1 (ns : List Nd) (c : Int) (seen : List Int) : List Int := if KidOk ns c then c :: seen else seen
theorem kidsE_cons (ns : List Nd) (c : Int) (cs seen : List Int) : kidsE ns (c :: cs) seen = if kidE1 ns c seen = 0 then kidsE ns cs (kidS1 ns c seen) else (kidE1 ns c seen, kidS1 ns c seen) := by
  unfold kidE1 kidS1
  rw [kidsE]
  by_cases h : KidOk ns c
  · rw [if_pos h, if_pos h, if_pos (show (1 ≤ c ∧ c ≤ (ns.length : Int) - 1) ∧ (nth ns c.toNat).us = true from h)]
    by_cases h2 : c ∈ seen
    · rw [if_pos h2, if_pos h2]
      rfl
    · rw [if_neg h2, if_neg h2]
      rfl
  · rw [if_neg h, if_neg h, if_neg (show ¬ ((1 ≤ c ∧ c ≤ (ns.length : Int) - 1) ∧ (nth ns c.toNat).us = true) from h)]
    rfl
theorem kids_drop {cs : List Int} {k : Nat} (h : k < cs.length) : cs.drop k = cs.getD k 0 :: cs.drop (k + 1) := by
  rw [List.drop_eq_getElem_cons h, List.getD_eq_getElem?_getD, List.getElem?_eq_getElem h]
  rfl
theorem ents_get {co : Int} {es : List TEnt} {k : Nat} (h : k < es.length) : (es.map (entE co)).getD k 0 = entE co (nth es k) := by
  rw [getD_map (d := default) h]
  rfl
theorem ords_get {co : Int} {es : List TEnt} {k : Nat} (h : k < es.length) : ((List.range es.length).map (ordE co es)).getD k 0 = ordE co es k := by
  rw [getD_map (d := 0) (by simpa using h), List.getD_eq_getElem?_getD, List.getElem?_range h]
  rfl
theorem entE_key {co : Int} {x : TEnt} (h : entE co x = 0) : keyOk co x.key = true := by
  unfold entE at h
  split at h
  · rename_i h1
    unfold keyE at h1
    split at h1
    · assumption
    · cases h1
  · cases h
theorem keyOk_len {co : Int} {k : List UInt8} (h : keyOk co k = true) : 1 ≤ k.length ∧ k.length ≤ 40 := by
  unfold keyOk at h
  split at h
  · have := of_decide_eq_true h
    omega
  · split at h
    · have := of_decide_eq_true h
      omega
    · split at h
      · rw [Bool.and_eq_true] at h
        have := of_decide_eq_true h.1
        omega
      · rw [Bool.and_eq_true] at h
        have := of_decide_eq_true h.1
        omega
theorem HS.thenF {w w1 w2 : World} {M : List Nat} {As Bs : List HA} (h : HS w M As w1) (hc : HS w1 (fps As) Bs w2) : HS w M Bs w2 := by
  have h1 : HS w M (As ++ []) w1 := by rw [List.append_nil]; exact h
  have h2 := h1.callM (Mc := fps As) (fun b hb => by obtain ⟨A, hA, hb⟩ := List.mem_flatMap.1 hb; exact ⟨A, hA, hb⟩) hc
  rw [List.append_nil] at h2
  exact h2
def hasC (cs : List Int) (n : Int) : List Bool := cs.map fun c => decide (n = c)
theorem hasC_len (cs : List Int) (n : Int) : (hasC cs n).length = cs.length := by simp [hasC]
theorem hasC_get {cs : List Int} {n : Int} {k : Nat} (h : k < cs.length) : (hasC cs n).getD k false = decide (n = cs.getD k 0) := by
  unfold hasC
  rw [getD_map (d := 0) h]
theorem hasC_any (cs : List Int) (n : Int) : (hasC cs n).any id = decide (n ∈ cs) := by
  unfold hasC
  rw [List.any_map]
  by_cases h : n ∈ cs
  · rw [decide_eq_true h, List.any_eq_true]
    exact ⟨n, h, by simp⟩
  · rw [decide_eq_false h, List.any_eq_false]
    intro x hx
    simp only [Function.comp, id, decide_eq_true_eq]
    intro e
    exact h (e ▸ hx)
def gapB (t : Tre) (v : Vis) : Bool := decide (0 < v.i) && (decide (((nth t.ns v.i).es.length : Int) < t.mo / 2) || ((decide ((nth t.ns 0).es.length = 0) && decide ((v.i : Int) ∈ (nth t.ns 0).cs)) && decide (((nth t.ns v.i).es.length : Int) ≤ t.rm)))
def outB (t : Tre) (v : Vis) (x : TEnt) : Bool := (v.lo.any fun b => decide (0 ≤ cmpK t.co b x.key)) || (v.hi.any fun b => decide (0 ≤ cmpK t.co x.key b))
def outsB (t : Tre) (v : Vis) : Bool := (nth t.ns v.i).es.any (outB t v)
def erV (t : Tre) (s : Int) (v : Vis) : Int × Int := ((v.i : Int), if gapB t v = true then 14 else if outsB t v = true then 9 else if (nth t.ns v.i).cs.length = 0 then (if (if s = 0 then v.d else s) = v.d then 0 else 22) else 0)
def stV (t : Tre) (s : Int) (v : Vis) : Int := if gapB t v = true then s else if outsB t v = true then s else if (nth t.ns v.i).cs.length = 0 then (if s = 0 then v.d else s) else s
theorem visE_eq (t : Tre) (deep : Int) (v : Vis) : visE t deep v = if gapB t v = true then 14 else if outsB t v = true then 9 else if (nth t.ns v.i).cs.length = 0 ∧ v.d ≠ deep + 1 then 22 else 0 := by
  unfold visE
  simp only []
  have h : gapB t v = true ↔ (0 < v.i ∧ (((nth t.ns v.i).es.length : Int) < t.mo / 2 ∨ ((nth t.ns 0).es.length = 0 ∧ (v.i : Int) ∈ (nth t.ns 0).cs) ∧ ((nth t.ns v.i).es.length : Int) ≤ t.rm)) := by
    unfold gapB
    simp only [Bool.and_eq_true, Bool.or_eq_true, decide_eq_true_eq]
  by_cases h1 : gapB t v = true
  · rw [if_pos (h.1 h1), if_pos h1]
  · rw [if_neg (fun h2 => h1 (h.2 h2)), if_neg h1]
    rfl
theorem run_known (t : Tre) : ∀ (vs : List Vis) (s : Int), s ≠ 0 → (runV (stV t) (erV t) s vs).1 = shpF t (s - 1) vs
  | [], s, _ => rfl
  | v :: vs, s, hs => by
    have he : (erV t s v).2 = visE t (s - 1) v := by
      rw [visE_eq]
      unfold erV
      simp only [if_neg hs]
      by_cases h1 : gapB t v = true
      · rw [if_pos h1, if_pos h1]
      · rw [if_neg h1, if_neg h1]
        by_cases h2 : outsB t v = true
        · rw [if_pos h2, if_pos h2]
        · rw [if_neg h2, if_neg h2]
          by_cases h3 : (nth t.ns v.i).cs.length = 0
          · rw [if_pos h3]
            by_cases h4 : s = v.d
            · rw [if_pos h4, if_neg (fun h5 => h5.2 (by omega))]
            · rw [if_neg h4, if_pos ⟨h3, by omega⟩]
          · rw [if_neg h3, if_neg (fun h5 => h3 h5.1)]
    have hst : stV t s v = s := by
      unfold stV
      simp only [if_neg hs, ite_self]
    rw [runV, shpF, he, hst]
    split
    · exact run_known t vs s hs
    · rw [show erV t s v = ((v.i : Int), (erV t s v).2) from rfl, he]
theorem run_first {t : Tre} (hT : TOk t.co t.ns) (h0 : 0 < t.ns.length) (deep : Int) : ∀ (f : Nat) (v : Vis) (P : List Nat) (rest : List Vis), Gx.Way t.ns (v.i :: P) → P.length + f = t.ns.length → 1 ≤ v.d → deep + 1 = v.d + deepT t.ns f v.i → (runV (stV t) (erV t) 0 (vis t.ns f v ++ rest)).1 = shpF t deep (vis t.ns f v ++ rest)
  | 0, v, P, rest, hw, hf, _, _ => by
    have := way_len hT h0 hw
    simp only [List.length_cons] at this
    omega
  | f + 1, v, P, rest, hw, hf, hd, he => by
    have hi := way_lt hT h0 hw v.i (List.mem_cons_self ..)
    rw [deepT] at he
    rw [vis, List.cons_append, runV, shpF, visE_eq]
    by_cases h1 : gapB t v = true
    · have e1 : (erV t 0 v).2 = 14 := by unfold erV; simp only [if_pos h1]
      rw [if_pos h1, e1, if_neg (by decide), if_neg (by decide), show erV t 0 v = ((v.i : Int), (erV t 0 v).2) from rfl, e1]
    · rw [if_neg h1]
      by_cases h2 : outsB t v = true
      · have e1 : (erV t 0 v).2 = 9 := by unfold erV; simp only [if_neg h1, if_pos h2]
        rw [if_pos h2, e1, if_neg (by decide), if_neg (by decide), show erV t 0 v = ((v.i : Int), (erV t 0 v).2) from rfl, e1]
      · rw [if_neg h2]
        by_cases h3 : (nth t.ns v.i).cs.length = 0
        · rw [if_pos h3] at he
          have e1 : (erV t 0 v).2 = 0 := by unfold erV; simp only [if_neg h1, if_neg h2, if_pos h3, if_true]
          have e2 : stV t 0 v = v.d := by unfold stV; rw [if_neg h1, if_neg h2, if_pos h3, if_pos rfl]
          have e3 : (if (nth t.ns v.i).cs.length = 0 ∧ v.d ≠ deep + 1 then (22 : Int) else 0) = 0 := if_neg (fun h5 => h5.2 (by omega))
          rw [e1, if_pos rfl, e2, e3, if_pos rfl, h3, List.range_zero, List.flatMap_nil, List.nil_append, run_known t rest v.d (by omega), show v.d - 1 = deep by omega]
        · rw [if_neg h3] at he
          have e1 : (erV t 0 v).2 = 0 := by unfold erV; simp only [if_neg h1, if_neg h2, if_neg h3]
          have e2 : stV t 0 v = 0 := by unfold stV; rw [if_neg h1, if_neg h2, if_neg h3]
          have hk := kid_in hT hi (k := 0) (by omega)
          have e3 : (if (nth t.ns v.i).cs.length = 0 ∧ v.d ≠ deep + 1 then (22 : Int) else 0) = 0 := if_neg (fun h5 => h3 h5.1)
          rw [e1, if_pos rfl, e2, e3, if_pos rfl]
          obtain ⟨m, hm⟩ : ∃ m, (nth t.ns v.i).cs.length = m + 1 := ⟨(nth t.ns v.i).cs.length - 1, by omega⟩
          rw [hm, List.range_succ_eq_map, List.flatMap_cons, List.append_assoc]
          refine run_first hT h0 deep f _ (v.i :: P) _ (way_kid hw hi (by omega) (by omega)) (by simp only [List.length_cons]; omega) (by show 1 ≤ v.d + 1; omega) ?_
          show deep + 1 = v.d + 1 + deepT t.ns f ((nth t.ns v.i).cs.getD 0 0).toNat
          omega
theorem run_shape {t : Tre} (hT : TOk t.co t.ns) (h0 : 0 < t.ns.length) : (runV (stV t) (erV t) 0 (visT t.ns)).1 = shpF t (deepT t.ns t.ns.length 0) (visT t.ns) := by
  have h := run_first hT h0 (deepT t.ns t.ns.length 0) t.ns.length root0 [] [] rfl (by simp) (by decide) (by show _ = 1 + _; rw [show root0.i = 0 from rfl]; omega)
  rw [List.append_nil] at h
  exact h
def marV (s : List Bool) (v : Vis) : List Bool := s.set v.i true
theorem mar_run : ∀ (vs : List Vis) (s : List Bool), (runV marV (fun _ _ => (0, 0)) s vs).1 = (0, 0) ∧ (runV marV (fun _ _ => (0, 0)) s vs).2.length = s.length ∧ ∀ i, i < s.length → (runV marV (fun _ _ => (0, 0)) s vs).2.getD i false = (s.getD i false || decide (i ∈ vs.map Vis.i))
  | [], s => ⟨rfl, rfl, fun i _ => by simp [runV]⟩
  | v :: vs, s => by
    obtain ⟨h1, h2, h3⟩ := mar_run vs (marV s v)
    rw [runV, if_pos rfl]
    have hl : (marV s v).length = s.length := by simp [marV]
    refine ⟨h1, h2.trans hl, fun i hi => ?_⟩
    rw [h3 i (by omega)]
    simp only [marV, List.getD_eq_getElem?_getD, List.getElem?_set, List.map_cons, List.mem_cons]
    by_cases e : v.i = i
    · subst e
      rw [if_pos rfl, if_pos hi]
      simp
    · rw [if_neg e]
      simp [Ne.symm e]
theorem runV_inv {S : Type} {st : S → Vis → S} {er : S → Vis → Int × Int} {I : S → Prop} (hI : ∀ s v, I s → I (st s v)) : ∀ (vs : List Vis) (s : S), I s → I (runV st er s vs).2
  | [], s, h => h
  | v :: vs, s, h => by
    rw [runV]
    split
    · exact runV_inv hI vs _ (hI _ _ h)
    · exact hI _ _ h
def KOk (co : Int) (o : Option (List UInt8)) : Prop := ∀ k, o = some k → keyOk co k = true ∧ k.length ≤ 1000000
theorem ents_kok {co : Int} {ns : List Nd} (hT : TOk co ns) {i : Nat} (hi : i < ns.length) : ∀ x ∈ (nth ns i).es, keyOk co x.key = true ∧ x.key.length ≤ 1000000 := fun x hx => by
  have h := entE_key (hT.ents i hi x hx)
  have := (keyOk_len h).2
  exact ⟨h, by omega⟩
theorem kok_lo {co : Int} {ns : List Nd} (hT : TOk co ns) {v : Vis} (hi : v.i < ns.length) {k : Nat} (hk : k ≤ (nth ns v.i).es.length) (h : KOk co v.lo) : KOk co (kidV ns v k).lo := by
  intro x hx
  unfold kidV loK at hx
  simp only [] at hx
  split at hx
  · injection hx with hx
    rw [← hx]
    exact ents_kok hT hi _ (mem_nth (by omega))
  · exact h x hx
theorem kok_hi {co : Int} {ns : List Nd} (hT : TOk co ns) {v : Vis} (hi : v.i < ns.length) {k : Nat} (h : KOk co v.hi) : KOk co (kidV ns v k).hi := by
  intro x hx
  unfold kidV hiK at hx
  simp only [] at hx
  split at hx
  · injection hx with hx
    rw [← hx]
    exact ents_kok hT hi _ (mem_nth (by assumption))
  · exact h x hx
def shapE (t : Tre) : Int × Int := match opnF t.ns ((visT t.ns).map Vis.i) t.ns.length 0 with
  | some i => ((i : Int), 21)
  | none => shpF t (deepT t.ns t.ns.length 0) (visT t.ns)
theorem shpF_0 {t : Tre} {deep : Int} : ∀ {vs : List Vis}, (shpF t deep vs).2 = 0 → shpF t deep vs = (0, 0)
  | [], _ => rfl
  | v :: vs, h => by
    rw [shpF] at h ⊢
    split at h
    · rename_i h1
      rw [if_pos h1]
      exact shpF_0 h
    · rename_i h1
      exact absurd h h1
theorem shapE_0 {t : Tre} (h : (shapE t).2 = 0) : (shapE t).1 = 0 := by
  unfold shapE at h ⊢
  split at h
  · cases h
  · rw [shpF_0 h]
def lenE12 (n : Nat) : Int := if 0 < n then if n ≤ 120 then 0 else 8 else 10
theorem treE_size {t : Tre} (h : ¬ (if colE12 t.co = 0 then sizE t.mo t.rm else colE12 t.co) = 0) : treE t = (0, if colE12 t.co = 0 then sizE t.mo t.rm else colE12 t.co) := by
  unfold treE
  by_cases h1 : colE12 t.co = 0
  · rw [if_pos h1] at h
    rw [if_pos h1, if_pos h1, if_neg h]
    congr 1
    unfold sizE at h ⊢
    split at h
    · exact absurd rfl h
    · rename_i h2
      rw [if_neg h2]
  · rw [if_neg h1, if_neg h1]
    congr 1
    unfold colE12 at h1 ⊢
    split at h1
    · exact absurd rfl h1
    · rename_i h2
      rw [if_neg h2]
theorem size_0 {t : Tre} (h : (if colE12 t.co = 0 then sizE t.mo t.rm else colE12 t.co) = 0) : colE12 t.co = 0 ∧ sizE t.mo t.rm = 0 := by
  split at h
  · rename_i h1
    exact ⟨h1, h⟩
  · rename_i h1
    exact absurd h h1
theorem sizE_0 {mo rm : Int} (h : sizE mo rm = 0) : (3 ≤ mo ∧ mo ≤ 8) ∧ (mo / 2 ≤ rm ∧ rm ≤ mo) := by
  unfold sizE at h
  split at h
  · assumption
  · cases h
theorem treE_len {t : Tre} (h : (if colE12 t.co = 0 then sizE t.mo t.rm else colE12 t.co) = 0) (h2 : ¬ lenE12 t.ns.length = 0) : treE t = (0, lenE12 t.ns.length) := by
  obtain ⟨h3, h4⟩ := size_0 h
  unfold treE lenE12 at *
  rw [if_pos h3, if_pos h4]
  split at h2
  · rename_i h5
    rw [if_pos h5]
    split at h2
    · exact absurd rfl h2
    · rename_i h6
      rw [if_neg h6, if_pos h5, if_neg h6]
  · rename_i h5
    rw [if_neg h5, if_neg h5]
theorem lenE_0 {n : Nat} (h : lenE12 n = 0) : 0 < n ∧ n ≤ 120 := by
  unfold lenE12 at h
  split at h
  · split at h
    · exact ⟨by assumption, by assumption⟩
    · cases h
  · cases h
theorem treE_nods {t : Tre} (h : (if colE12 t.co = 0 then sizE t.mo t.rm else colE12 t.co) = 0) (h2 : lenE12 t.ns.length = 0) : treE t = if (nodsE t t.ns.length 0 []).2 = 0 then shapE t else nodsE t t.ns.length 0 [] := by
  obtain ⟨h3, h4⟩ := size_0 h
  obtain ⟨h5, h6⟩ := lenE_0 h2
  unfold treE
  rw [if_pos h3, if_pos h4, if_pos h5, if_pos h6]
  rfl
theorem treE_0 {t : Tre} (h : (treE t).2 = 0) : colE12 t.co = 0 ∧ sizE t.mo t.rm = 0 ∧ 0 < t.ns.length ∧ t.ns.length ≤ 120 ∧ (nodsE t t.ns.length 0 []).2 = 0 ∧ (shapE t).2 = 0 ∧ treE t = (0, 0) := by
  by_cases h1 : (if colE12 t.co = 0 then sizE t.mo t.rm else colE12 t.co) = 0
  · by_cases h2 : lenE12 t.ns.length = 0
    · rw [treE_nods h1 h2] at h ⊢
      obtain ⟨h3, h4⟩ := size_0 h1
      obtain ⟨h5, h6⟩ := lenE_0 h2
      split at h
      · rename_i h7
        rw [if_pos h7]
        exact ⟨h3, h4, h5, h6, h7, h, Prod.ext (shapE_0 h) h⟩
      · rename_i h7
        exact absurd h h7
    · rw [treE_len h1 h2] at h
      exact absurd h h2
  · rw [treE_size h1] at h
    exact absurd h h1
theorem bool_get {l : List Bool} {k : Nat} (h : k < l.length) : (l.map Value.bool)[k]? = some (.bool (l.getD k false)) := by
  rw [List.getElem?_map, List.getElem?_eq_getElem h, List.getD_eq_getElem?_getD, List.getElem?_eq_getElem h]
  rfl
theorem nodsE_step {t : Tre} {k : Nat} {seen : List Int} (h : k < t.ns.length) : nodsE t (t.ns.length - k) k seen = if (nodE t k seen).1 = 0 then nodsE t (t.ns.length - (k + 1)) (k + 1) (nodE t k seen).2 else ((k : Int), (nodE t k seen).1) := by
  rw [show t.ns.length - k = t.ns.length - (k + 1) + 1 by omega, nodsE]
theorem opnF_step {ns : List Nd} {below : List Nat} {k : Nat} (h : k < ns.length) : opnF ns below (ns.length - k) k = if (nth ns k).us = true ∧ k ∉ below then some k else opnF ns below (ns.length - (k + 1)) (k + 1) := by
  rw [show ns.length - k = ns.length - (k + 1) + 1 by omega, opnF]
theorem shapE_some {t : Tre} {i : Nat} (h : opnF t.ns ((visT t.ns).map Vis.i) t.ns.length 0 = some i) : shapE t = ((i : Int), 21) := by
  unfold shapE
  rw [h]
theorem shapE_none {t : Tre} (h : opnF t.ns ((visT t.ns).map Vis.i) t.ns.length 0 = none) : shapE t = shpF t (deepT t.ns t.ns.length 0) (visT t.ns) := by
  unfold shapE
  rw [h]
theorem HS.own_at {w0 w : World} {M : List Nat} {As As' : List HA} {g n n' cap t sz : Nat} {xs : List Value} (h : HS w0 M As w) (hp : Pick As (.own (.slice (some ⟨g, 0, none⟩) n' cap) t sz n xs) As') : HS w0 M (.blk g t (cap * sz) xs :: As') w := by
  have h1 := h.pick hp
  refine h1.turn (fun b hb => by simpa [HA.fp_own, HA.fp_blk, Value.ownBlock] using hb) fun ho => ?_
  obtain ⟨_, ⟨e, _⟩ | ⟨g', cap', e, _, _, hb⟩⟩ := ho
  · injection e with e1
    cases e1
  · injection e with e1 e2 e3
    injection e1 with e1
    injection e1 with e1
    subst e1 e3
    exact hb
theorem node_es {l : List LNd} {k : Nat} (hk : k < l.length) (ea : Option Addr) (ec : Nat) (es : List TEnt) : setMany (l.flatMap LNd.vals) (k * 3 + 1) [.slice ea es.length ec] = (l.set k { nth l k with ea := ea, ec := ec, es := es }).flatMap LNd.vals :=
  flat_set nv3 l k 1 _ (nth l k) _ (nth_get hk) rfl (by simp)
theorem node_cs {l : List LNd} {k : Nat} (hk : k < l.length) (ca : Option Addr) (cc : Nat) (cs : List Int) : setMany (l.flatMap LNd.vals) (k * 3 + 2) [.slice ca cs.length cc] = (l.set k { nth l k with ca := ca, cc := cc, cs := cs }).flatMap LNd.vals :=
  flat_set nv3 l k 2 _ (nth l k) _ (nth_get hk) rfl (by simp)
theorem node_us {l : List LNd} {k : Nat} (hk : k < l.length) (us : Bool) : setMany (l.flatMap LNd.vals) (k * 3) [.bool us] = (l.set k { nth l k with us := us }).flatMap LNd.vals := by
  have h := flat_set nv3 l k 0 [.bool us] (nth l k) { nth l k with us := us } (nth_get hk) rfl (by simp)
  rw [Nat.add_zero] at h
  exact h
theorem node_both {l : List LNd} {k : Nat} (hk : k < l.length) (ea : Option Addr) (ec : Nat) (es : List TEnt) (ca : Option Addr) (cc : Nat) (cs : List Int) : setMany (setMany (l.flatMap LNd.vals) (k * 3 + 1) [.slice ea es.length ec]) (k * 3 + 2) [.slice ca cs.length cc] = (l.set k ⟨(nth l k).us, ea, ec, es, ca, cc, cs⟩).flatMap LNd.vals := by
  rw [node_es hk, node_cs (by rw [List.length_set]; exact hk), List.set_set, set_nth_eq hk]
theorem nth_mid {l m : List LNd} {k : Nat} (hl : l.length = k) (hk : k < m.length) : nth (l ++ m.drop k) k = nth m k := by
  apply nth_eq
  rw [List.getElem?_append_right (by omega), hl, Nat.sub_self, List.getElem?_drop, Nat.add_zero]
  exact nth_get hk
theorem set_mid {l m : List LNd} {k : Nat} (hl : l.length = k) (hk : k < m.length) (x : LNd) : (l ++ m.drop k).set k x = l ++ [x] ++ m.drop (k + 1) := by
  rw [List.set_append_right _ _ (by omega), hl, Nat.sub_self, List.drop_eq_getElem_cons hk, List.set_cons_zero, List.append_assoc]
  rfl
theorem pln_take {L : List LNd} {k : Nat} (hk : k < L.length) {D : List LNd} (hD : pln D = (pln L).take k) {x : LNd} (hx : x.pl = (nth L k).pl) : pln (D ++ [x]) = (pln L).take (k + 1) := by
  rw [pln_app, hD, List.take_succ_eq_append_getElem (by rw [pln_len]; exact hk)]
  congr 1
  have e : (pln L)[k]'(by rw [pln_len]; exact hk) = nth (pln L) k := (nth_eq (List.getElem?_eq_getElem _)).symm
  rw [e, pln_nth hk, ← hx]
  rfl
end Gx
namespace Go.Proofs
open Go Go.RowKit Gx
set_option linter.unusedVariables false
set_option linter.unusedSimpArgs false
attribute [local irreducible] Go.Calls Gx.S Gx.O Gx.D Gx.OpP Gx.OpQ Gx.OpH
set_option maxRecDepth 20000
theorem fn_78 : isFn Tryz.prog 78 = true := by kernel_rfl
theorem sl_77 : tsl Tryz.prog 77 = some (26, 2, 32) := by kernel_rfl
theorem sz_26 : tsz Tryz.prog 26 = some (2, true) := by kernel_rfl
instance : TSz Tryz.prog 26 2 true := ⟨sz_26⟩
theorem zr_26 : tzero Tryz.prog 26 = some [.string (bs []), .string (bs [])] := by kernel_rfl
instance : TFd Tryz.prog 112 0 0 24 := ⟨by kernel_rfl⟩
instance : TFd Tryz.prog 24 1 1 3 := ⟨by kernel_rfl⟩
theorem sz_3 : tsz Tryz.prog 3 = some (1, false) := by kernel_rfl
instance : TSz Tryz.prog 3 1 false := ⟨sz_3⟩
instance : TFd Tryz.prog 24 2 2 3 := ⟨by kernel_rfl⟩
theorem sz_103 : tsz Tryz.prog 103 = some (1, false) := by kernel_rfl
instance : TSz Tryz.prog 103 1 false := ⟨sz_103⟩
instance : TFd Tryz.prog 24 0 0 3 := ⟨by kernel_rfl⟩
theorem fn_91 : isFn Tryz.prog 91 = true := by kernel_rfl
instance : TFd Tryz.prog 112 1 4 110 := ⟨by kernel_rfl⟩
instance : TFd Tryz.prog 102 1 1 77 := ⟨by kernel_rfl⟩
theorem sz_77 : tsz Tryz.prog 77 = some (1, false) := by kernel_rfl
instance : TSz Tryz.prog 77 1 false := ⟨sz_77⟩
def tbV (co mo rm : Int) (a : Option Addr) (n cap : Nat) : List Value := [.int .i64 co, .int .i64 mo, .int .i64 rm, .slice a n cap, fv12 (keyF co), fv12 (cmpF co)]
def TbR (w : World) (M : List Nat) (bt : Nat) (co mo rm : Int) (a : Option Addr) (n cap : Nat) : Prop := ∀ k v, (tbV co mo rm a n cap)[k]? = some v → Rd w M bt k v
section
variable {w w' : World} {M M' : List Nat} {As As' : List HA} {bt : Nat} {co mo rm : Int} {a : Option Addr} {n cap : Nat}
theorem TbR.next (h : TbR w M bt co mo rm a n cap) (hs : HS w M As w') : TbR w' [] bt co mo rm a n cap := fun k v hv => (h k v hv).next hs
theorem TbR.keep (h : TbR w M bt co mo rm a n cap) (hs : HS w M As w') : TbR w' (fps As) bt co mo rm a n cap := fun k v hv => hs.keep (h k v hv)
theorem TbR.mono (h : TbR w M bt co mo rm a n cap) (hM : ∀ b ∈ M', b ∈ M) : TbR w M' bt co mo rm a n cap := fun k v hv => (h k v hv).mono hM
theorem HS.tbr {w0 : World} {tot t : Nat} (h : HS w0 M As w) (hp : Pick As (.blk bt t tot (tbV co mo rm a n cap)) As') : TbR w [] bt co mo rm a n cap := fun k v hv => h.rd_blk (Mc := []) hp hv (by simp)
end
def empT (co mo rm : Int) : Tre := if (if colE12 co = 0 then sizE mo rm else colE12 co) = 0 then ⟨co, mo, rm, [⟨true, [], []⟩]⟩ else ⟨0, 0, 0, []⟩
theorem c89 (w : World) (a : Option Addr) (cap : Nat) (l : List TEnt) (q : Nat) (cv : Array Value) (es : List Int) (hs : Rw TEnt.vals 2 w [] a l) (hm : l.length ≤ 1000000) (hq : isFn Tryz.prog q = true) (he : es.length = l.length) (hc : ∀ k w1, k < l.length → (∀ j, j < k → es.getD j 0 = 0) → HS w [] [] w1 → Calls Tryz.prog q (#[] ++ [.int .i64 (k : Int), .agg (TEnt.vals (nth l k)).toArray].toArray ++ cv) w1 fun en w2 => en = .returned (.int .i64 (es.getD k 0)) ∧ Below w1.heap.size w1 w2) : Calls Tryz.prog 89 #[.slice a l.length cap, .func (.func q) #[] cv] w fun en w' => en = .returned (.tuple #[.int .i64 (eachF es 0).1, .int .i64 (eachF es 0).2]) ∧ Below w.heap.size w w' := by
 refine enter (args := [_, _]) Tryz.func89 Tryz.ntmps89 rfl rfl (HS.refl w []) ?_
 iterate 13 refine aS ?_
 refine s_loopI (α := Nat) [4, 5, 6, 7, 8, 11, 12, 13, 14, 15, 16, 17, 18, 19, 20, 21, 22, 23, 24] (fun k => [(11, .int .i64 (k : Int))]) (fun _ => HS w [] []) (fun k => k ≤ l.length ∧ eachF es 0 = eachF (es.drop k) k ∧ ∀ j, j < k → es.getD j 0 = 0) (fun k => l.length - k) 0 ⟨by omega, rfl, fun i h => absurd h (Nat.not_lt_zero i)⟩ aSx (fun w h => h.ent aEt) (fun k hk => ?_)
 obtain ⟨hk1, hk2, hk3⟩ := hk
 iterate 5 refine aS ?_
 refine s_cond rfl (fun h1 => ?_) fun h1 => ?_
 ·try simp only [decide_eq_true_eq] at h1
  iterate 6 refine aS ?_
  refine o_p (p_indexAddr rfl rfl rfl sl_77 (k) (by omega) (by omega) (Rw.some hs (by omega))) rfl ?_
  refine o_q (q_load_oldn _ rfl rfl sz_26 rfl (Rw.rd hs (by omega))) rfl ?_
  refine oAl (fun b2 _ => ?_) zr_26
  refine aS ?_
  refine oSt ?_
  iterate 6 refine aS ?_
  refine o_q (q_callv rfl rfl hq rfl (fun w1 h1 => hc k w1 (by omega) hk3 (h1.ent aEt))) rfl ?_
  iterate 7 refine aS ?_
  refine s_cond rfl (fun h3 => ?_) fun h3 => ?_
  ·try simp only [Bool.not_eq_true', decide_eq_false_iff_not] at h3
   iterate 7 refine aS ?_
   exact s_retv (rs := [.tmp 4, .tmp 5]) rfl (.tmp rfl (.tmp rfl (.nil))) (fun w' h' => ⟨by simp only [retV]; rw [hk2, eachF_drop (by omega), if_neg (by assumption)], h'.below⟩)
  try simp only [Bool.not_eq_false', decide_eq_true_eq] at h3
  iterate 4 refine aS ?_
  try refine oWr ?_
  iterate 2 refine aS ?_
  exact s_backI (k+1) (by omega) ⟨by omega, by rw [hk2, eachF_drop (by omega), if_pos (by assumption)], fun j hj => (Nat.lt_or_ge j k).elim (hk3 j) (fun h => by obtain rfl : j = k := (by omega); assumption)⟩ aSx (fun w h => h.ent aEt)
 try simp only [decide_eq_false_iff_not] at h1
 refine s_exit_to rfl ?_
 iterate 5 refine aS ?_
 exact s_retv (rs := [.tmp 4, .tmp 5]) rfl (.tmp rfl (.tmp rfl (.nil))) (fun w' h' => ⟨by simp only [retV]; rw [hk2, eachF_end (by omega)], h'.below⟩)
theorem c105 (w : World) (bt : Nat) (j : Nat) (mo rm : Int) (a : Option Addr) (n cap : Nat) (hmo : 0 ≤ mo ∧ mo ≤ 1000) (ht : TbR w [] bt (j : Int) mo rm a n cap) : Calls Tryz.prog 105 #[.pointer (some ⟨bt, 0, none⟩)] w fun en w' => en = .returned (.int .i64 (mo / 2)) ∧ Below w.heap.size w w' := by
 refine enter (args := [_]) Tryz.func105 Tryz.ntmps105 rfl rfl (HS.refl w []) ?_
 iterate 10 refine aS ?_
 refine o_q (q_load_old rfl rfl sz_3 (ht 1 _ rfl)) rfl ?_
 refine o_p (p_quo_nn rfl rfl rfl (by omega) (by omega) (by omega)) rfl ?_
 iterate 2 refine aS ?_
 exact s_retv (rs := [.tmp 2]) rfl (.tmp rfl (.nil)) (fun w' h' => ⟨rfl, h'.below⟩)
theorem c118 (w : World) (bt : Nat) (j : Nat) (mo rm : Int) (a : Option Addr) (n cap : Nat) (i : Nat) (ht : TbR w [] bt (j : Int) mo rm a n cap) : Calls Tryz.prog 118 #[.pointer (some ⟨bt, 0, none⟩), .int .i64 (i : Int)] w fun en w' => en = .returned (.int .i64 (mostN mo rm i)) ∧ Below w.heap.size w w' := by
 refine enter (args := [_, _]) Tryz.func118 Tryz.ntmps118 rfl rfl (HS.refl w []) ?_
 iterate 10 refine aS ?_
 refine s_cond rfl (fun h1 => ?_) fun h1 => ?_
 ·try simp only [decide_eq_true_eq] at h1
  obtain rfl : i = 0 := by have hq := h1; omega
  iterate 6 refine aS ?_
  refine o_q (q_load_old rfl rfl sz_3 (ht 2 _ rfl)) rfl ?_
  iterate 2 refine aS ?_
  exact s_retv (rs := [.tmp 4]) rfl (.tmp rfl (.nil)) (fun w' h' => ⟨by rfl, h'.below⟩)
 try simp only [decide_eq_false_iff_not] at h1
 have hn0 : ¬ i = 0 := by have hq := h1; omega
 iterate 7 refine aS ?_
 refine o_q (q_load_old rfl rfl sz_3 (ht 1 _ rfl)) rfl ?_
 iterate 2 refine aS ?_
 exact s_retv (rs := [.tmp 4]) rfl (.tmp rfl (.nil)) (fun w' h' => ⟨by simp only [retV, mostN]; rw [if_neg hn0], h'.below⟩)
theorem c119 (w : World) (c0 : Nat) (k : Int) (x : TEnt) (bt : Nat) (j : Nat) (mo rm : Int) (a : Option Addr) (n cap : Nat) (hj : j ≤ 3) (hx : x.key.length ≤ 1000000) (hc0 : Rd w [] c0 0 (.pointer (some ⟨bt, 0, none⟩))) (ht : TbR w [] bt (j : Int) mo rm a n cap) : Calls Tryz.prog 119 #[.int .i64 k, .agg #[.string (bs x.key), .string (bs x.val)], .pointer (some ⟨c0, 0, none⟩)] w fun en w' => en = .returned (.int .i64 (entE (j : Int) x)) ∧ Below w.heap.size w w' := by
 refine enter (args := [_, _, _]) Tryz.func119 Tryz.ntmps119 rfl rfl (HS.refl w []) ?_
 iterate 2 refine aS ?_
 refine oBx fun b1 _ => ?_
 iterate 3 refine aS ?_
 refine s_draw [] mixed ?_
 refine d_q 0 [] rfl (q_load_old rfl rfl sz_103 (hc0)) (by kernel_rfl) (by kernel_rfl) (by kernel_rfl) rfl ?_
 refine dP 1 ?_
 refine dFa 2 ?_
 refine dFa 3 ?_
 refine d_q 4 [] rfl (q_load_old rfl rfl sz_3 (ht 0 _ rfl)) (by kernel_rfl) (by kernel_rfl) (by kernel_rfl) rfl ?_
 refine dLn 5 [] ?_
 refine d_q 6 [] rfl (q_call rfl fn_91 rfl (fun w1 h1 => c91 w1 j x hj hx)) (by kernel_rfl) (by kernel_rfl) (by kernel_rfl) rfl ?_
 refine dP 7 ?_
 refine dNi ?_
 exact s_retv (rs := [.tmp 5]) rfl (.tmp rfl (.nil)) (fun w' h' => ⟨rfl, h'.below⟩)
theorem c122 (w : World) (c0 c7 : Nat) (k : Nat) (us : Bool) (ea : Option Addr) (ec : Nat) (es : List TEnt) (kids : Value) (bt : Nat) (j : Nat) (mo rm : Int) (a : Option Addr) (n cap : Nat) (hj : j ≤ 3) (hk : k < es.length) (hl : es.length ≤ 1000000) (hx : ∀ x ∈ es, keyOk (j : Int) x.key = true ∧ x.key.length ≤ 1000000) (hc0 : Rd w [] c0 0 (.pointer (some ⟨bt, 0, none⟩))) (hc7 : Rd w [] c7 1 (.slice ea es.length ec)) (hes : Rw TEnt.vals 2 w [] ea es) (ht : TbR w [] bt (j : Int) mo rm a n cap) : Calls Tryz.prog 122 #[.int .i64 (k : Int), .agg #[.string (bs (nth es k).key), .string (bs (nth es k).val)], .pointer (some ⟨c0, 0, none⟩), .pointer (some ⟨c7, 0, none⟩)] w fun en w' => en = .returned (.int .i64 (ordE (j : Int) es k)) ∧ Below w.heap.size w w' := by
 refine enter (args := [_, _, _, _]) Tryz.func122 Tryz.ntmps122 rfl rfl (HS.refl w []) ?_
 iterate 2 refine aS ?_
 refine oBx fun b1 _ => ?_
 iterate 3 refine aS ?_
 refine s_draw [] mixed ?_
 refine dP 0 ?_
 refine dP 1 ?_
 refine dP 2 ?_
 apply d_split 9
 ·exact rfl
 ·intro hg2
  have hs3 := hg2; try simp only [decide_eq_true_eq] at hs3
  refine dOf 3 9 hg2 ?_
  refine dOf 4 9 hg2 ?_
  refine dOf 5 9 hg2 ?_
  refine dOf 6 9 hg2 ?_
  refine dOf 7 9 hg2 ?_
  refine dOf 8 9 hg2 ?_
  refine dOf 9 9 hg2 ?_
  refine dOf 10 9 hg2 ?_
  refine dOf 11 9 hg2 ?_
  refine dOf 12 9 hg2 ?_
  refine dOf 13 9 hg2 ?_
  refine dOf 14 9 hg2 ?_
  refine dOf 15 9 hg2 ?_
  refine dOf 16 9 hg2 ?_
  refine dOf 17 9 hg2 ?_
  refine dOf 18 9 hg2 ?_
  refine dOf 19 9 hg2 ?_
  refine d_p 20 rfl (p_pickt rfl rfl hg2 rfl) (by kernel_rfl) rfl rfl ?_
  refine d_q 21 [] rfl (q_call rfl fn_81 rfl (fun w1 h1 => c81 w1 _ _)) (by kernel_rfl) (by kernel_rfl) (by kernel_rfl) rfl ?_
  refine dP 22 ?_
  refine dNi ?_
  exact s_retv (rs := [.tmp 6]) rfl (.tmp rfl (.nil)) (fun w' h' => ⟨by simp only [retV, ordE]; first | (split <;> simp_all <;> done) | (simp_all; done) | (grind), h'.below⟩)
 intro hg4
 have hs5 := hg4; try simp only [decide_eq_false_iff_not] at hs5
 refine d_qon 3 9 [] rfl rfl rfl hg4 (q_load_old rfl rfl sz_103 (hc0)) (by kernel_rfl) (by kernel_rfl) (by kernel_rfl) rfl ?_
 refine dPo 4 9 hg4 ?_
 refine dFo 5 9 hg4 ?_
 refine dFo 6 9 hg4 ?_
 refine d_qon 7 9 [] rfl rfl rfl hg4 (q_load_old rfl rfl sz_108 (ht 5 _ rfl)) (by kernel_rfl) (by kernel_rfl) (by kernel_rfl) rfl ?_
 refine dFo 8 9 hg4 ?_
 refine d_qon 9 9 [] rfl rfl rfl hg4 (q_load_old rfl rfl sz_77 (hc7)) (by kernel_rfl) (by kernel_rfl) (by kernel_rfl) rfl ?_
 refine dPo 10 9 hg4 ?_
 refine dPo 11 9 hg4 ?_
 try refine dWr ?_
 refine d_pon 12 9 rfl rfl rfl hg4 (p_max2 rfl rfl rfl ) (by kernel_rfl) rfl rfl ?_
 refine d_pon 13 9 rfl rfl rfl hg4 (p_indexAddr rfl rfl rfl sl_77 (k - 1) (by omega) (by omega) (Rw.some hes (by omega))) (by kernel_rfl) rfl rfl ?_
 refine dFo 14 9 hg4 ?_
 refine d_qon 15 9 [] rfl rfl rfl hg4 (q_load_old rfl rfl sz_9 ((hes.rdj (i := k - 1) 0 (by omega) rfl))) (by kernel_rfl) (by kernel_rfl) (by kernel_rfl) rfl ?_
 refine dFo 16 9 hg4 ?_
 refine d_qon 17 9 [] rfl rfl rfl hg4 (q_load rfl rfl sz_9 aPk rfl) (by kernel_rfl) (by kernel_rfl) (by kernel_rfl) rfl ?_
 refine d_qon 18 9 [] rfl rfl rfl hg4 (q_callv rfl rfl (cmp_fn _) rfl (fun w1 h1 => cmp_calls w1 j (nth es (k - 1)).key (nth es k).key hj (hx _ (mem_nth (by omega))).1 (hx _ (mem_nth hk)).1 (hx _ (mem_nth (by omega))).2 (hx _ (mem_nth hk)).2)) (by kernel_rfl) (by kernel_rfl) (by kernel_rfl) rfl ?_
 refine dPo 19 9 hg4 ?_
 refine d_p 20 rfl (p_pickf rfl rfl hg4 rfl) (by kernel_rfl) rfl rfl ?_
 refine d_q 21 [] rfl (q_call rfl fn_81 rfl (fun w1 h1 => c81 w1 _ _)) (by kernel_rfl) (by kernel_rfl) (by kernel_rfl) rfl ?_
 refine dP 22 ?_
 refine dNi ?_
 exact s_retv (rs := [.tmp 6]) rfl (.tmp rfl (.nil)) (fun w' h' => ⟨by simp only [retV, ordE]; first | (split <;> simp_all <;> done) | (simp_all; done) | (grind), h'.below⟩)
theorem ki_191 : tki Tryz.prog 191 = some .u64 := by kernel_rfl
instance : TFd Tryz.prog 24 3 3 22 := ⟨by kernel_rfl⟩
theorem sz_22 : tsz Tryz.prog 22 = some (1, false) := by kernel_rfl
instance : TSz Tryz.prog 22 1 false := ⟨sz_22⟩
theorem fn_138 : isFn Tryz.prog 138 = true := by kernel_rfl
theorem sl_30 : tsl Tryz.prog 30 = some (3, 1, 8) := by kernel_rfl
theorem zr_3 : tzero Tryz.prog 3 = some [.int .i64 0] := by kernel_rfl
theorem fn_102 : isFn Tryz.prog 102 = true := by kernel_rfl
instance : TFd Tryz.prog 102 2 2 30 := ⟨by kernel_rfl⟩
theorem sz_30 : tsz Tryz.prog 30 = some (1, false) := by kernel_rfl
instance : TSz Tryz.prog 30 1 false := ⟨sz_30⟩
theorem c138 (w : World) (a : Option Addr) (cap : Nat) (l : List TEnt) (q : Nat) (cv : Array Value) (cs : List Int) (key : List UInt8) (hs : Rw TEnt.vals 2 w [] a l) (hm : l.length ≤ 1000000) (hq : isFn Tryz.prog q = true) (hb : cs.length = l.length) (hc : ∀ k w1, k < l.length → HS w [] [] w1 → Calls Tryz.prog q (#[] ++ [.agg (TEnt.vals (nth l k)).toArray, .string (bs key)].toArray ++ cv) w1 fun en w2 => en = .returned (.int .i64 (cs.getD k 0)) ∧ Below w1.heap.size w1 w2) : Calls Tryz.prog 138 #[.slice a l.length cap, .string (bs key), .func (.func q) #[] cv] w fun en w' => en = .returned (.tuple #[.int .i64 (bsL cs : Int), .bool (bsF' cs)]) ∧ Below w.heap.size w w' := by
 refine enter (args := [_, _, _]) Tryz.func138 Tryz.ntmps138 rfl rfl (HS.refl w []) ?_
 iterate 19 refine aS ?_
 refine s_loopI (α := Nat × Nat × Nat) [9, 10, 11, 15, 16, 17, 18, 19, 20, 21, 22, 23, 24, 25, 26, 27, 28, 29, 30, 31, 32, 33, 34] (fun x => [(9, .int .i64 (x.2.1 : Int)), (10, .int .i64 (x.2.2 : Int))]) (fun _ => _) (fun x => x.2.1 ≤ x.2.2 ∧ x.2.2 ≤ l.length ∧ x.2.2 - x.2.1 ≤ x.1 ∧ bsC cs x.1 x.2.1 x.2.2 = bsL cs) (fun x => x.1) (l.length, 0, l.length) ⟨by simp, by simp, by simp, by rw [← hb]; rfl⟩ aSx (fun w h => h.ent aEt) (fun ⟨m, lo, hi⟩ hx => ?_)
 dsimp only
 obtain ⟨hx1, hx2, hx3, hx4⟩ := hx
 simp only [] at hx1 hx2 hx3 hx4
 iterate 7 refine aS ?_
 refine s_cond rfl (fun h1 => ?_) fun h1 => ?_
 ·try simp only [decide_eq_true_eq] at h1
  iterate 7 refine aS ?_
  try refine oWr ?_
  refine o_p (p_conv_int rfl rfl ki_3 ki_191) rfl ?_
  rw [show IntKind.u64.wrap ((lo : Int) + (hi : Int)) = ((lo + hi : Nat) : Int) from u64w32 _ (by omega)]
  refine o_p (p_shr rfl rfl rfl (by decide) 1 rfl) rfl ?_
  refine o_p (p_conv_int rfl rfl ki_191 ki_3) rfl ?_
  try refine oWr ?_
  refine o_slot (show _ = Value.int .i64 (((lo + hi) / 2 : Nat) : Int) from by congr 1) ?_
  obtain ⟨q2, hq1, hq2⟩ := bsC_step (cs := cs) (show lo < hi by omega) hx3
  iterate 7 refine aS ?_
  refine o_p (p_indexAddr rfl rfl rfl sl_77 ((lo + hi) / 2) (by omega) (by omega) (Rw.some hs (by omega))) rfl ?_
  refine o_q (q_load_oldn _ rfl rfl sz_26 rfl (Rw.rd hs (i := (lo + hi) / 2) (by omega))) rfl ?_
  refine aS ?_
  refine o_q (q_callv rfl rfl hq rfl (fun w1 h1 => hc ((lo + hi) / 2) w1 (by omega) (h1.ent aEt))) rfl ?_
  iterate 2 refine aS ?_
  refine s_cond rfl (fun h2 => ?_) fun h2 => ?_
  ·try simp only [decide_eq_true_eq] at h2
   iterate 3 refine aS ?_
   try refine oWr ?_
   iterate 3 refine aS ?_
   exact s_backI (q2, (lo + hi) / 2 + 1, hi) (by (try simp only []); omega) ⟨by (try simp only []); omega, hx2, by (try simp only []); omega, by simp only []; rw [← hx4, hq2, if_pos h2]⟩ (by refine sl_c (congrArg (fun e => some (Value.int .i64 e)) (show (((lo + hi) / 2 : Nat) : Int) + 1 = (((lo + hi) / 2 + 1 : Nat) : Int) by omega)) ?_; repeat (first | exact sl_n | refine sl_c rfl ?_)) (fun w h => h.ent aEt)
  try simp only [decide_eq_false_iff_not] at h2
  iterate 5 refine aS ?_
  exact s_backI (q2, lo, (lo + hi) / 2) (by (try simp only []); omega) ⟨by (try simp only []); omega, by (try simp only []); omega, by (try simp only []); omega, by simp only []; rw [← hx4, hq2, if_neg h2]⟩ aSx (fun w h => h.ent aEt)
 try simp only [decide_eq_false_iff_not] at h1
 refine s_exit_to rfl ?_
 iterate 3 refine aS ?_
 have hlo : bsL cs = lo := by rw [← hx4, bsC_end _ _ _ _ (by omega)]
 iterate 4 refine aS ?_
 refine o_and 9 39 48 _ _ rfl
  (by
   intro hg3
   have hs4 := hg3; try simp only [decide_eq_true_eq] at hs4
   refine oOn 39 hg3 ?_
   refine aS ?_
   refine oOn 39 hg3 ?_
   refine aS ?_
   refine oOn 39 hg3 ?_
   refine aS ?_
   refine oOn 39 hg3 ?_
   refine o_p (p_indexAddr rfl rfl rfl sl_77 (lo) (by omega) (by omega) (Rw.some hs (by omega))) rfl ?_
   refine oOn 39 hg3 ?_
   refine o_q (q_load_oldn _ rfl rfl sz_26 rfl (Rw.rd hs (i := lo) (by omega))) rfl ?_
   refine oOn 39 hg3 ?_
   refine aS ?_
   refine oOn 39 hg3 ?_
   refine o_q (q_callv rfl rfl hq rfl (fun w1 h1 => hc lo w1 (by omega) (h1.ent aEt))) rfl ?_
   refine oOn 39 hg3 ?_
   refine aS ?_
   refine o_p (p_pickt rfl rfl hg3 rfl) rfl ?_
   refine aS ?_
   exact oJn 9 48)
  (by
   intro hg5
   have hs6 := hg5; try simp only [decide_eq_false_iff_not] at hs6
   refine oOf 39 hg5 ?_
   refine oOf 39 hg5 ?_
   refine oOf 39 hg5 ?_
   refine oOf 39 hg5 ?_
   refine oOf 39 hg5 ?_
   refine oOf 39 hg5 ?_
   refine oOf 39 hg5 ?_
   refine oOf 39 hg5 ?_
   refine o_p (p_pickf rfl rfl hg5 rfl) rfl ?_
   refine aS ?_
   exact oJn 9 48) ?_
 iterate 3 refine aS ?_
 exact s_retv (rs := [.tmp 6, .tmp 7]) rfl (.tmp rfl (.tmp rfl (.nil))) (fun w' h' => ⟨by simp only [retV, bsF', hlo]; first | (rw [hb]; simp; done) | (have : ¬ lo < cs.length := (by omega); simp [this]; done) | (have : lo < cs.length := (by omega); simp [this]; done) | (have : lo < cs.length := (by omega); have hl9 : lo < l.length := (by omega); simp only [this, hl9, decide_true, Bool.true_and, Bool.and_true]; rfl) | (have : lo < cs.length := (by omega); have hl9 : lo < l.length := (by omega); simp [this, hl9]), h'.below⟩)
theorem c139 (w : World) (c0 : Nat) (x : TEnt) (key : List UInt8) (bt : Nat) (j : Nat) (mo rm : Int) (a : Option Addr) (n cap : Nat) (hj : j ≤ 3) (hx : keyOk (j : Int) x.key = true) (hk : keyOk (j : Int) key = true) (hxl : x.key.length ≤ 1000000) (hkl : key.length ≤ 1000000) (hc0 : Rd w [] c0 0 (.pointer (some ⟨bt, 0, none⟩))) (ht : TbR w [] bt (j : Int) mo rm a n cap) : Calls Tryz.prog 139 #[.agg #[.string (bs x.key), .string (bs x.val)], .string (bs key), .pointer (some ⟨c0, 0, none⟩)] w fun en w' => en = .returned (.int .i64 (cmpK (j : Int) x.key key)) ∧ Below w.heap.size w w' := by
 refine enter (args := [_, _, _]) Tryz.func139 Tryz.ntmps139 rfl rfl (HS.refl w []) ?_
 iterate 2 refine aS ?_
 refine oBx fun b1 _ => ?_
 iterate 3 refine aS ?_
 refine s_draw [] mixed ?_
 refine d_q 0 [] rfl (q_load_old rfl rfl sz_103 (hc0)) (by kernel_rfl) (by kernel_rfl) (by kernel_rfl) rfl ?_
 refine dP 1 ?_
 refine dFa 2 ?_
 refine dFa 3 ?_
 refine d_q 4 [] rfl (q_load_old rfl rfl sz_108 (ht 5 _ rfl)) (by kernel_rfl) (by kernel_rfl) (by kernel_rfl) rfl ?_
 refine dFa 5 ?_
 refine dLd 6 [] ?_
 refine dP 7 ?_
 refine d_q 8 [] rfl (q_callv rfl rfl (cmp_fn _) rfl (fun w1 h1 => cmp_calls w1 j x.key key hj hx hk hxl hkl)) (by kernel_rfl) (by kernel_rfl) (by kernel_rfl) rfl ?_
 refine dP 9 ?_
 refine dNi ?_
 exact s_retv (rs := [.tmp 5]) rfl (.tmp rfl (.nil)) (fun w' h' => ⟨rfl, h'.below⟩)
theorem c102 (w : World) (bt : Nat) (j : Nat) (mo rm : Int) (a : Option Addr) (cap : Nat) (L : List LNd) (key : List UInt8) (i : Nat) (hj : j ≤ 3) (hi : i < L.length) (hl : L.length ≤ 1000) (hel : (nth L i).es.length ≤ 1000) (hK : ∀ i, i < L.length → ∀ x ∈ (nth L i).es, keyOk (j : Int) x.key = true ∧ x.key.length ≤ 1000000) (hk : keyOk (j : Int) key = true) (hkl : key.length ≤ 1000000) (hasc : Asc (j : Int) (nth L i).es) (hs : Nt w [] a L) (ht : TbR w [] bt (j : Int) mo rm a L.length cap) : Calls Tryz.prog 102 #[.pointer (some ⟨bt, 0, none⟩), .int .i64 (i : Int), .string (bs key)] w fun en w' => en = .returned (.tuple #[.int .i64 (plc (j : Int) (nth L i).es key : Int), .bool (fnd (j : Int) (nth L i).es key)]) ∧ Below w.heap.size w w' := by
 refine enter (args := [_, _, _]) Tryz.func102 Tryz.ntmps102 rfl rfl (HS.refl w []) ?_
 iterate 2 refine aS ?_
 refine oBx fun b1 _ => ?_
 iterate 9 refine aS ?_
 refine o_q (q_load_old rfl rfl sz_22 (ht 3 _ rfl)) rfl ?_
 refine aS ?_
 refine o_p (p_indexAddr rfl rfl rfl sl_22 (i) (by omega) (by omega) (Rw.some hs.1 (by omega))) rfl ?_
 refine aS ?_
 refine o_q (q_load_old rfl rfl sz_77 ((hs.1.rdj 1 hi rfl))) rfl ?_
 iterate 2 refine aS ?_
 refine o_q (q_call rfl fn_138 rfl (fun w1 h1 => by have h9 := c138 w1 (nth L i).ea (nth L i).ec (nth L i).es 139 #[.pointer (some ⟨b1, 0, none⟩)] (cmpsK (j : Int) (nth L i).es key) key ((hs.es hi).later h1) (by omega) (by kernel_rfl) (cmpsK_len _ _ _) (fun k w2 hk9 h2 => by rw [cmpsK_get hk9]; exact c139 w2 b1 (nth (nth L i).es k) key bt j mo rm a L.length cap hj (hK i hi _ (mem_nth hk9)).1 hk (hK i hi _ (mem_nth hk9)).2 hkl ((h1.rd_blk (Mc := []) aPk rfl (by simp)).next h2) ((ht.next h1).next h2)); rw [plc_bs hasc, fnd_bs hasc] at h9; exact h9)) rfl ?_
 iterate 5 refine aS ?_
 exact s_retv (rs := [.tmp 6, .tmp 7]) rfl (.tmp rfl (.tmp rfl (.nil))) (fun w' h' => ⟨rfl, h'.below⟩)
theorem pthN_step {co : Int} {ns : List Nd} {key : List UInt8} {f i : Nat} (h : ¬ (fnd co (nth ns i).es key = true ∨ (nth ns i).cs.length = 0)) : pthN co ns key (f + 1) i = (i :: (pthN co ns key f ((nth ns i).cs.getD (plc co (nth ns i).es key) 0).toNat).1, (pthN co ns key f ((nth ns i).cs.getD (plc co (nth ns i).es key) 0).toNat).2) := by
  rw [pthN, if_neg h]
theorem pthN_stop {co : Int} {ns : List Nd} {key : List UInt8} {f i : Nat} (h : fnd co (nth ns i).es key = true ∨ (nth ns i).cs.length = 0) : pthN co ns key (f + 1) i = ([i], plc co (nth ns i).es key, fnd co (nth ns i).es key) := by
  rw [pthN, if_pos h]
theorem inV_map (l : List Nat) : (l.map fun i : Nat => (i : Int)).flatMap inV = l.map fun i : Nat => Value.int .i64 (i : Int) := by
  induction l with
  | nil => rfl
  | cons x l ih =>
    rw [List.map_cons, List.flatMap_cons, List.map_cons, ih]
    rfl
theorem c68 (w : World) (bt : Nat) (j : Nat) (mo rm : Int) (a : Option Addr) (cap : Nat) (L : List LNd) (key : List UInt8) (hj : j ≤ 3) (h0 : 0 < L.length) (hB : Bd (pln L)) (hT : TOk (j : Int) (pln L)) (hK : ∀ i, i < L.length → ∀ x ∈ (nth L i).es, keyOk (j : Int) x.key = true ∧ x.key.length ≤ 1000000) (hk : keyOk (j : Int) key = true) (hkl : key.length ≤ 1000000) (hs : Nt w [] a L) (ht : TbR w [] bt (j : Int) mo rm a L.length cap) : Calls Tryz.prog 68 #[.pointer (some ⟨bt, 0, none⟩), .string (bs key)] w fun en w' => ∃ g : Option Addr × Nat, en = .returned (.tuple #[.slice g.1 (pathN (j : Int) (pln L) key).1.length g.2, .int .i64 ((pathN (j : Int) (pln L) key).2.1 : Int), .bool (pathN (j : Int) (pln L) key).2.2]) ∧ True ∧ HS w [] [.kids g.1 g.2 ((pathN (j : Int) (pln L) key).1.map fun i : Nat => (i : Int))] w' := by
 refine enter (args := [_, _]) Tryz.func68 Tryz.ntmps68 rfl rfl (HS.refl w []) ?_
 iterate 11 refine aS ?_
 refine s_loopI (α := (Option Addr × Nat) × List Nat × Nat × Nat) [4, 5, 6, 7, 8, 9, 10, 11, 12, 13, 14, 15, 16, 17, 18, 19, 20, 21, 22, 23, 24, 25, 26, 27, 28, 29, 30, 31, 32, 33, 34, 35, 36, 37, 38, 39, 40, 41, 42, 43, 44, 45, 46, 47] (fun x => [(4, .slice x.1.1 x.2.1.length x.1.2), (7, .int .i64 (x.2.2.1 : Int))]) (fun x => HS w [] [.own (.slice x.1.1 x.2.1.length x.1.2) 3 1 x.2.1.length (x.2.1.map fun i : Nat => Value.int .i64 (i : Int))]) (fun x => x.2.2.1 < L.length ∧ x.2.1.length + x.2.2.2 = L.length ∧ Gx.Way (pln L) (x.2.2.1 :: x.2.1.reverse) ∧ (pathN (j : Int) (pln L) key) = (x.2.1 ++ (pthN (j : Int) (pln L) key x.2.2.2 x.2.2.1).1, (pthN (j : Int) (pln L) key x.2.2.2 x.2.2.1).2)) (fun x => x.2.2.2) ((none, 0), [], 0, L.length) ⟨h0, by simp, rfl, by rw [pathN, pln_len]; rfl⟩ aSx (fun w h => (h.own_nil 3 1).ent aEt) (fun ⟨⟨ga, gc⟩, P, i, f⟩ hx => ?_)
 dsimp only
 obtain ⟨hi, hlen, hway, hpath⟩ := hx
 simp only [] at hi hlen hway hpath
 have hwl := way_len hT (by rw [pln_len]; exact h0) hway
 simp only [List.length_cons, List.length_reverse, pln_len] at hwl
 obtain ⟨f, rfl⟩ : ∃ f9, f = f9 + 1 := ⟨f - 1, by omega⟩
 have hni := pln_nth hi
 have hle := hB.len
 rw [pln_len] at hle
 have hes9 := hB.es i (by rw [pln_len]; exact hi)
 have hcs9 := hB.cs i (by rw [pln_len]; exact hi)
 rw [hni] at hes9 hcs9
 have hasc := hT.asc i (by rw [pln_len]; exact hi)
 rw [hni] at hasc
 iterate 5 refine aS ?_
 refine o_h (h_buildSlice (cs := [_]) rfl rfl sl_30 zr_3 rfl rfl rfl) rfl (fun b1 _ => ?_)
 refine o_h (h_appendS [_] rfl rfl rfl sl_30 Tryz.underlying30 zr_3 rfl aPk (src_blk aPk) rfl (by intro u hu; simp only [List.mem_cons, List.mem_nil_iff, or_false] at hu; subst hu; rfl) (by omega) (by simp only [maxLen]; omega)) rfl (fun b2 _ => ?_)
 iterate 7 refine aS ?_
 refine o_q (q_call rfl fn_102 rfl (fun w1 h1 => c102 w1 bt j mo rm a cap L key i hj hi (by omega) hes9 hK hk hkl hasc (hs.later h1.nil) (ht.next h1.nil))) rfl ?_
 iterate 11 refine aS ?_
 refine o_or 12 20 32 _ _ rfl
  (by
   intro hg3
   have hs4 := hg3; skip
   refine oOn 20 hg3 ?_
   refine aS ?_
   refine oOn 20 hg3 ?_
   refine aS ?_
   refine oOn 20 hg3 ?_
   refine aS ?_
   refine oOn 20 hg3 ?_
   refine aS ?_
   refine oOn 20 hg3 ?_
   refine o_q (q_load_old rfl rfl sz_22 (ht 3 _ rfl)) rfl ?_
   refine oOn 20 hg3 ?_
   refine aS ?_
   refine oOn 20 hg3 ?_
   refine o_p (p_indexAddr rfl rfl rfl sl_22 (i) (by omega) (by omega) (Rw.some hs.1 (by omega))) rfl ?_
   refine oOn 20 hg3 ?_
   refine aS ?_
   refine oOn 20 hg3 ?_
   refine o_q (q_load_old rfl rfl sz_30 ((hs.1.rdj 2 hi rfl))) rfl ?_
   refine oOn 20 hg3 ?_
   refine aS ?_
   refine oOn 20 hg3 ?_
   refine aS ?_
   refine o_p (p_pickf rfl rfl hg3 rfl) rfl ?_
   refine aS ?_
   exact oJn 12 32)
  (by
   intro hg5
   have hs6 := hg5; skip
   refine oOf 20 hg5 ?_
   refine oOf 20 hg5 ?_
   refine oOf 20 hg5 ?_
   refine oOf 20 hg5 ?_
   refine oOf 20 hg5 ?_
   refine oOf 20 hg5 ?_
   refine oOf 20 hg5 ?_
   refine oOf 20 hg5 ?_
   refine oOf 20 hg5 ?_
   refine oOf 20 hg5 ?_
   refine oOf 20 hg5 ?_
   refine o_p (p_pickt rfl rfl hg5 rfl) rfl ?_
   refine aS ?_
   exact oJn 12 32) ?_
 refine aS ?_
 refine s_cond rfl (fun h7 => ?_) fun h7 => ?_
 ·try simp only [Bool.or_eq_true, decide_eq_true_eq] at h7
  have hst : fnd (j : Int) (nth (pln L) i).es key = true ∨ (nth (pln L) i).cs.length = 0 := by rw [hni]; have hq := h7; first | exact hq | (simp at hq; simpa [LNd.pl] using hq)
  iterate 9 refine aS ?_
  exact s_retv (rs := [.tmp 4, .tmp 5, .tmp 6]) rfl (.tmp rfl (.tmp rfl (.tmp rfl (.nil)))) (fun w' h' => ⟨(b2.1, b2.2), by rw [hpath, pthN_stop hst, hni]; simp [retV, LNd.pl], trivial, by rw [hpath, pthN_stop hst]; have h2 := h'; unfold HA.kids; rw [inV_map]; simp only [List.length_map, List.length_append, List.length_singleton, List.map_append, List.map_cons, List.map_nil]; exact h2.ent aEt⟩)
 try simp only [Bool.or_eq_false_iff, decide_eq_false_iff_not] at h7
 have hst : ¬ (fnd (j : Int) (nth (pln L) i).es key = true ∨ (nth (pln L) i).cs.length = 0) := by rw [hni]; have hq := h7; first | exact hq | (simp at hq; simpa [LNd.pl] using hq)
 have hcl : (nth L i).cs.length = (nth L i).es.length + 1 := by rcases hT.shape i (by rw [pln_len]; exact hi) with h9 | h9; exact absurd (.inr h9) hst; rw [hni] at h9; exact h9
 have hple := plc_le (j : Int) key (nth L i).es
 have hpk : plc (j : Int) (nth L i).es key < (nth L i).cs.length := by omega
 have hkid := kid_in hT (by rw [pln_len]; exact hi) (i := i) (k := plc (j : Int) (nth L i).es key) (by rw [hni]; exact hpk)
 rw [hni, pln_len] at hkid
 simp only [LNd.pl] at hkid
 have hway2 := way_kid hway (by rw [pln_len]; exact hi) (k := plc (j : Int) (nth L i).es key) (by rw [hni]; exact hpk) (by rw [hni]; simp only [LNd.pl]; omega)
 rw [hni] at hway2
 simp only [LNd.pl] at hway2
 iterate 6 refine aS ?_
 refine o_q (q_load_old rfl rfl sz_22 (ht 3 _ rfl)) rfl ?_
 refine aS ?_
 refine o_p (p_indexAddr rfl rfl rfl sl_22 (i) (by omega) (by omega) (Rw.some hs.1 (by omega))) rfl ?_
 refine aS ?_
 refine o_q (q_load_old rfl rfl sz_30 ((hs.1.rdj 2 hi rfl))) rfl ?_
 refine aS ?_
 refine o_p (p_indexAddr rfl rfl rfl sl_30 (plc (j : Int) (nth L i).es key) (by omega) (by omega) (Rw.some (hs.cs hi) (by omega))) rfl ?_
 refine o_q (q_load_old rfl rfl sz_3 (((hs.cs hi).rdj 0 (i := plc (j : Int) (nth L i).es key) hpk rfl))) rfl ?_
 iterate 3 refine aS ?_
 exact s_backI ((b2.1, b2.2), P ++ [i], ((nth L i).cs.getD (plc (j : Int) (nth L i).es key) 0).toNat, f) (by (try simp only []); omega) ⟨by simp only []; omega, by simp only [List.length_append, List.length_singleton]; omega, by simp only [List.reverse_append, List.reverse_singleton, List.singleton_append]; exact hway2, by simp only []; rw [hpath, pthN_step hst]; simp [hni, LNd.pl]⟩ (by simp only [List.length_append, List.length_singleton]; rw [Int.toNat_of_nonneg (by omega)]; exact aSx) (fun w h => by have h2 := h; simp only [List.length_append, List.length_singleton, List.map_append, List.map_cons, List.map_nil]; exact h2.ent aEt)
theorem fn_121 : isFn Tryz.prog 121 = true := by kernel_rfl
instance : TFd Tryz.prog 102 0 0 4 := ⟨by kernel_rfl⟩
theorem sz_4 : tsz Tryz.prog 4 = some (1, false) := by kernel_rfl
instance : TSz Tryz.prog 4 1 false := ⟨sz_4⟩
theorem sz_136 : tsz Tryz.prog 136 = some (1, false) := by kernel_rfl
theorem zv_4 : tzv Tryz.prog 4 = some (.bool false) := by kernel_rfl
abbrev KI : Int → Value := fun n => Value.int .i64 n
theorem insK_mem {ks : List Int} {c x : Int} : x ∈ insK' ks c ↔ x = c ∨ x ∈ ks := by
  unfold insK'
  split
  · rename_i h
    constructor
    · exact fun h1 => .inr h1
    · rintro (rfl | h1)
      · exact h
      · exact h1
  · rw [List.mem_append, List.mem_singleton]
    exact Or.comm
theorem c121 (w : World) (i c : Int) (c0 c5 r : Nat) (ks seen : List Int) (bt : Nat) (j : Nat) (mo rm : Int) (a : Option Addr) (cap : Nat) (L : List LNd) (hw : HS w (fps [.mp r KI ks]) [.mp r KI ks] w) (hst : ∀ x, x ∈ ks ↔ x ∈ seen) (hc0 : Rd w (fps [.mp r KI ks]) c0 0 (.pointer (some ⟨bt, 0, none⟩))) (hc5 : Rd w (fps [.mp r KI ks]) c5 0 (.map (some r))) (ht : TbR w (fps [.mp r KI ks]) bt (j : Int) mo rm a L.length cap) (hs : Nt w (fps [.mp r KI ks]) a L) (hl : L.length ≤ 1000) : Calls Tryz.prog 121 #[.int .i64 i, .int .i64 c, .pointer (some ⟨c0, 0, none⟩), .pointer (some ⟨c5, 0, none⟩)] w fun en w' => ∃ g : List Int, en = .returned (.int .i64 (kidE1 (pln L) c seen)) ∧ (∀ x, x ∈ g ↔ x ∈ (kidS1 (pln L) c seen)) ∧ HS w (fps [.mp r KI ks]) [.mp r KI g] w' := by
 refine enter (args := [_, _, _, _]) Tryz.func121 Tryz.ntmps121 rfl rfl hw ?_
 iterate 8 refine aS ?_
 refine o_q (q_load_old rfl rfl sz_103 (hc0)) rfl ?_
 iterate 3 refine aS ?_
 refine o_q (q_load_old rfl rfl sz_22 (ht 3 _ rfl)) rfl ?_
 iterate 2 refine aS ?_
 try refine oWr ?_
 refine o_q (q_call rfl fn_93 rfl (fun w1 h1 => c93 w1 _ _ _)) rfl ?_
 iterate 2 refine aS ?_
 refine o_or 11 18 29 _ _ rfl
  (by
   intro hg1
   have hs2 := hg1; try simp only [Bool.not_eq_false', Bool.and_eq_true, decide_eq_true_eq] at hs2
   refine oOn 18 hg1 ?_
   refine o_q (q_load_old rfl rfl sz_103 (hc0)) rfl ?_
   refine oOn 18 hg1 ?_
   refine aS ?_
   refine oOn 18 hg1 ?_
   refine aS ?_
   refine oOn 18 hg1 ?_
   refine aS ?_
   refine oOn 18 hg1 ?_
   refine o_q (q_load_old rfl rfl sz_22 (ht 3 _ rfl)) rfl ?_
   refine oOn 18 hg1 ?_
   refine aS ?_
   refine oOn 18 hg1 ?_
   refine o_p (p_indexAddr rfl rfl rfl sl_22 c.toNat (by omega) (by omega) (Rw.some hs.1 (by omega))) rfl ?_
   refine oOn 18 hg1 ?_
   refine aS ?_
   refine oOn 18 hg1 ?_
   refine o_q (q_load_old rfl rfl sz_4 ((hs.1.rdj 0 (i := c.toNat) (by omega) rfl))) rfl ?_
   refine oOn 18 hg1 ?_
   refine aS ?_
   refine o_p (p_pickf rfl rfl hg1 rfl) rfl ?_
   refine aS ?_
   exact oJn 11 29)
  (by
   intro hg3
   have hs4 := hg3; try simp only [Bool.not_eq_true', Bool.and_eq_false_iff, decide_eq_false_iff_not] at hs4
   refine oOf 18 hg3 ?_
   refine oOf 18 hg3 ?_
   refine oOf 18 hg3 ?_
   refine oOf 18 hg3 ?_
   refine oOf 18 hg3 ?_
   refine oOf 18 hg3 ?_
   refine oOf 18 hg3 ?_
   refine oOf 18 hg3 ?_
   refine oOf 18 hg3 ?_
   refine oOf 18 hg3 ?_
   refine o_p (p_pickt rfl rfl hg3 rfl) rfl ?_
   refine aS ?_
   exact oJn 11 29) ?_
 refine aS ?_
 refine s_cond rfl (fun h5 => ?_) fun h5 => ?_
 ·try simp only [Bool.or_eq_true, Bool.not_eq_true', Bool.and_eq_false_iff, decide_eq_false_iff_not] at h5
  have hz : ¬ KidOk (pln L) c := by unfold KidOk; rw [pln_len]; intro h9; rw [pln_nth (by omega)] at h9; have hq := h5; simp [LNd.pl] at h9; rcases hq with hq | hq <;> simp_all <;> omega
  iterate 4 refine aS ?_
  exact s_retv (rs := [.tmp 6]) rfl (.tmp rfl (.nil)) (fun w' h' => ⟨ks, by unfold kidE1; rw [if_neg hz]; rfl, by unfold kidS1; rw [if_neg hz]; exact hst, h'.ent aEt⟩)
 try simp only [Bool.or_eq_false_iff, Bool.not_eq_false', Bool.and_eq_true, decide_eq_true_eq] at h5
 have hz : KidOk (pln L) c := by have hq := h5; have hq1 : 1 ≤ c ∧ c ≤ (L.length : Int) - 1 := (by first | omega | (simp at hq; omega)); unfold KidOk; rw [pln_len, pln_nth (by omega)]; exact ⟨hq1, by simp only [LNd.pl]; first | exact hq.2 | exact hq.2.2 | (simp at hq; first | exact hq.2 | exact hq.2.2)⟩
 iterate 3 refine aS ?_
 refine o_q (q_load_old rfl rfl sz_136 (hc5)) rfl ?_
 refine aS ?_
 refine o_q (q_lookup rfl rfl rfl Tryz.underlying136 zv_4 (key_int ki_3) aPk) rfl ?_
 refine aS ?_
 refine o_q (q_call rfl fn_81 rfl (fun w1 h1 => c81 w1 _ _)) rfl ?_
 iterate 4 refine aS ?_
 refine o_q (q_load_old rfl rfl sz_136 (hc5)) rfl ?_
 refine aS ?_
 refine o_h0 (h_mapUpdate (.inl rfl) rfl rfl rfl Tryz.underlying136 (key_int ki_3) aPt) (fun _ _ => ?_)
 iterate 6 refine aS ?_
 exact s_retv (rs := [.tmp 6]) rfl (.tmp rfl (.nil)) (fun w' h' => ⟨insK' ks c, by unfold kidE1; rw [if_pos hz]; simp only [retV]; by_cases h9 : c ∈ seen <;> simp [h9, (hst c)], by unfold kidS1; rw [if_pos hz]; intro x; rw [insK_mem, List.mem_cons, hst], h'.ent aEt⟩)
theorem c120 (w : World) (ca : Option Addr) (cc : Nat) (cs : List Int) (c0 c5 r : Nat) (ks seen : List Int) (bt : Nat) (j : Nat) (mo rm : Int) (a : Option Addr) (cap : Nat) (L : List LNd) (hw : HS w (fps [.mp r KI ks]) [.mp r KI ks] w) (hst : ∀ x, x ∈ ks ↔ x ∈ seen) (hc0 : Rd w (fps [.mp r KI ks]) c0 0 (.pointer (some ⟨bt, 0, none⟩))) (hc5 : Rd w (fps [.mp r KI ks]) c5 0 (.map (some r))) (ht : TbR w (fps [.mp r KI ks]) bt (j : Int) mo rm a L.length cap) (hs : Nt w (fps [.mp r KI ks]) a L) (hl : L.length ≤ 1000) (hcs : Rw inV 1 w (fps [.mp r KI ks]) ca cs) (hcl : cs.length ≤ 1000) : Calls Tryz.prog 120 #[.slice ca cs.length cc, .func (.func 121) #[] #[.pointer (some ⟨c0, 0, none⟩), .pointer (some ⟨c5, 0, none⟩)]] w fun en w' => ∃ g : Int × List Int, en = .returned (.tuple #[.int .i64 g.1, .int .i64 (kidsE (pln L) cs seen).1]) ∧ (∀ x, x ∈ g.2 ↔ x ∈ (kidsE (pln L) cs seen).2) ∧ HS w (fps [.mp r KI ks]) [.mp r KI g.2] w' := by
 refine enter (args := [_, _]) Tryz.func120 Tryz.ntmps120 rfl rfl hw ?_
 iterate 13 refine aS ?_
 refine s_loopI (α := Nat × List Int × List Int) [4, 5, 6, 7, 8, 11, 12, 13, 14, 15, 16, 17, 18, 19, 20, 21, 22, 23, 24] (fun x => [(11, .int .i64 (x.1 : Int))]) (fun x => HS w (fps [.mp r KI ks]) [.mp r KI x.2.1]) (fun x => x.1 ≤ cs.length ∧ (∀ y, y ∈ x.2.1 ↔ y ∈ x.2.2) ∧ (kidsE (pln L) cs seen) = kidsE (pln L) (cs.drop x.1) x.2.2) (fun x => cs.length - x.1) (0, ks, seen) ⟨Nat.zero_le _, hst, rfl⟩ aSx (fun w h => h.ent aEt) (fun ⟨k, K, S9⟩ hx => ?_)
 dsimp only
 obtain ⟨hk1, hk2, hk3⟩ := hx
 simp only [] at hk1 hk2 hk3
 iterate 5 refine aS ?_
 refine s_cond rfl (fun h1 => ?_) fun h1 => ?_
 ·try simp only [decide_eq_true_eq] at h1
  have hkl : k < cs.length := by omega
  iterate 6 refine aS ?_
  refine o_p (p_indexAddr rfl rfl rfl sl_30 (k) (by omega) (by omega) (Rw.some hcs (by omega))) rfl ?_
  refine o_q (q_load_old rfl rfl sz_3 ((hcs.rdj 0 (i := k) (by omega) rfl))) rfl ?_
  iterate 8 refine aS ?_
  refine o_h (h_callvF (Cs := [.mp r KI K]) rfl rfl fn_121 rfl aPs (fun w1 h1 hf => c121 w1 (k : Int) (cs.getD k 0) c0 c5 r K S9 bt j mo rm a cap L hf hk2 (h1.keep hc0) (h1.keep hc5) (ht.keep h1) (hs.keep h1) hl)) rfl (fun b2 hkG => ?_)
  have hkg := hkG
  iterate 7 refine aS ?_
  refine s_cond rfl (fun h3 => ?_) fun h3 => ?_
  ·try simp only [Bool.not_eq_true', decide_eq_false_iff_not] at h3
   iterate 7 refine aS ?_
   exact s_retv (rs := [.tmp 4, .tmp 5]) rfl (.tmp rfl (.tmp rfl (.nil))) (fun w' h' => ⟨((k : Int), b2), by rw [hk3, kids_drop hkl, kidsE_cons, if_neg h3]; rfl, by rw [hk3, kids_drop hkl, kidsE_cons, if_neg h3]; exact hkG, h'.ent aEt⟩)
  try simp only [Bool.not_eq_false', decide_eq_true_eq] at h3
  iterate 4 refine aS ?_
  try refine oWr ?_
  iterate 2 refine aS ?_
  exact s_backI (k + 1, b2, kidS1 (pln L) (cs.getD k 0) S9) (by (try simp only []); omega) ⟨by (try simp only []); omega, hkg, by simp only []; rw [hk3, kids_drop hkl, kidsE_cons, if_pos h3]⟩ aSx (fun w h => h.ent aEt)
 try simp only [decide_eq_false_iff_not] at h1
 refine s_exit_to rfl ?_
 iterate 5 refine aS ?_
 exact s_retv (rs := [.tmp 4, .tmp 5]) rfl (.tmp rfl (.tmp rfl (.nil))) (fun w' h' => ⟨(0, K), by rw [hk3, List.drop_of_length_le (by omega)]; rfl, by rw [hk3, List.drop_of_length_le (by omega)]; exact hk2, h'.ent aEt⟩)
theorem sz_102 : tsz Tryz.prog 102 = some (3, true) := by kernel_rfl
instance : TSz Tryz.prog 102 3 true := ⟨sz_102⟩
theorem fn_118 : isFn Tryz.prog 118 = true := by kernel_rfl
theorem fn_89 : isFn Tryz.prog 89 = true := by kernel_rfl
theorem fn_120 : isFn Tryz.prog 120 = true := by kernel_rfl
theorem nE1_a {t : Tre} {i : Nat} {es : List TEnt} {cs : List Int} (h : nth t.ns i = ⟨true, es, cs⟩) (b : Bool) (hb : b = true ↔ (cs.length = 0 ∨ cs.length = es.length + 1)) : (if (bif decide ((es.length : Int) ≤ mostN t.mo t.rm i) then (0 : Int) else 16) = 0 then (bif b then (0 : Int) else 10) else (bif decide ((es.length : Int) ≤ mostN t.mo t.rm i) then (0 : Int) else 16)) = nE1 t i := by
  unfold nE1
  rw [h]
  by_cases h1 : (es.length : Int) ≤ mostN t.mo t.rm i
  · rw [decide_eq_true h1, if_pos h1]
    by_cases h2 : cs.length = 0 ∨ cs.length = es.length + 1
    · rw [if_pos h2, hb.2 h2]
      rfl
    · rw [if_neg h2, show b = false by cases b; rfl; exact absurd (hb.1 rfl) h2]
      rfl
  · rw [decide_eq_false h1, if_neg h1]
    rfl
theorem c82 (w : World) (i r : Nat) (ks seen : List Int) (bt : Nat) (j : Nat) (mo rm : Int) (a : Option Addr) (cap : Nat) (L : List LNd) (hw : HS w (fps [.mp r KI ks]) [.mp r KI ks] w) (hst : ∀ x, x ∈ ks ↔ x ∈ seen) (ht : TbR w (fps [.mp r KI ks]) bt (j : Int) mo rm a L.length cap) (hs : Nt w (fps [.mp r KI ks]) a L) (hl : L.length ≤ 1000) (hj : j ≤ 3) (hi : i < L.length) (hel : (nth L i).es.length ≤ 1000) (hcl : (nth L i).cs.length ≤ 1000) (hkl : ∀ x ∈ (nth L i).es, x.key.length ≤ 1000000) : Calls Tryz.prog 82 #[.pointer (some ⟨bt, 0, none⟩), .int .i64 (i : Int), .map (some r)] w fun en w' => ∃ g : List Int, en = .returned (.int .i64 (nodE (⟨(j : Int), mo, rm, pln L⟩ : Tre) i seen).1) ∧ (∀ x, x ∈ g ↔ x ∈ (nodE (⟨(j : Int), mo, rm, pln L⟩ : Tre) i seen).2) ∧ HS w (fps [.mp r KI ks]) [.mp r KI g] w' := by
 have hn : nth (pln L) i = (nth L i).pl := pln_nth hi
 have hE2 : nE2 (⟨(j : Int), mo, rm, pln L⟩ : Tre) i = if nE1 (⟨(j : Int), mo, rm, pln L⟩ : Tre) i = 0 then (eachF ((nth L i).es.map (entE (j : Int))) 0).2 else nE1 (⟨(j : Int), mo, rm, pln L⟩ : Tre) i := by unfold nE2 entsE; rw [hn]; rfl
 have hE3 : nE3 (⟨(j : Int), mo, rm, pln L⟩ : Tre) i seen = if nE2 (⟨(j : Int), mo, rm, pln L⟩ : Tre) i = 0 then kidsE (pln L) (nth L i).cs seen else (nE2 (⟨(j : Int), mo, rm, pln L⟩ : Tre) i, seen) := by unfold nE3; rw [hn]; rfl
 have hE4 : nE4 (⟨(j : Int), mo, rm, pln L⟩ : Tre) i seen = if (nE3 (⟨(j : Int), mo, rm, pln L⟩ : Tre) i seen).1 = 0 then (eachF ((List.range (nth L i).es.length).map (ordE (j : Int) (nth L i).es)) 0).2 else (nE3 (⟨(j : Int), mo, rm, pln L⟩ : Tre) i seen).1 := by unfold nE4 ordsE; rw [hn]; rfl
 refine enter (args := [_, _, _]) Tryz.func82 Tryz.ntmps82 rfl rfl hw ?_
 iterate 2 refine aS ?_
 refine oBx fun b1 _ => ?_
 refine oBx fun b2 _ => ?_
 iterate 8 refine aS ?_
 refine o_q (q_load_old rfl rfl sz_22 (ht 3 _ rfl)) rfl ?_
 refine aS ?_
 refine o_p (p_indexAddr rfl rfl rfl sl_22 (i) (by omega) (by omega) (Rw.some hs.1 (by omega))) rfl ?_
 refine o_q (q_load_oldn _ rfl rfl sz_102 rfl (Rw.rd hs.1 hi)) rfl ?_
 refine oAl (fun b3 _ => ?_) zr_102
 refine oSt ?_
 iterate 8 refine aS ?_
 refine s_cond rfl (fun h4 => ?_) fun h4 => ?_
 ·try simp only [Bool.not_eq_true'] at h4
  have hu : (nth (pln L) i).us = false := by rw [hn]; have hq := h4; simpa [LNd.pl] using hq
  iterate 5 refine aS ?_
  refine o_and 10 22 32 _ _ rfl
   (by
    intro hg5
    have hs6 := hg5; try simp only [decide_eq_true_eq] at hs6
    refine oOn 22 hg5 ?_
    refine aS ?_
    refine oOn 22 hg5 ?_
    refine aS ?_
    refine oOn 22 hg5 ?_
    refine aS ?_
    refine oOn 22 hg5 ?_
    refine aS ?_
    refine oOn 22 hg5 ?_
    refine aS ?_
    refine oOn 22 hg5 ?_
    refine o_q (q_load_old rfl rfl sz_22 (ht 3 _ rfl)) rfl ?_
    refine oOn 22 hg5 ?_
    refine aS ?_
    refine oOn 22 hg5 ?_
    refine aS ?_
    try refine oWr ?_
    refine oOn 22 hg5 ?_
    refine aS ?_
    refine o_p (p_pickt rfl rfl hg5 rfl) rfl ?_
    refine aS ?_
    exact oJn 10 32)
   (by
    intro hg7
    have hs8 := hg7; try simp only [decide_eq_false_iff_not] at hs8
    refine oOf 22 hg7 ?_
    refine oOf 22 hg7 ?_
    refine oOf 22 hg7 ?_
    refine oOf 22 hg7 ?_
    refine oOf 22 hg7 ?_
    refine oOf 22 hg7 ?_
    refine oOf 22 hg7 ?_
    refine oOf 22 hg7 ?_
    refine oOf 22 hg7 ?_
    refine o_p (p_pickf rfl rfl hg7 rfl) rfl ?_
    refine aS ?_
    exact oJn 10 32) ?_
  refine aS ?_
  refine o_and 9 33 42 _ _ rfl
   (by
    intro hg9
    have hs10 := hg9; try simp only [Bool.and_eq_true, decide_eq_true_eq] at hs10
    refine oOn 33 hg9 ?_
    refine aS ?_
    refine oOn 33 hg9 ?_
    refine aS ?_
    refine oOn 33 hg9 ?_
    refine aS ?_
    refine oOn 33 hg9 ?_
    refine aS ?_
    refine oOn 33 hg9 ?_
    refine aS ?_
    refine oOn 33 hg9 ?_
    refine aS ?_
    refine oOn 33 hg9 ?_
    refine aS ?_
    try refine oWr ?_
    refine oOn 33 hg9 ?_
    refine aS ?_
    refine o_p (p_pickt rfl rfl hg9 rfl) rfl ?_
    refine aS ?_
    exact oJn 9 42)
   (by
    intro hg11
    have hs12 := hg11; try simp only [Bool.and_eq_false_iff, decide_eq_false_iff_not] at hs12
    refine oOf 33 hg11 ?_
    refine oOf 33 hg11 ?_
    refine oOf 33 hg11 ?_
    refine oOf 33 hg11 ?_
    refine oOf 33 hg11 ?_
    refine oOf 33 hg11 ?_
    refine oOf 33 hg11 ?_
    refine oOf 33 hg11 ?_
    refine o_p (p_pickf rfl rfl hg11 rfl) rfl ?_
    refine aS ?_
    exact oJn 9 42) ?_
  refine o_q (q_call rfl fn_81 rfl (fun w1 h1 => c81 w1 _ _)) rfl ?_
  iterate 2 refine aS ?_
  exact s_retv (rs := [.tmp 6]) rfl (.tmp rfl (.nil)) (fun w' h' => ⟨ks, by unfold nodE; simp only []; rw [if_neg (by rw [hu]; decide), hn]; simp only [retV, LNd.pl]; simp only [cond_eq_ite, Bool.and_eq_true, decide_eq_true_eq, pln_len]; (split <;> split <;> first | rfl | omega), by unfold nodE; simp only []; rw [if_neg (by rw [hu]; decide)]; split <;> exact hst, h'.ent aEt⟩)
 try simp only [Bool.not_eq_false'] at h4
 have hu : (nth (pln L) i).us = true := by rw [hn]; have hq := h4; simpa [LNd.pl] using hq
 have hN1 : nth ((⟨(j : Int), mo, rm, pln L⟩ : Tre)).ns i = ⟨true, (nth L i).es, (nth L i).cs⟩ := by show nth (pln L) i = _; rw [hn] at hu ⊢; simp only [LNd.pl] at hu ⊢; rw [hu]
 rw [nodE_used (⟨(j : Int), mo, rm, pln L⟩ : Tre) i hu]
 iterate 2 refine aS ?_
 refine s_weaken (L' := [(1, _), (3, _), (5, _), (6, _), (7, _)]) aSx (fun _ h => h) ?_
 refine s_cutI (α := Unit) [8, 44, 45, 46, 47, 48, 49, 50, 51, 52, 53, 54, 55, 56, 57, 58, 59, 60, 61, 62, 63, 64, 65, 66, 67, 68] (fun _ => [(8, .int .i64 (nE1 (⟨(j : Int), mo, rm, pln L⟩ : Tre) i))]) (fun _ => HS w (fps [.mp r KI ks]) [.blk b1 103 1 [.pointer (some ⟨bt, 0, none⟩)], .blk b2 136 1 [.map (some r)], .blk b3 102 3 (nth L i).vals, .mp r KI ks]) (fun _ => True) ?_ ?_
 ·skip
  refine s_draw [] mixed ?_
  refine dFa 0 ?_
  refine dLd 1 [] ?_
  refine d_p 2 rfl (p_len_slice rfl rfl Tryz.underlying77) (by kernel_rfl) rfl rfl ?_
  refine dLd 3 [] ?_
  refine dP 4 ?_
  refine d_q 5 [] rfl (q_call rfl fn_118 rfl (fun w1 h1 => c118 w1 bt j mo rm a L.length cap i (ht.next h1))) (by kernel_rfl) (by kernel_rfl) (by kernel_rfl) rfl ?_
  refine dP 6 ?_
  refine d_q 7 [] rfl (q_call rfl fn_81 rfl (fun w1 h1 => c81 w1 _ _)) (by kernel_rfl) (by kernel_rfl) (by kernel_rfl) rfl ?_
  refine dFa 8 ?_
  refine dLd 9 [] ?_
  refine d_p 10 rfl (p_len_slice rfl rfl Tryz.underlying30) (by kernel_rfl) rfl rfl ?_
  refine dP 11 ?_
  refine dP 12 ?_
  apply d_split 56
  ·exact rfl
  ·intro hg13
   have hs14 := hg13; try simp only [decide_eq_true_eq] at hs14
   refine dOf 13 56 hg13 ?_
   refine dOf 14 56 hg13 ?_
   refine dOf 15 56 hg13 ?_
   refine dOf 16 56 hg13 ?_
   refine dOf 17 56 hg13 ?_
   refine dOf 18 56 hg13 ?_
   refine dOf 19 56 hg13 ?_
   refine dOf 20 56 hg13 ?_
   refine d_p 21 rfl (p_pickt rfl rfl hg13 rfl) (by kernel_rfl) rfl rfl ?_
   refine d_q 22 [] rfl (q_call rfl fn_81 rfl (fun w1 h1 => c81 w1 _ _)) (by kernel_rfl) (by kernel_rfl) (by kernel_rfl) rfl ?_
   refine d_h 23 rfl (h_buildSlice (cs := [_, _]) rfl rfl sl_165 zr_31 rfl rfl rfl) (by kernel_rfl) (fun w h => h.ent aEt) rfl (fun b15 _ => ?_)
   refine dBa ?_
   refine d_q 24 [] rfl (q_call rfl fn_75 rfl (fun w1 h1 => f75 h1 aPk (by rfl) (by rfl) (by decide))) (by kernel_rfl) (by kernel_rfl) (by kernel_rfl) rfl ?_
   refine d_slot (show _ = Value.int .i64 (nE1 (⟨(j : Int), mo, rm, pln L⟩ : Tre) i) from by congr 1; rw [firstW2]; exact nE1_a hN1 _ (by first | (simp only [true_iff]; left; have hq := hg13; simp at hq ⊢; omega) | (have hq : ¬ (((nth L i).cs.length : Int) = 0) := of_decide_eq_false hg13; rw [decide_eq_true_eq]; omega))) ?_
   refine dP 25 ?_
   refine dNi ?_
   exact s_joinI () trivial aSx (fun w h => h.ent aEt)
  intro hg16
  have hs17 := hg16; try simp only [decide_eq_false_iff_not] at hs17
  refine dFo 13 56 hg16 ?_
  refine d_qon 14 56 [] rfl rfl rfl hg16 (q_load rfl rfl sz_30 aPk rfl) (by kernel_rfl) (by kernel_rfl) (by kernel_rfl) rfl ?_
  refine d_pon 15 56 rfl rfl rfl hg16 (p_len_slice rfl rfl Tryz.underlying30) (by kernel_rfl) rfl rfl ?_
  refine dFo 16 56 hg16 ?_
  refine d_qon 17 56 [] rfl rfl rfl hg16 (q_load rfl rfl sz_77 aPk rfl) (by kernel_rfl) (by kernel_rfl) (by kernel_rfl) rfl ?_
  refine d_pon 18 56 rfl rfl rfl hg16 (p_len_slice rfl rfl Tryz.underlying77) (by kernel_rfl) rfl rfl ?_
  refine dPo 19 56 hg16 ?_
  try refine dWr ?_
  refine dPo 20 56 hg16 ?_
  refine d_p 21 rfl (p_pickf rfl rfl hg16 rfl) (by kernel_rfl) rfl rfl ?_
  refine d_q 22 [] rfl (q_call rfl fn_81 rfl (fun w1 h1 => c81 w1 _ _)) (by kernel_rfl) (by kernel_rfl) (by kernel_rfl) rfl ?_
  refine d_h 23 rfl (h_buildSlice (cs := [_, _]) rfl rfl sl_165 zr_31 rfl rfl rfl) (by kernel_rfl) (fun w h => h.ent aEt) rfl (fun b18 _ => ?_)
  refine dBa ?_
  refine d_q 24 [] rfl (q_call rfl fn_75 rfl (fun w1 h1 => f75 h1 aPk (by rfl) (by rfl) (by decide))) (by kernel_rfl) (by kernel_rfl) (by kernel_rfl) rfl ?_
  refine d_slot (show _ = Value.int .i64 (nE1 (⟨(j : Int), mo, rm, pln L⟩ : Tre) i) from by congr 1; rw [firstW2]; exact nE1_a hN1 _ (by first | (simp only [true_iff]; left; have hq := hg16; simp at hq ⊢; omega) | (have hq : ¬ (((nth L i).cs.length : Int) = 0) := of_decide_eq_false hg16; rw [decide_eq_true_eq]; omega))) ?_
  refine dP 25 ?_
  refine dNi ?_
  exact s_joinI () trivial aSx (fun w h => h.ent aEt)
 intro _ _
 iterate 6 refine aS ?_
 refine s_cutI (α := Unit) [8, 71, 72, 73, 74, 75, 76, 77] (fun _ => [(8, .int .i64 (nE2 (⟨(j : Int), mo, rm, pln L⟩ : Tre) i))]) (fun _ => HS w (fps [.mp r KI ks]) [.blk b1 103 1 [.pointer (some ⟨bt, 0, none⟩)], .blk b2 136 1 [.map (some r)], .blk b3 102 3 (nth L i).vals, .mp r KI ks]) (fun _ => True) ?_ ?_
 ·skip
  refine s_cond rfl (fun h19 => ?_) fun h19 => ?_
  ·try simp only [decide_eq_true_eq] at h19
   iterate 4 refine aS ?_
   refine o_q (q_call rfl fn_89 rfl (fun w1 h1 => c89 w1 (nth L i).ea (nth L i).ec (nth L i).es 119 #[.pointer (some ⟨b1, 0, none⟩)] ((nth L i).es.map (entE (j : Int))) ((hs.es hi).later h1) (by omega) (by kernel_rfl) (by simp) (fun k w2 hk9 _ h2 => by rw [ents_get hk9]; exact c119 w2 b1 (k : Int) (nth (nth L i).es k) bt j mo rm a L.length cap hj (hkl _ (mem_nth hk9)) ((h1.rd_blk (Mc := []) (b := b1) aPk rfl (by simp)).next h2) ((ht.next h1).next h2)))) rfl ?_
   iterate 5 refine aS ?_
   exact s_joinI () trivial (by rw [hE2, if_pos h19]; exact aSx) (fun w h => h.ent aEt)
  try simp only [decide_eq_false_iff_not] at h19
  refine aS ?_
  exact s_joinI () trivial (by rw [hE2, if_neg h19]; exact aSx) (fun w h => h.ent aEt)
 intro _ _
 iterate 6 refine aS ?_
 refine s_cutI (α := List Int) [8, 80, 81, 82, 83, 84, 85, 86] (fun _ => [(8, .int .i64 (nE3 (⟨(j : Int), mo, rm, pln L⟩ : Tre) i seen).1)]) (fun q => HS w (fps [.mp r KI ks]) [.blk b1 103 1 [.pointer (some ⟨bt, 0, none⟩)], .blk b2 136 1 [.map (some r)], .blk b3 102 3 (nth L i).vals, .mp r KI q]) (fun q => ∀ x, x ∈ q ↔ x ∈ (nE3 (⟨(j : Int), mo, rm, pln L⟩ : Tre) i seen).2) ?_ ?_
 ·skip
  refine s_cond rfl (fun h20 => ?_) fun h20 => ?_
  ·try simp only [decide_eq_true_eq] at h20
   iterate 4 refine aS ?_
   refine o_h (h_callF (Cs := [.mp r KI ks]) rfl fn_120 rfl aPs (fun w1 h1 hf => c120 w1 (nth L i).ca (nth L i).cc (nth L i).cs b1 b2 r ks seen bt j mo rm a cap L hf hst (h1.rd_blkF aPs (b := b1) aPk rfl) (h1.rd_blkF aPs (b := b2) aPk rfl) ((ht.keep h1).mono (fps_pick aPs)) ((hs.keep h1).mono (fps_pick aPs)) hl (((hs.cs hi).keep h1).mono (fps_pick aPs)) hcl)) rfl (fun b21 hkG => ?_)
   iterate 5 refine aS ?_
   exact s_joinI b21.2 (by rw [hE3, if_pos h20]; exact hkG) (by rw [hE3, if_pos h20]; exact aSx) (fun w h => h.ent aEt)
  try simp only [decide_eq_false_iff_not] at h20
  refine aS ?_
  exact s_joinI ks (by rw [hE3, if_neg h20]; exact hst) (by rw [hE3, if_neg h20]; exact aSx) (fun w h => h.ent aEt)
 intro ks2 hks2
 iterate 6 refine aS ?_
 refine s_cutI (α := Unit) [8, 89, 90, 91, 92, 93, 94, 95] (fun _ => [(8, .int .i64 (nE4 (⟨(j : Int), mo, rm, pln L⟩ : Tre) i seen))]) (fun _ => HS w (fps [.mp r KI ks]) [.blk b1 103 1 [.pointer (some ⟨bt, 0, none⟩)], .blk b2 136 1 [.map (some r)], .blk b3 102 3 (nth L i).vals, .mp r KI ks2]) (fun _ => True) ?_ ?_
 ·skip
  refine s_cond rfl (fun h22 => ?_) fun h22 => ?_
  ·try simp only [decide_eq_true_eq] at h22
   have he0 := ents_ok (nE2_0 _ _ (nE3_0 _ _ h22))
   rw [hn] at he0
   have hkok : ∀ x ∈ (nth L i).es, keyOk (j : Int) x.key = true ∧ x.key.length ≤ 1000000 := fun x hx => ⟨entE_key (he0 x hx), hkl x hx⟩
   iterate 4 refine aS ?_
   refine o_q (q_call rfl fn_89 rfl (fun w1 h1 => c89 w1 (nth L i).ea (nth L i).ec (nth L i).es 122 #[.pointer (some ⟨b1, 0, none⟩), .pointer (some ⟨b3, 0, none⟩)] ((List.range (nth L i).es.length).map (ordE (j : Int) (nth L i).es)) ((hs.es hi).later h1) (by omega) (by kernel_rfl) (by simp) (fun k w2 hk9 _ h2 => by rw [ords_get hk9]; exact c122 w2 b1 b3 k true (nth L i).ea (nth L i).ec (nth L i).es (.bool true) bt j mo rm a L.length cap hj hk9 (by omega) hkok ((h1.rd_blk (Mc := []) (b := b1) aPk rfl (by simp)).next h2) ((h1.rd_blk (Mc := []) (b := b3) aPk rfl (by simp)).next h2) (((hs.es hi).later h1).later h2) ((ht.next h1).next h2)))) rfl ?_
   iterate 5 refine aS ?_
   exact s_joinI () trivial (by rw [hE4, if_pos h22]; exact aSx) (fun w h => h.ent aEt)
  try simp only [decide_eq_false_iff_not] at h22
  refine aS ?_
  exact s_joinI () trivial (by rw [hE4, if_neg h22]; exact aSx) (fun w h => h.ent aEt)
 intro _ _
 iterate 5 refine aS ?_
 exact s_retv (rs := [.tmp 6]) rfl (.tmp rfl (.nil)) (fun w' h' => ⟨ks2, rfl, hks2, h'.ent aEt⟩)
theorem fn_148 : isFn Tryz.prog 148 = true := by kernel_rfl
theorem fn_123 : isFn Tryz.prog 123 = true := by kernel_rfl
theorem sz_140 : tsz Tryz.prog 140 = some (1, false) := by kernel_rfl
instance : TSz Tryz.prog 140 1 false := ⟨sz_140⟩
theorem sl_140 : tsl Tryz.prog 140 = some (4, 1, 1) := by kernel_rfl
theorem c148 (w : World) (ua : Option Addr) (uc : Nat) (u : List Int) (n : Int) (hu : Rw inV 1 w [] ua u) (hum : u.length ≤ 100000) : Calls Tryz.prog 148 #[.slice ua u.length uc, .int .i64 n] w fun en w' => en = .returned (.int .i64 (ixI (hasC u n))) ∧ Below w.heap.size w w' := by
 refine enter (args := [_, _]) Tryz.func148 Tryz.ntmps148 rfl rfl (HS.refl w []) ?_
 iterate 12 refine aS ?_
 refine s_loopI (α := Nat) [4, 5, 8, 9, 10, 11, 12, 13, 14, 15, 16, 17, 18] (fun k => [(8, .int .i64 (k : Int))]) (fun _ => _) (fun k => k ≤ u.length ∧ ∀ i, i < k → (hasC u n).getD i false = false) (fun k => u.length - k) 0 ⟨Nat.zero_le _, fun i h => absurd h (Nat.not_lt_zero i)⟩ aSx (fun w h => h) (fun k hkk => ?_)
 obtain ⟨hk1, hk2⟩ := hkk
 iterate 5 refine aS ?_
 refine s_cond rfl (fun h1 => ?_) fun h1 => ?_
 ·try simp only [decide_eq_true_eq] at h1
  have hk : k < u.length := by omega
  iterate 13 refine aS ?_
  refine o_p (p_indexAddr rfl rfl rfl sl_30 (k) (by omega) (by omega) (Rw.some hu (by omega))) rfl ?_
  refine o_q (q_load_old rfl rfl sz_3 ((hu.rdj 0 hk rfl))) rfl ?_
  iterate 2 refine aS ?_
  refine s_cond rfl (fun h2 => ?_) fun h2 => ?_
  ·try simp only [decide_eq_true_eq] at h2
   have hq9 : n = u.getD k 0 := h2
   have e := ixB_eq (l := hasC u n) (k := k) (by rw [hasC_len]; omega) hk2 (fun _ => by rw [hasC_get hk]; exact decide_eq_true hq9)
   iterate 5 refine aS ?_
   exact s_retv (rs := [.tmp 4]) rfl (.tmp rfl (.nil)) (fun w' h' => ⟨by simp only [retV, ixI, e, hasC_len]; rw [if_pos hk], h'.below⟩)
  try simp only [decide_eq_false_iff_not] at h2
  have hq9 : ¬ n = u.getD k 0 := h2
  iterate 4 refine aS ?_
  try refine oWr ?_
  iterate 2 refine aS ?_
  exact s_backI (k + 1) (by omega) ⟨by omega, fun i hi => (Nat.lt_or_ge i k).elim (hk2 i) (fun h => by obtain rfl : i = k := (by omega); rw [hasC_get hk]; exact decide_eq_false hq9)⟩ aSx (fun w h => h)
 try simp only [decide_eq_false_iff_not] at h1
 obtain rfl : k = u.length := by omega
 refine s_exit_to rfl ?_
 iterate 4 refine aS ?_
 exact s_retv (rs := [.tmp 4]) rfl (.tmp rfl (.nil)) (fun w' h' => ⟨by have e := ixB_eq (l := hasC u n) (k := u.length) (by rw [hasC_len]; omega) hk2 (fun h => by rw [hasC_len] at h; omega); simp only [retV, ixI, e, hasC_len]; rw [if_neg (by omega)], h'.below⟩)
theorem c126 (w : World) (ua : Option Addr) (uc : Nat) (u : List Int) (n : Int) (hu : Rw inV 1 w [] ua u) (hum : u.length ≤ 100000) : Calls Tryz.prog 126 #[.slice ua u.length uc, .int .i64 n] w fun en w' => en = .returned (.bool (decide (n ∈ u))) ∧ Below w.heap.size w w' := by
 refine enter (args := [_, _]) Tryz.func126 Tryz.ntmps126 rfl rfl (HS.refl w []) ?_
 iterate 8 refine aS ?_
 refine o_q (q_call rfl fn_148 rfl (fun w1 h1 => c148 w1 ua uc u n (hu.later h1) hum)) rfl ?_
 iterate 3 refine aS ?_
 exact s_retv (rs := [.tmp 4]) rfl (.tmp rfl (.nil)) (fun w' h' => ⟨by rw [← hasC_any, ← ixI_any]; rfl, h'.below⟩)
def WkC (S : Type) (I : S → Prop) (C : S → HA) (st : S → Vis → S) (er : S → Vis → Int × Int) (q : Nat) (cv : Array Value) (bt : Nat) (j : Nat) (mo rm : Int) (a : Option Addr) (cap : Nat) (L : List LNd) (f : Nat) : Prop := ∀ (w : World) (s : S) (v : Vis) (pl ph : Option Addr) (P : List Nat), (HS w (fps [C s]) [C s] w) → (isFn Tryz.prog q = true) → (∀ s1 s2 : S, (C s1).fp = (C s2).fp) → (∀ s2 v2, I s2 → I (st s2 v2)) → (I s) → (∀ (s2 : S) (v2 : Vis) (p2 p3 : Option Addr) (w1 : World), HS w (fps [C s]) [C s2] w1 → I s2 → v2.i < L.length → KOk (j : Int) v2.lo → KOk (j : Int) v2.hi → PtrK w1 (fps [C s2]) p2 v2.lo → PtrK w1 (fps [C s2]) p3 v2.hi → Calls Tryz.prog q (#[] ++ [.int .i64 (v2.i : Int), .int .i64 v2.d, .pointer p2, .pointer p3].toArray ++ cv) w1 fun en w2 => ∃ g : Unit, en = .returned (.tuple #[.int .i64 (er s2 v2).1, .int .i64 (er s2 v2).2]) ∧ True ∧ HS w1 (fps [C s2]) [C (st s2 v2)] w2) → (TbR w (fps [C s]) bt (j : Int) mo rm a L.length cap) → (Nt w (fps [C s]) a L) → (TOk (j : Int) (pln L)) → (Bd (pln L)) → (PtrK w (fps [C s]) pl v.lo) → (PtrK w (fps [C s]) ph v.hi) → (0 < L.length) → (Gx.Way (pln L) (v.i :: P)) → (P.length + f = L.length) → (v.d = (P.length : Int) + 1) → (KOk (j : Int) v.lo) → (KOk (j : Int) v.hi) → Calls Tryz.prog 123 #[.pointer (some ⟨bt, 0, none⟩), .int .i64 (v.i : Int), .int .i64 v.d, .pointer pl, .pointer ph, .func (.func q) #[] cv] w fun en w' => ∃ g : Unit, en = .returned (.tuple #[.int .i64 (runV st er s (vis (pln L) f v)).1.1, .int .i64 (runV st er s (vis (pln L) f v)).1.2]) ∧ True ∧ HS w (fps [C s]) [C (runV st er s (vis (pln L) f v)).2] w'
theorem c123s (w : World) (S : Type) (I : S → Prop) (C : S → HA) (st : S → Vis → S) (er : S → Vis → Int × Int) (q : Nat) (cv : Array Value) (bt : Nat) (j : Nat) (mo rm : Int) (a : Option Addr) (cap : Nat) (L : List LNd) (s : S) (v : Vis) (pl ph : Option Addr) (P : List Nat) (f : Nat) (hw : HS w (fps [C s]) [C s] w) (hq : isFn Tryz.prog q = true) (hfp : ∀ s1 s2 : S, (C s1).fp = (C s2).fp) (hI : ∀ s2 v2, I s2 → I (st s2 v2)) (hIs : I s) (hv : ∀ (s2 : S) (v2 : Vis) (p2 p3 : Option Addr) (w1 : World), HS w (fps [C s]) [C s2] w1 → I s2 → v2.i < L.length → KOk (j : Int) v2.lo → KOk (j : Int) v2.hi → PtrK w1 (fps [C s2]) p2 v2.lo → PtrK w1 (fps [C s2]) p3 v2.hi → Calls Tryz.prog q (#[] ++ [.int .i64 (v2.i : Int), .int .i64 v2.d, .pointer p2, .pointer p3].toArray ++ cv) w1 fun en w2 => ∃ g : Unit, en = .returned (.tuple #[.int .i64 (er s2 v2).1, .int .i64 (er s2 v2).2]) ∧ True ∧ HS w1 (fps [C s2]) [C (st s2 v2)] w2) (ht : TbR w (fps [C s]) bt (j : Int) mo rm a L.length cap) (hs : Nt w (fps [C s]) a L) (hT : TOk (j : Int) (pln L)) (hB : Bd (pln L)) (hpl : PtrK w (fps [C s]) pl v.lo) (hph : PtrK w (fps [C s]) ph v.hi) (h0 : 0 < L.length) (hway : Gx.Way (pln L) (v.i :: P)) (hf : P.length + (f + 1) = L.length) (hd : v.d = (P.length : Int) + 1) (hko : KOk (j : Int) v.lo) (hkp : KOk (j : Int) v.hi) (ih : WkC S I C st er q cv bt j mo rm a cap L f) : Calls Tryz.prog 123 #[.pointer (some ⟨bt, 0, none⟩), .int .i64 (v.i : Int), .int .i64 v.d, .pointer pl, .pointer ph, .func (.func q) #[] cv] w fun en w' => ∃ g : Unit, en = .returned (.tuple #[.int .i64 (runV st er s (vis (pln L) (f + 1) v)).1.1, .int .i64 (runV st er s (vis (pln L) (f + 1) v)).1.2]) ∧ True ∧ HS w (fps [C s]) [C (runV st er s (vis (pln L) (f + 1) v)).2] w' := by
 have hi0 := way_lt hT (by rw [pln_len]; exact h0) hway v.i (List.mem_cons_self ..)
 have hi : v.i < L.length := by rw [pln_len] at hi0; exact hi0
 have hn := pln_nth hi
 have hle := hB.len
 rw [pln_len] at hle
 have hel := hB.es v.i hi0
 have hcl := hB.cs v.i hi0
 rw [hn] at hel hcl
 simp only [LNd.pl] at hel hcl
 have hsh := hT.shape v.i hi0
 rw [hn] at hsh
 simp only [LNd.pl] at hsh
 refine enter (args := [_, _, _, _, _, _]) Tryz.func123 Tryz.ntmps123 rfl rfl hw ?_
 iterate 13 refine aS ?_
 refine o_h (h_callvF (Cs := [C s]) rfl rfl hq rfl aPs (fun w1 h1 hf9 => hv s v pl ph w1 (h1.ent aEt) hIs hi hko hkp ((hpl.keep h1).mono (fps_pick aPs)) ((hph.keep h1).mono (fps_pick aPs)))) rfl (fun _ _ => ?_)
 iterate 11 refine aS ?_
 refine s_cond rfl (fun h1 => ?_) fun h1 => ?_
 ·try simp only [Bool.not_eq_true', decide_eq_false_iff_not] at h1
  have hz : runV st er s (vis (pln L) (f + 1) v) = (er s v, st s v) := by rw [vis, runV, if_neg h1]
  iterate 7 refine aS ?_
  exact s_retv (rs := [.tmp 12, .tmp 13]) rfl (.tmp rfl (.tmp rfl (.nil))) (fun w' h' => ⟨(), by rw [hz]; rfl, trivial, by rw [hz]; exact h'.ent aEt⟩)
 try simp only [Bool.not_eq_false', decide_eq_true_eq] at h1
 have hz0 : runV st er s [v] = ((0, 0), st s v) := by rw [runV, if_pos h1, runV]
 iterate 7 refine aS ?_
 refine o_q (q_load_old rfl rfl sz_22 (ht 3 _ rfl)) rfl ?_
 refine aS ?_
 refine o_p (p_indexAddr rfl rfl rfl sl_22 (v.i) (by omega) (by omega) (Rw.some hs.1 (by omega))) rfl ?_
 refine o_q (q_load_oldn _ rfl rfl sz_102 rfl (Rw.rd hs.1 hi)) rfl ?_
 refine oAl (fun b2 _ => ?_) zr_102
 refine oSt ?_
 iterate 3 refine aS ?_
 refine s_weaken (L' := [(0, _), (2, _), (3, _), (4, _), (5, _), (12, _), (13, _), (16, _)]) aSx (fun _ h => h) ?_
 iterate 7 refine aS ?_
 refine s_loopI (α := Nat × S) [12, 13, 17, 18, 19, 20, 21, 22, 47, 48, 49, 50, 51, 52, 53, 54, 55, 56, 57, 58, 59, 60, 61, 62, 63, 64, 65, 66, 67, 68, 69, 70, 71, 72, 73, 74, 75, 76, 77, 78, 79, 80, 81, 82, 83, 84, 85, 86, 87] (fun x => [(47, .int .i64 (x.1 : Int))]) (fun x => HS w (fps [C s]) [.blk b2 102 3 (nth L v.i).vals, C x.2]) (fun x => x.1 ≤ (nth L v.i).cs.length ∧ (runV st er s (visK (pln L) f v x.1)).1.2 = 0 ∧ (runV st er s (visK (pln L) f v x.1)).2 = x.2) (fun x => (nth L v.i).cs.length - x.1) (0, st s v) ⟨Nat.zero_le _, by rw [visK_0, hz0], by rw [visK_0, hz0]⟩ aSx (fun w h => h.ent aEt) (fun ⟨k, sk⟩ hx => ?_)
 dsimp only
 obtain ⟨hk1, hk2, hk3⟩ := hx
 simp only [] at hk1 hk2 hk3
 iterate 5 refine aS ?_
 refine s_cond rfl (fun h3 => ?_) fun h3 => ?_
 ·try simp only [decide_eq_true_eq] at h3
  have hkl : k < (nth L v.i).cs.length := by omega
  have hkid := kid_in hT hi0 (k := k) (by rw [hn]; exact hkl)
  have hwk := way_kid hway hi0 (k := k) (by rw [hn]; exact hkl) (by omega)
  have hki : ((kidV (pln L) v k).i : Int) = (nth L v.i).cs.getD k 0 := by unfold kidV; rw [hn] at hkid ⊢; simp only [LNd.pl] at hkid ⊢; rw [Int.toNat_of_nonneg (by omega)]
  rw [pln_len] at hkid
  iterate 6 refine aS ?_
  refine o_p (p_indexAddr rfl rfl rfl sl_30 (k) (by omega) (by omega) (Rw.some (hs.cs hi) (by omega))) rfl ?_
  refine o_q (q_load_old rfl rfl sz_3 (((hs.cs hi).rdj 0 (i := k) hkl rfl))) rfl ?_
  iterate 2 refine aS ?_
  refine o_slot (show _ = Value.int .i64 ((kidV (pln L) v k).i : Int) from by rw [hki]; rfl) ?_
  iterate 14 refine aS ?_
  refine s_cutI (α := Option Addr) [19, 56, 57, 58, 59, 60, 61] (fun p => [(19, .pointer p)]) (fun _ => HS w (fps [C s]) [.blk b2 102 3 (nth L v.i).vals, C sk]) (fun p => PtrK w (fps [C s]) p (loK (nth L v.i).es k v.lo)) ?_ ?_
  ·skip
   refine s_cond rfl (fun h4 => ?_) fun h4 => ?_
   ·try simp only [decide_eq_true_eq] at h4
    iterate 5 refine aS ?_
    try refine oWr ?_
    refine o_p (p_indexAddr rfl rfl rfl sl_77 (k - 1) (by omega) (by omega) (Rw.some (hs.es hi) (by omega))) rfl ?_
    iterate 3 refine aS ?_
    exact s_joinI (some ⟨ab (nth L v.i).ea, ao (nth L v.i).ea + (k - 1) * 2, none⟩) (by rw [show loK (nth L v.i).es k v.lo = some (nth (nth L v.i).es (k - 1)).key from if_pos (by omega)]; exact ⟨_, _, rfl, ((hs.es hi).rdj 0 (by omega) rfl)⟩) aSx (fun w h => h.ent aEt)
   try simp only [decide_eq_false_iff_not] at h4
   refine aS ?_
   exact s_joinI pl (by rw [show loK (nth L v.i).es k v.lo = v.lo from if_neg (by omega)]; exact hpl) aSx (fun w h => h.ent aEt)
  intro p1 hp1
  iterate 9 refine aS ?_
  refine s_weaken (L' := [(0, _), (2, _), (3, _), (4, _), (5, _), (16, _), (17, _), (18, _), (19, _), (20, _), (44, _), (45, _), (46, _), (47, _), (66, _)]) aSx (fun _ h => h) ?_
  refine s_cutI (α := Option Addr) [20, 67, 68, 69, 70, 71] (fun p => [(20, .pointer p)]) (fun _ => HS w (fps [C s]) [.blk b2 102 3 (nth L v.i).vals, C sk]) (fun p => PtrK w (fps [C s]) p (hiK (nth L v.i).es k v.hi)) ?_ ?_
  ·skip
   refine s_cond rfl (fun h5 => ?_) fun h5 => ?_
   ·try simp only [decide_eq_true_eq] at h5
    iterate 4 refine aS ?_
    refine o_p (p_indexAddr rfl rfl rfl sl_77 (k) (by omega) (by omega) (Rw.some (hs.es hi) (by omega))) rfl ?_
    iterate 3 refine aS ?_
    exact s_joinI (some ⟨ab (nth L v.i).ea, ao (nth L v.i).ea + k * 2, none⟩) (by rw [show hiK (nth L v.i).es k v.hi = some (nth (nth L v.i).es k).key from if_pos (by omega)]; exact ⟨_, _, rfl, ((hs.es hi).rdj 0 (by omega) rfl)⟩) aSx (fun w h => h.ent aEt)
   try simp only [decide_eq_false_iff_not] at h5
   refine aS ?_
   exact s_joinI ph (by rw [show hiK (nth L v.i).es k v.hi = v.hi from if_neg (by omega)]; exact hph) aSx (fun w h => h.ent aEt)
  intro p2 hp2
  iterate 6 refine aS ?_
  try refine oWr ?_
  iterate 3 refine aS ?_
  refine o_h (h_callF (Cs := [C sk]) rfl fn_123 rfl aPs (fun w1 h1 hf9 => ih w1 sk (kidV (pln L) v k) p1 p2 (v.i :: P) hf9 hq hfp hI (hk3 ▸ runV_inv hI _ _ hIs) (fun s2 v2 p3 p4 w2 h2 hs2 hi2 ha2 hb2 hp3 hp4 => hv s2 v2 p3 p4 w2 (HS.thenF (h1.ent (Bs := [C sk]) aEt) h2) hs2 hi2 ha2 hb2 hp3 hp4) ((ht.keep h1).mono (fps_pick aPs)) ((hs.keep h1).mono (fps_pick aPs)) hT hB (by unfold kidV; rw [hn]; exact (hp1.keep h1).mono (fps_pick aPs)) (by unfold kidV; rw [hn]; exact (hp2.keep h1).mono (fps_pick aPs)) h0 hwk (by simp only [List.length_cons]; omega) (by show v.d + 1 = _; simp only [List.length_cons]; omega) (kok_lo hT hi0 (by rw [hn]; simp only [LNd.pl]; omega) hko) (kok_hi hT hi0 hkp))) rfl (fun _ _ => ?_)
  iterate 11 refine aS ?_
  refine s_cond rfl (fun h6 => ?_) fun h6 => ?_
  ·try simp only [Bool.not_eq_true', decide_eq_false_iff_not] at h6
   have e9 : runV st er s (visK (pln L) f v k ++ vis (pln L) f (kidV (pln L) v k)) = runV st er sk (vis (pln L) f (kidV (pln L) v k)) := by rw [runV_ok _ _ hk2, hk3]
   have hz : runV st er s (vis (pln L) (f + 1) v) = runV st er sk (vis (pln L) f (kidV (pln L) v k)) := by rw [visK_all, hn]; simp only [LNd.pl]; obtain ⟨B, eB⟩ := visK_more (pln L) f v (show k + 1 ≤ (nth L v.i).cs.length by omega); rw [eB, visK_succ, runV_err _ _ (by rw [e9]; exact h6), e9]
   refine aS ?_
   refine s_weaken (L' := [(0, _), (2, _), (3, _), (4, _), (5, _), (16, _), (21, _), (22, _), (44, _), (45, _), (46, _), (47, _)]) aSx (fun _ h => h) ?_
   iterate 6 refine aS ?_
   exact s_retv (rs := [.tmp 12, .tmp 13]) rfl (.tmp rfl (.tmp rfl (.nil))) (fun w' h' => ⟨(), by rw [hz]; rfl, trivial, by rw [hz]; exact h'.ent aEt⟩)
  try simp only [Bool.not_eq_false', decide_eq_true_eq] at h6
  have hz : runV st er s (visK (pln L) f v (k + 1)) = runV st er sk (vis (pln L) f (kidV (pln L) v k)) := by rw [visK_succ, runV_ok _ _ hk2, hk3]
  iterate 2 refine aS ?_
  refine s_weaken (L' := [(0, _), (2, _), (3, _), (4, _), (5, _), (16, _), (44, _), (45, _), (46, _), (47, _)]) aSx (fun _ h => h) ?_
  iterate 2 refine aS ?_
  try refine oWr ?_
  iterate 2 refine aS ?_
  exact s_backI (k + 1, (runV st er sk (vis (pln L) f (kidV (pln L) v k))).2) (by (try simp only []); omega) ⟨by (try simp only []); omega, by simp only []; rw [hz]; exact h6, by simp only []; rw [hz]⟩ aSx (fun w h => h.ent aEt)
 try simp only [decide_eq_false_iff_not] at h3
 refine s_exit_to rfl ?_
 iterate 5 refine aS ?_
 exact s_retv (rs := [.tmp 12, .tmp 13]) rfl (.tmp rfl (.tmp rfl (.nil))) (fun w' h' => ⟨(), by have hke : k = (nth L v.i).cs.length := (by omega); rw [visK_all, hn]; simp only [LNd.pl]; rw [← hke, runV_0 _ _ hk2]; rfl, trivial, by have hke : k = (nth L v.i).cs.length := (by omega); rw [visK_all, hn]; simp only [LNd.pl]; rw [← hke, hk3]; exact h'.ent aEt⟩)
theorem walk_c (S : Type) (I : S → Prop) (C : S → HA) (st : S → Vis → S) (er : S → Vis → Int × Int) (q : Nat) (cv : Array Value) (bt : Nat) (j : Nat) (mo rm : Int) (a : Option Addr) (cap : Nat) (L : List LNd) : ∀ f, WkC S I C st er q cv bt j mo rm a cap L f
  | 0 => fun w s v pl ph P hw hq hfp hI hIs hv ht hs hT hB hpl hph h0 hway hf hd hko hkp => by
    have hl := way_len hT (by rw [pln_len]; exact h0) hway
    rw [pln_len] at hl
    simp only [List.length_cons] at hl
    omega
  | f + 1 => fun w s v pl ph P hw hq hfp hI hIs hv ht hs hT hB hpl hph h0 hway hf hd hko hkp => c123s w S I C st er q cv bt j mo rm a cap L s v pl ph P f hw hq hfp hI hIs hv ht hs hT hB hpl hph h0 hway hf hd hko hkp (walk_c S I C st er q cv bt j mo rm a cap L f)
theorem c124 (w : World) (i : Nat) (d : Int) (pl ph : Option Addr) (c4 bb n : Nat) (s : List Bool) (hw : HS w (fps [.blk bb 4 n (s.map Value.bool)]) [.blk bb 4 n (s.map Value.bool)] w) (hc4 : Rd w (fps [.blk bb 4 n (s.map Value.bool)]) c4 0 (.slice (some ⟨bb, 0, none⟩) n n)) (hi : i < n) (hn : s.length = n) : Calls Tryz.prog 124 #[.int .i64 (i : Int), .int .i64 d, .pointer pl, .pointer ph, .pointer (some ⟨c4, 0, none⟩)] w fun en w' => ∃ g : Unit, en = .returned (.tuple #[.int .i64 0, .int .i64 0]) ∧ True ∧ HS w (fps [.blk bb 4 n (s.map Value.bool)]) [.blk bb 4 n ((s.set i true).map Value.bool)] w' := by
 refine enter (args := [_, _, _, _, _]) Tryz.func124 Tryz.ntmps124 rfl rfl hw ?_
 iterate 7 refine aS ?_
 refine o_q (q_load_old rfl rfl sz_140 (hc4)) rfl ?_
 refine aS ?_
 refine o_p (p_indexAddr rfl rfl rfl sl_140 (i) (by omega) (by omega) rfl) rfl ?_
 refine o_h0 (h_store rfl rfl rfl sz_4 rfl aPt (by first | (simp only [List.length_map, List.length_singleton, List.length_cons, List.length_nil]; omega) | (simp; omega)) rfl) (fun _ _ => ?_)
 iterate 6 refine aS ?_
 exact s_retv (rs := [.tmp 9, .tmp 10]) rfl (.tmp rfl (.tmp rfl (.nil))) (fun w' h' => ⟨(), rfl, trivial, by have h2 := h'; rw [List.map_set]; simp only [setMany, Nat.zero_add, Nat.mul_one] at h2; exact h2.ent aEt⟩)
end Go.Proofs
namespace Gx
set_option linter.unusedSimpArgs false
set_option linter.unusedVariables false
open Go Go.RowKit
section
variable {P : Program} {o : Oper} {L : Slots} {w0 : World} {M : List Nat} {As As' : List HA}
def isPt (P : Program) (t te : TypeId) : Prop := P.underlying t = some (.pointer te) ∧ ∃ j, P.info? te = some j ∧ j.size ≠ 0
theorem isPt_of {t te : TypeId} {n : Nat} {b : Bool} (h : P.underlying t = some (.pointer te)) (h2 : tsz P te = some (n, b)) (hn : n ≠ 0) : isPt P t te := by
  refine ⟨h, ?_⟩
  unfold tsz at h2
  cases hi : P.info? te with
  | none => rw [hi] at h2; cases h2
  | some j =>
    refine ⟨j, rfl, fun h0 => hn ?_⟩
    rw [hi] at h2
    cases hd : P.underlying te with
    | none => rw [hd] at h2; cases h2
    | some d =>
      rw [hd] at h2
      injection h2 with h2
      injection h2 with h3 h4
      omega
theorem ptee {t te : TypeId} (h : P.underlying t = some (.pointer te)) : P.underlying t = some (.pointer (P.pointee t)) := by
  rw [h]; simp [Program.pointee, h]
theorem p_ptr_nn {t t' te : TypeId} {x y : Operand} {p : Option Addr} (ho : o.op = .binOp .neq t x y t') (hx : ev L x = some (.pointer p)) (hy : ev L y = some (.pointer none)) (ht : isPt P t te) : OpP P o L (.bool p.isSome) := by
  intro ρ w hρ
  have hg : (eqGuard .neq t x y (.pointer p) (.pointer none)).run P w = .ok () w := by unfold eqGuard; simp
  have h := run_neq_pointer_nil w t p (ptee ht.1)
  simp only [execOp, ho, hρ _ _ hx, hρ _ _ hy, Sem.run_bind, hg, h, Result.andThen_ok, Sem.run_pure]
  cases p <;> rfl
end
end Gx
namespace Go.Proofs
open Go Go.RowKit Gx
set_option linter.unusedVariables false
set_option linter.unusedSimpArgs false
attribute [local irreducible] Go.Calls Gx.S Gx.O Gx.D Gx.OpP Gx.OpQ Gx.OpH
set_option maxRecDepth 20000
theorem fn_126 : isFn Tryz.prog 126 = true := by kernel_rfl
theorem fn_105 : isFn Tryz.prog 105 = true := by kernel_rfl
theorem ipt_171 : isPt Tryz.prog 171 9 := isPt_of Tryz.underlying171 sz_9 (by decide)
set_option maxHeartbeats 1000000 in
theorem c125 (w : World) (v : Vis) (pl ph : Option Addr) (c1 c7 : Nat) (s : Int) (bt : Nat) (j : Nat) (mo rm : Int) (a : Option Addr) (cap : Nat) (L : List LNd) (hw : HS w (fps [.blk c7 3 1 [.int .i64 s]]) [.blk c7 3 1 [.int .i64 s]] w) (hc1 : Rd w (fps [.blk c7 3 1 [.int .i64 s]]) c1 0 (.pointer (some ⟨bt, 0, none⟩))) (ht : TbR w (fps [.blk c7 3 1 [.int .i64 s]]) bt (j : Int) mo rm a L.length cap) (hs : Nt w (fps [.blk c7 3 1 [.int .i64 s]]) a L) (hj : j ≤ 3) (hmo : 0 ≤ mo ∧ mo ≤ 1000) (hi : v.i < L.length) (hl : L.length ≤ 1000) (hel : (nth L v.i).es.length ≤ 1000) (hcl : (nth L v.i).cs.length ≤ 1000) (hc0 : (nth L 0).cs.length ≤ 1000) (he0 : (nth L 0).es.length ≤ 1000) (hpl : PtrK w (fps [.blk c7 3 1 [.int .i64 s]]) pl v.lo) (hph : PtrK w (fps [.blk c7 3 1 [.int .i64 s]]) ph v.hi) (hlo : ∀ k, v.lo = some k → (keyOk (j : Int) k = true ∧ k.length ≤ 1000000)) (hhi : ∀ k, v.hi = some k → (keyOk (j : Int) k = true ∧ k.length ≤ 1000000)) (hok : ∀ x ∈ (nth L v.i).es, keyOk (j : Int) x.key = true ∧ x.key.length ≤ 1000000) : Calls Tryz.prog 125 #[.int .i64 (v.i : Int), .int .i64 v.d, .pointer pl, .pointer ph, .pointer (some ⟨c1, 0, none⟩), .pointer (some ⟨c7, 0, none⟩)] w fun en w' => ∃ g : Unit, en = .returned (.tuple #[.int .i64 (erV (⟨(j : Int), mo, rm, pln L⟩ : Tre) s v).1, .int .i64 (erV (⟨(j : Int), mo, rm, pln L⟩ : Tre) s v).2]) ∧ True ∧ HS w (fps [.blk c7 3 1 [.int .i64 s]]) [.blk c7 3 1 [.int .i64 (stV (⟨(j : Int), mo, rm, pln L⟩ : Tre) s v)]] w' := by
 have h00 : 0 < L.length := by omega
 have hn : nth (pln L) v.i = (nth L v.i).pl := pln_nth hi
 have hn0 : nth (pln L) 0 = (nth L 0).pl := pln_nth h00
 have hG : gapB (⟨(j : Int), mo, rm, pln L⟩ : Tre) v = (decide (0 < v.i) && (decide (((nth L v.i).es.length : Int) < mo / 2) || ((decide (((nth L 0).es.length : Int) = 0) && decide ((v.i : Int) ∈ (nth L 0).cs)) && decide (((nth L v.i).es.length : Int) ≤ rm)))) := by unfold gapB; rw [hn, hn0]; simp only [LNd.pl]; congr 3; congr 1; apply decide_eq_decide.2; omega
 have hO : outsB (⟨(j : Int), mo, rm, pln L⟩ : Tre) v = (nth L v.i).es.any (outB (⟨(j : Int), mo, rm, pln L⟩ : Tre) v) := by unfold outsB; rw [hn]; rfl
 have hE : erV (⟨(j : Int), mo, rm, pln L⟩ : Tre) s v = ((v.i : Int), if gapB (⟨(j : Int), mo, rm, pln L⟩ : Tre) v = true then 14 else if outsB (⟨(j : Int), mo, rm, pln L⟩ : Tre) v = true then 9 else if (nth L v.i).cs.length = 0 then (if (if s = 0 then v.d else s) = v.d then 0 else 22) else 0) := by unfold erV; rw [hn]; rfl
 have hS : stV (⟨(j : Int), mo, rm, pln L⟩ : Tre) s v = if gapB (⟨(j : Int), mo, rm, pln L⟩ : Tre) v = true then s else if outsB (⟨(j : Int), mo, rm, pln L⟩ : Tre) v = true then s else if (nth L v.i).cs.length = 0 then (if s = 0 then v.d else s) else s := by unfold stV; rw [hn]; rfl
 refine enter (args := [_, _, _, _, _, _]) Tryz.func125 Tryz.ntmps125 rfl rfl hw ?_
 iterate 7 refine aS ?_
 refine o_q (q_load_old rfl rfl sz_103 (hc1)) rfl ?_
 iterate 3 refine aS ?_
 refine o_q (q_load_old rfl rfl sz_22 (ht 3 _ rfl)) rfl ?_
 refine aS ?_
 refine o_p (p_indexAddr rfl rfl rfl sl_22 (v.i) (by omega) (by omega) (Rw.some hs.1 (by omega))) rfl ?_
 refine o_q (q_load_oldn _ rfl rfl sz_102 rfl (Rw.rd hs.1 hi)) rfl ?_
 refine oAl (fun b1 _ => ?_) zr_102
 refine oSt ?_
 iterate 4 refine aS ?_
 refine o_q (q_load_old rfl rfl sz_103 (hc1)) rfl ?_
 iterate 3 refine aS ?_
 refine o_q (q_load_old rfl rfl sz_22 (ht 3 _ rfl)) rfl ?_
 refine o_p (p_indexAddr rfl rfl rfl sl_22 (0) (by omega) (by omega) (Rw.some hs.1 (by omega))) rfl ?_
 refine o_q (q_load_oldn _ rfl rfl sz_102 rfl (Rw.rd hs.1 (i := 0) h00)) rfl ?_
 refine oAl (fun b2 _ => ?_) zr_102
 refine oSt ?_
 iterate 6 refine aS ?_
 refine s_weaken (L' := [(0, _), (1, _), (2, _), (3, _), (4, _), (5, _), (10, _), (11, _), (12, _), (13, _), (33, _)]) aSx (fun _ h => h) ?_
 refine s_cutI (α := Unit) [10, 11, 14, 34, 35, 36, 37, 38, 39, 40, 41, 42, 43, 44, 45, 46, 47, 48, 49, 50, 51, 52, 53, 54, 55, 56, 57, 58, 59, 60, 61, 62, 63, 64] (fun _ => []) (fun _ => HS w (fps [.blk c7 3 1 [.int .i64 s]]) [.blk b2 102 3 (nth L 0).vals, .blk b1 102 3 (nth L v.i).vals, .blk c7 3 1 [.int .i64 s]]) (fun _ => gapB (⟨(j : Int), mo, rm, pln L⟩ : Tre) v = false) ?_ ?_
 ·skip
  refine s_cond rfl (fun h3 => ?_) fun h3 => ?_
  ·try simp only [decide_eq_true_eq] at h3
   iterate 7 refine aS ?_
   refine o_and 5 38 43 _ _ rfl
    (by
     intro hg4
     have hs5 := hg4; try simp only [decide_eq_true_eq] at hs5
     refine oOn 38 hg4 ?_
     refine aS ?_
     refine oOn 38 hg4 ?_
     refine aS ?_
     refine oOn 38 hg4 ?_
     refine aS ?_
     refine oOn 38 hg4 ?_
     refine o_q (q_call rfl fn_126 rfl (fun w1 h1 => c126 w1 (nth L 0).ca (nth L 0).cc (nth L 0).cs (v.i : Int) ((hs.cs h00).later h1) (by omega))) rfl ?_
     refine o_p (p_pickt rfl rfl hg4 rfl) rfl ?_
     refine aS ?_
     exact oJn 5 43)
    (by
     intro hg6
     have hs7 := hg6; try simp only [decide_eq_false_iff_not] at hs7
     refine oOf 38 hg6 ?_
     refine oOf 38 hg6 ?_
     refine oOf 38 hg6 ?_
     refine oOf 38 hg6 ?_
     refine o_p (p_pickf rfl rfl hg6 rfl) rfl ?_
     refine aS ?_
     exact oJn 5 43) ?_
   iterate 3 refine aS ?_
   refine s_cutI (α := Unit) [44, 45, 46, 47, 48, 49, 50, 51, 52, 53, 54, 55, 56, 57, 58, 59, 60, 61, 62, 63] (fun _ => [(63, .bool (decide (((nth L v.i).es.length : Int) < mo / 2) || ((decide (((nth L 0).es.length : Int) = 0) && decide ((v.i : Int) ∈ (nth L 0).cs)) && decide (((nth L v.i).es.length : Int) ≤ rm))))]) (fun _ => HS w (fps [.blk c7 3 1 [.int .i64 s]]) [.blk b2 102 3 (nth L 0).vals, .blk b1 102 3 (nth L v.i).vals, .blk c7 3 1 [.int .i64 s]]) (fun _ => True) ?_ ?_
   ·skip
    refine s_draw [] mixed ?_
    refine dFa 0 ?_
    refine dLd 1 [] ?_
    refine d_p 2 rfl (p_len_slice rfl rfl Tryz.underlying77) (by kernel_rfl) rfl rfl ?_
    refine d_q 3 [] rfl (q_load_old rfl rfl sz_103 (hc1)) (by kernel_rfl) (by kernel_rfl) (by kernel_rfl) rfl ?_
    refine d_q 4 [] rfl (q_call rfl fn_105 rfl (fun w1 h1 => c105 w1 bt j mo rm a L.length cap hmo (ht.next h1))) (by kernel_rfl) (by kernel_rfl) (by kernel_rfl) rfl ?_
    refine dP 5 ?_
    refine dP 6 ?_
    apply d_split 50
    ·exact rfl
    ·intro hg8
     have hs9 := hg8; try simp only [decide_eq_true_eq] at hs9
     refine dOf 7 50 hg8 ?_
     refine dOf 8 50 hg8 ?_
     refine dOu 9 52 ?_
     refine dOu 10 52 ?_
     refine dOu 11 52 ?_
     refine dOu 12 52 ?_
     refine dOu 13 52 ?_
     refine dOu 14 52 ?_
     refine dOu 15 52 ?_
     refine dOu 16 52 ?_
     refine dOu 17 52 ?_
     refine dOf 18 50 hg8 ?_
     refine d_p 19 rfl (p_pickt rfl rfl hg8 rfl) (by kernel_rfl) rfl rfl ?_
     refine d_slot (show _ = Value.bool (decide (((nth L v.i).es.length : Int) < mo / 2) || ((decide (((nth L 0).es.length : Int) = 0) && decide ((v.i : Int) ∈ (nth L 0).cs)) && decide (((nth L v.i).es.length : Int) ≤ rm))) from by congr 1; first | (simp_all; done) | (simp_all; omega)) ?_
     refine dNi ?_
     exact s_joinI () trivial aSx (fun w h => h.ent aEt)
    intro hg10
    have hs11 := hg10; try simp only [decide_eq_false_iff_not] at hs11
    refine dPo 7 50 hg10 ?_
    refine dPo 8 50 hg10 ?_
    apply d_split 52
    ·exact rfl
    ·intro hg12
     have hs13 := hg12; try simp only [Bool.and_eq_true, decide_eq_true_eq] at hs13
     refine dFo 9 52 hg12 ?_
     refine d_qon 10 52 [] rfl rfl rfl hg12 (q_load rfl rfl sz_77 aPk rfl) (by kernel_rfl) (by kernel_rfl) (by kernel_rfl) rfl ?_
     refine d_pon 11 52 rfl rfl rfl hg12 (p_len_slice rfl rfl Tryz.underlying77) (by kernel_rfl) rfl rfl ?_
     refine d_qon 12 52 [] rfl rfl rfl hg12 (q_load_old rfl rfl sz_103 (hc1)) (by kernel_rfl) (by kernel_rfl) (by kernel_rfl) rfl ?_
     refine dPo 13 52 hg12 ?_
     refine dFo 14 52 hg12 ?_
     refine dFo 15 52 hg12 ?_
     refine d_qon 16 52 [] rfl rfl rfl hg12 (q_load_old rfl rfl sz_3 (ht 2 _ rfl)) (by kernel_rfl) (by kernel_rfl) (by kernel_rfl) rfl ?_
     refine dPo 17 52 hg12 ?_
     refine d_pon 18 50 rfl rfl rfl hg10 (p_pickt rfl rfl hg12 rfl) (by kernel_rfl) rfl rfl ?_
     refine d_p 19 rfl (p_pickf rfl rfl hg10 rfl) (by kernel_rfl) rfl rfl ?_
     refine d_slot (show _ = Value.bool (decide (((nth L v.i).es.length : Int) < mo / 2) || ((decide (((nth L 0).es.length : Int) = 0) && decide ((v.i : Int) ∈ (nth L 0).cs)) && decide (((nth L v.i).es.length : Int) ≤ rm))) from by congr 1; first | (simp_all; done) | (simp_all; omega)) ?_
     refine dNi ?_
     exact s_joinI () trivial aSx (fun w h => h.ent aEt)
    intro hg14
    have hs15 := hg14; try simp only [Bool.and_eq_false_iff, decide_eq_false_iff_not] at hs15
    refine dOf 9 52 hg14 ?_
    refine dOf 10 52 hg14 ?_
    refine dOf 11 52 hg14 ?_
    refine dOf 12 52 hg14 ?_
    refine dOf 13 52 hg14 ?_
    refine dOf 14 52 hg14 ?_
    refine dOf 15 52 hg14 ?_
    refine dOf 16 52 hg14 ?_
    refine dOf 17 52 hg14 ?_
    refine d_pon 18 50 rfl rfl rfl hg10 (p_pickf rfl rfl hg14 rfl) (by kernel_rfl) rfl rfl ?_
    refine d_p 19 rfl (p_pickf rfl rfl hg10 rfl) (by kernel_rfl) rfl rfl ?_
    refine d_slot (show _ = Value.bool (decide (((nth L v.i).es.length : Int) < mo / 2) || ((decide (((nth L 0).es.length : Int) = 0) && decide ((v.i : Int) ∈ (nth L 0).cs)) && decide (((nth L v.i).es.length : Int) ≤ rm))) from by congr 1; first | (simp_all; done) | (simp_all; omega)) ?_
    refine dNi ?_
    exact s_joinI () trivial aSx (fun w h => h.ent aEt)
   intro _ _
   refine s_cond rfl (fun h16 => ?_) fun h16 => ?_
   ·try simp only [Bool.or_eq_true, decide_eq_true_eq, Bool.and_eq_true] at h16
    have hz : gapB (⟨(j : Int), mo, rm, pln L⟩ : Tre) v = true := by rw [hG]; have hq := h16; simp only [Bool.and_eq_true, Bool.or_eq_true, decide_eq_true_eq]; exact ⟨by omega, hq⟩
    iterate 6 refine aS ?_
    exact s_retv (rs := [.tmp 10, .tmp 11]) rfl (.tmp rfl (.tmp rfl (.nil))) (fun w' h' => ⟨(), by rw [hE]; simp only []; rw [if_pos hz]; rfl, trivial, by rw [hS, if_pos hz]; exact h'.ent aEt⟩)
   try simp only [Bool.or_eq_false_iff, decide_eq_false_iff_not, Bool.and_eq_false_iff] at h16
   refine aS ?_
   exact s_joinI () (by rw [hG, decide_eq_true (by omega), Bool.true_and]; apply Bool.eq_false_iff.2; intro h9; simp only [Bool.and_eq_true, Bool.or_eq_true, decide_eq_true_eq] at h9; have hq := h16; simp at hq h9; grind) aSx (fun w h => h.ent aEt)
  try simp only [decide_eq_false_iff_not] at h3
  refine aS ?_
  exact s_joinI () (by rw [hG, decide_eq_false (by omega)]; rfl) aSx (fun w h => h.ent aEt)
 intro _ hz1
 iterate 9 refine aS ?_
 refine s_loopI (α := Nat) [10, 11, 16, 68, 69, 70, 71, 72, 73, 74, 75, 76, 77, 78, 79, 80, 81, 82, 83, 84, 85, 86, 87, 88, 89, 90, 91, 92, 93, 94, 95, 96, 97, 98, 99, 100, 101, 102, 103, 104, 105, 106, 107] (fun k => [(68, .int .i64 (k : Int))]) (fun _ => HS w (fps [.blk c7 3 1 [.int .i64 s]]) [.blk b2 102 3 (nth L 0).vals, .blk b1 102 3 (nth L v.i).vals, .blk c7 3 1 [.int .i64 s]]) (fun k => k ≤ (nth L v.i).es.length ∧ ∀ i, i < k → outB (⟨(j : Int), mo, rm, pln L⟩ : Tre) v (nth (nth L v.i).es i) = false) (fun k => (nth L v.i).es.length - k) 0 ⟨Nat.zero_le _, fun i h => absurd h (Nat.not_lt_zero i)⟩ aSx (fun w h => h.ent aEt) (fun k hx => ?_)
 obtain ⟨hk1, hk2⟩ := hx
 iterate 5 refine aS ?_
 refine s_cond rfl (fun h17 => ?_) fun h17 => ?_
 ·try simp only [decide_eq_true_eq] at h17
  have hkl : k < (nth L v.i).es.length := by omega
  iterate 5 refine aS ?_
  refine o_p (p_indexAddr rfl rfl rfl sl_77 (k) (by omega) (by omega) (Rw.some (hs.es hi) (by omega))) rfl ?_
  refine o_q (q_load_oldn _ rfl rfl sz_26 rfl (Rw.rd (hs.es hi) (i := k) hkl)) rfl ?_
  refine oAl (fun b18 _ => ?_) zr_26
  refine oSt ?_
  iterate 2 refine aS ?_
  refine s_cutI (α := Unit) [72, 73, 74, 75, 76, 77, 78, 79, 80, 81, 82, 83, 84, 85, 86, 87, 88, 89, 90, 91, 92, 93, 94, 95, 96, 97, 98, 99, 100, 101, 102, 103, 104, 105] (fun _ => [(105, .bool (outB (⟨(j : Int), mo, rm, pln L⟩ : Tre) v (nth (nth L v.i).es k)))]) (fun _ => HS w (fps [.blk c7 3 1 [.int .i64 s]]) [.blk b2 102 3 (nth L 0).vals, .blk b1 102 3 (nth L v.i).vals, .blk c7 3 1 [.int .i64 s]]) (fun _ => True) ?_ ?_
  ·skip
   refine s_draw [] mixed ?_
   refine dP 0 ?_
   refine d_p 1 rfl (p_ptr_nn rfl rfl rfl ipt_171) (by kernel_rfl) rfl rfl ?_
   refine dP 2 ?_
   apply d_split 74
   ·exact rfl
   ·intro hg19
    have hs20 := hg19; skip
    refine d_qon 3 74 [] rfl rfl rfl hg19 (q_load_old rfl rfl sz_103 (hc1)) (by kernel_rfl) (by kernel_rfl) (by kernel_rfl) rfl ?_
    obtain ⟨k9, b9, o9, hlo9, rfl, hr9⟩ := hpl.of_some hg19
    refine dPo 4 74 hg19 ?_
    refine dFo 5 74 hg19 ?_
    refine dFo 6 74 hg19 ?_
    refine d_qon 7 74 [] rfl rfl rfl hg19 (q_load_old rfl rfl sz_108 (ht 5 _ rfl)) (by kernel_rfl) (by kernel_rfl) (by kernel_rfl) rfl ?_
    refine dPo 8 74 hg19 ?_
    refine dPo 9 74 hg19 ?_
    refine d_qon 10 74 [] rfl rfl rfl hg19 (q_load_old rfl rfl sz_9 (hr9)) (by kernel_rfl) (by kernel_rfl) (by kernel_rfl) rfl ?_
    refine dFo 11 74 hg19 ?_
    refine d_qon 12 74 [] rfl rfl rfl hg19 (q_load rfl rfl sz_9 aPk rfl) (by kernel_rfl) (by kernel_rfl) (by kernel_rfl) rfl ?_
    refine d_qon 13 74 [] rfl rfl rfl hg19 (q_callv rfl rfl (cmp_fn _) rfl (fun w1 h1 => cmp_calls w1 j k9 (nth (nth L v.i).es k).key hj (hlo _ hlo9).1 (hok _ (mem_nth hkl)).1 (hlo _ hlo9).2 (hok _ (mem_nth hkl)).2)) (by kernel_rfl) (by kernel_rfl) (by kernel_rfl) rfl ?_
    refine dPo 14 74 hg19 ?_
    refine d_p 15 rfl (p_pickt rfl rfl hg19 rfl) (by kernel_rfl) rfl rfl ?_
    refine d_slot (show _ = Value.bool (v.lo.any fun b => decide (0 ≤ cmpK (j : Int) b (nth (nth L v.i).es k).key)) from by congr 1; first | (rw [hlo9]; rfl) | (rw [hpl.of_none hg19]; rfl)) ?_
    refine dP 16 ?_
    apply d_split 88
    ·exact rfl
    ·intro hg21
     have hs22 := hg21; skip
     refine dOf 17 88 hg21 ?_
     refine dOf 18 88 hg21 ?_
     refine dOf 19 88 hg21 ?_
     refine dOu 20 91 ?_
     refine dOu 21 91 ?_
     refine dOu 22 91 ?_
     refine dOu 23 91 ?_
     refine dOu 24 91 ?_
     refine dOu 25 91 ?_
     refine dOu 26 91 ?_
     refine dOu 27 91 ?_
     refine dOu 28 91 ?_
     refine dOu 29 91 ?_
     refine dOu 30 91 ?_
     refine dOu 31 91 ?_
     refine dOf 32 88 hg21 ?_
     refine d_p 33 rfl (p_pickt rfl rfl hg21 rfl) (by kernel_rfl) rfl rfl ?_
     refine d_slot (show _ = Value.bool (outB (⟨(j : Int), mo, rm, pln L⟩ : Tre) v (nth (nth L v.i).es k)) from by congr 1; show _ = ((v.lo.any fun b => decide (0 ≤ cmpK (j : Int) b (nth (nth L v.i).es k).key)) || (v.hi.any fun b => decide (0 ≤ cmpK (j : Int) (nth (nth L v.i).es k).key b))); first | (rw [show (v.lo.any fun b => decide (0 ≤ cmpK (j : Int) b (nth (nth L v.i).es k).key)) = true by assumption]; rfl) | (rw [show (v.lo.any fun b => decide (0 ≤ cmpK (j : Int) b (nth (nth L v.i).es k).key)) = false by assumption]; rfl)) ?_
     refine dNi ?_
     exact s_joinI () trivial aSx (fun w h => h.ent aEt)
    intro hg23
    have hs24 := hg23; skip
    refine dPo 17 88 hg23 ?_
    refine d_pon 18 88 rfl rfl rfl hg23 (p_ptr_nn rfl rfl rfl ipt_171) (by kernel_rfl) rfl rfl ?_
    refine dPo 19 88 hg23 ?_
    apply d_split 91
    ·exact rfl
    ·intro hg25
     have hs26 := hg25; skip
     refine d_qon 20 91 [] rfl rfl rfl hg25 (q_load_old rfl rfl sz_103 (hc1)) (by kernel_rfl) (by kernel_rfl) (by kernel_rfl) rfl ?_
     obtain ⟨k8, b8, o8, hhi8, rfl, hr8⟩ := hph.of_some hg25
     refine dPo 21 91 hg25 ?_
     refine dFo 22 91 hg25 ?_
     refine dFo 23 91 hg25 ?_
     refine d_qon 24 91 [] rfl rfl rfl hg25 (q_load_old rfl rfl sz_108 (ht 5 _ rfl)) (by kernel_rfl) (by kernel_rfl) (by kernel_rfl) rfl ?_
     refine dFo 25 91 hg25 ?_
     refine d_qon 26 91 [] rfl rfl rfl hg25 (q_load rfl rfl sz_9 aPk rfl) (by kernel_rfl) (by kernel_rfl) (by kernel_rfl) rfl ?_
     refine dPo 27 91 hg25 ?_
     refine dPo 28 91 hg25 ?_
     refine d_qon 29 91 [] rfl rfl rfl hg25 (q_load_old rfl rfl sz_9 (hr8)) (by kernel_rfl) (by kernel_rfl) (by kernel_rfl) rfl ?_
     refine d_qon 30 91 [] rfl rfl rfl hg25 (q_callv rfl rfl (cmp_fn _) rfl (fun w1 h1 => cmp_calls w1 j (nth (nth L v.i).es k).key k8 hj (hok _ (mem_nth hkl)).1 (hhi _ hhi8).1 (hok _ (mem_nth hkl)).2 (hhi _ hhi8).2)) (by kernel_rfl) (by kernel_rfl) (by kernel_rfl) rfl ?_
     refine dPo 31 91 hg25 ?_
     refine d_pon 32 88 rfl rfl rfl hg23 (p_pickt rfl rfl hg25 rfl) (by kernel_rfl) rfl rfl ?_
     refine d_slot (show _ = Value.bool (v.hi.any fun b => decide (0 ≤ cmpK (j : Int) (nth (nth L v.i).es k).key b)) from by congr 1; first | (rw [hhi8]; rfl) | (rw [hph.of_none hg25]; rfl)) ?_
     refine d_p 33 rfl (p_pickf rfl rfl hg23 rfl) (by kernel_rfl) rfl rfl ?_
     refine d_slot (show _ = Value.bool (outB (⟨(j : Int), mo, rm, pln L⟩ : Tre) v (nth (nth L v.i).es k)) from by congr 1; show _ = ((v.lo.any fun b => decide (0 ≤ cmpK (j : Int) b (nth (nth L v.i).es k).key)) || (v.hi.any fun b => decide (0 ≤ cmpK (j : Int) (nth (nth L v.i).es k).key b))); first | (rw [show (v.lo.any fun b => decide (0 ≤ cmpK (j : Int) b (nth (nth L v.i).es k).key)) = true by assumption]; rfl) | (rw [show (v.lo.any fun b => decide (0 ≤ cmpK (j : Int) b (nth (nth L v.i).es k).key)) = false by assumption]; rfl)) ?_
     refine dNi ?_
     exact s_joinI () trivial aSx (fun w h => h.ent aEt)
    intro hg27
    have hs28 := hg27; skip
    refine dOf 20 91 hg27 ?_
    refine dOf 21 91 hg27 ?_
    refine dOf 22 91 hg27 ?_
    refine dOf 23 91 hg27 ?_
    refine dOf 24 91 hg27 ?_
    refine dOf 25 91 hg27 ?_
    refine dOf 26 91 hg27 ?_
    refine dOf 27 91 hg27 ?_
    refine dOf 28 91 hg27 ?_
    refine dOf 29 91 hg27 ?_
    refine dOf 30 91 hg27 ?_
    refine dOf 31 91 hg27 ?_
    refine d_pon 32 88 rfl rfl rfl hg23 (p_pickf rfl rfl hg27 rfl) (by kernel_rfl) rfl rfl ?_
    refine d_slot (show _ = Value.bool (v.hi.any fun b => decide (0 ≤ cmpK (j : Int) (nth (nth L v.i).es k).key b)) from by congr 1; first | (rw [hhi8]; rfl) | (rw [hph.of_none hg27]; rfl)) ?_
    refine d_p 33 rfl (p_pickf rfl rfl hg23 rfl) (by kernel_rfl) rfl rfl ?_
    refine d_slot (show _ = Value.bool (outB (⟨(j : Int), mo, rm, pln L⟩ : Tre) v (nth (nth L v.i).es k)) from by congr 1; show _ = ((v.lo.any fun b => decide (0 ≤ cmpK (j : Int) b (nth (nth L v.i).es k).key)) || (v.hi.any fun b => decide (0 ≤ cmpK (j : Int) (nth (nth L v.i).es k).key b))); first | (rw [show (v.lo.any fun b => decide (0 ≤ cmpK (j : Int) b (nth (nth L v.i).es k).key)) = true by assumption]; rfl) | (rw [show (v.lo.any fun b => decide (0 ≤ cmpK (j : Int) b (nth (nth L v.i).es k).key)) = false by assumption]; rfl)) ?_
    refine dNi ?_
    exact s_joinI () trivial aSx (fun w h => h.ent aEt)
   intro hg29
   have hs30 := hg29; skip
   refine dOf 3 74 hg29 ?_
   refine dOf 4 74 hg29 ?_
   refine dOf 5 74 hg29 ?_
   refine dOf 6 74 hg29 ?_
   refine dOf 7 74 hg29 ?_
   refine dOf 8 74 hg29 ?_
   refine dOf 9 74 hg29 ?_
   refine dOf 10 74 hg29 ?_
   refine dOf 11 74 hg29 ?_
   refine dOf 12 74 hg29 ?_
   refine dOf 13 74 hg29 ?_
   refine dOf 14 74 hg29 ?_
   refine d_p 15 rfl (p_pickf rfl rfl hg29 rfl) (by kernel_rfl) rfl rfl ?_
   refine d_slot (show _ = Value.bool (v.lo.any fun b => decide (0 ≤ cmpK (j : Int) b (nth (nth L v.i).es k).key)) from by congr 1; first | (rw [hlo9]; rfl) | (rw [hpl.of_none hg29]; rfl)) ?_
   refine dP 16 ?_
   apply d_split 88
   ·exact rfl
   ·intro hg31
    have hs32 := hg31; skip
    refine dOf 17 88 hg31 ?_
    refine dOf 18 88 hg31 ?_
    refine dOf 19 88 hg31 ?_
    refine dOu 20 91 ?_
    refine dOu 21 91 ?_
    refine dOu 22 91 ?_
    refine dOu 23 91 ?_
    refine dOu 24 91 ?_
    refine dOu 25 91 ?_
    refine dOu 26 91 ?_
    refine dOu 27 91 ?_
    refine dOu 28 91 ?_
    refine dOu 29 91 ?_
    refine dOu 30 91 ?_
    refine dOu 31 91 ?_
    refine dOf 32 88 hg31 ?_
    refine d_p 33 rfl (p_pickt rfl rfl hg31 rfl) (by kernel_rfl) rfl rfl ?_
    refine d_slot (show _ = Value.bool (outB (⟨(j : Int), mo, rm, pln L⟩ : Tre) v (nth (nth L v.i).es k)) from by congr 1; show _ = ((v.lo.any fun b => decide (0 ≤ cmpK (j : Int) b (nth (nth L v.i).es k).key)) || (v.hi.any fun b => decide (0 ≤ cmpK (j : Int) (nth (nth L v.i).es k).key b))); first | (rw [show (v.lo.any fun b => decide (0 ≤ cmpK (j : Int) b (nth (nth L v.i).es k).key)) = true by assumption]; rfl) | (rw [show (v.lo.any fun b => decide (0 ≤ cmpK (j : Int) b (nth (nth L v.i).es k).key)) = false by assumption]; rfl)) ?_
    refine dNi ?_
    exact s_joinI () trivial aSx (fun w h => h.ent aEt)
   intro hg33
   have hs34 := hg33; skip
   refine dPo 17 88 hg33 ?_
   refine d_pon 18 88 rfl rfl rfl hg33 (p_ptr_nn rfl rfl rfl ipt_171) (by kernel_rfl) rfl rfl ?_
   refine dPo 19 88 hg33 ?_
   apply d_split 91
   ·exact rfl
   ·intro hg35
    have hs36 := hg35; skip
    refine d_qon 20 91 [] rfl rfl rfl hg35 (q_load_old rfl rfl sz_103 (hc1)) (by kernel_rfl) (by kernel_rfl) (by kernel_rfl) rfl ?_
    obtain ⟨k8, b8, o8, hhi8, rfl, hr8⟩ := hph.of_some hg35
    refine dPo 21 91 hg35 ?_
    refine dFo 22 91 hg35 ?_
    refine dFo 23 91 hg35 ?_
    refine d_qon 24 91 [] rfl rfl rfl hg35 (q_load_old rfl rfl sz_108 (ht 5 _ rfl)) (by kernel_rfl) (by kernel_rfl) (by kernel_rfl) rfl ?_
    refine dFo 25 91 hg35 ?_
    refine d_qon 26 91 [] rfl rfl rfl hg35 (q_load rfl rfl sz_9 aPk rfl) (by kernel_rfl) (by kernel_rfl) (by kernel_rfl) rfl ?_
    refine dPo 27 91 hg35 ?_
    refine dPo 28 91 hg35 ?_
    refine d_qon 29 91 [] rfl rfl rfl hg35 (q_load_old rfl rfl sz_9 (hr8)) (by kernel_rfl) (by kernel_rfl) (by kernel_rfl) rfl ?_
    refine d_qon 30 91 [] rfl rfl rfl hg35 (q_callv rfl rfl (cmp_fn _) rfl (fun w1 h1 => cmp_calls w1 j (nth (nth L v.i).es k).key k8 hj (hok _ (mem_nth hkl)).1 (hhi _ hhi8).1 (hok _ (mem_nth hkl)).2 (hhi _ hhi8).2)) (by kernel_rfl) (by kernel_rfl) (by kernel_rfl) rfl ?_
    refine dPo 31 91 hg35 ?_
    refine d_pon 32 88 rfl rfl rfl hg33 (p_pickt rfl rfl hg35 rfl) (by kernel_rfl) rfl rfl ?_
    refine d_slot (show _ = Value.bool (v.hi.any fun b => decide (0 ≤ cmpK (j : Int) (nth (nth L v.i).es k).key b)) from by congr 1; first | (rw [hhi8]; rfl) | (rw [hph.of_none hg35]; rfl)) ?_
    refine d_p 33 rfl (p_pickf rfl rfl hg33 rfl) (by kernel_rfl) rfl rfl ?_
    refine d_slot (show _ = Value.bool (outB (⟨(j : Int), mo, rm, pln L⟩ : Tre) v (nth (nth L v.i).es k)) from by congr 1; show _ = ((v.lo.any fun b => decide (0 ≤ cmpK (j : Int) b (nth (nth L v.i).es k).key)) || (v.hi.any fun b => decide (0 ≤ cmpK (j : Int) (nth (nth L v.i).es k).key b))); first | (rw [show (v.lo.any fun b => decide (0 ≤ cmpK (j : Int) b (nth (nth L v.i).es k).key)) = true by assumption]; rfl) | (rw [show (v.lo.any fun b => decide (0 ≤ cmpK (j : Int) b (nth (nth L v.i).es k).key)) = false by assumption]; rfl)) ?_
    refine dNi ?_
    exact s_joinI () trivial aSx (fun w h => h.ent aEt)
   intro hg37
   have hs38 := hg37; skip
   refine dOf 20 91 hg37 ?_
   refine dOf 21 91 hg37 ?_
   refine dOf 22 91 hg37 ?_
   refine dOf 23 91 hg37 ?_
   refine dOf 24 91 hg37 ?_
   refine dOf 25 91 hg37 ?_
   refine dOf 26 91 hg37 ?_
   refine dOf 27 91 hg37 ?_
   refine dOf 28 91 hg37 ?_
   refine dOf 29 91 hg37 ?_
   refine dOf 30 91 hg37 ?_
   refine dOf 31 91 hg37 ?_
   refine d_pon 32 88 rfl rfl rfl hg33 (p_pickf rfl rfl hg37 rfl) (by kernel_rfl) rfl rfl ?_
   refine d_slot (show _ = Value.bool (v.hi.any fun b => decide (0 ≤ cmpK (j : Int) (nth (nth L v.i).es k).key b)) from by congr 1; first | (rw [hhi8]; rfl) | (rw [hph.of_none hg37]; rfl)) ?_
   refine d_p 33 rfl (p_pickf rfl rfl hg33 rfl) (by kernel_rfl) rfl rfl ?_
   refine d_slot (show _ = Value.bool (outB (⟨(j : Int), mo, rm, pln L⟩ : Tre) v (nth (nth L v.i).es k)) from by congr 1; show _ = ((v.lo.any fun b => decide (0 ≤ cmpK (j : Int) b (nth (nth L v.i).es k).key)) || (v.hi.any fun b => decide (0 ≤ cmpK (j : Int) (nth (nth L v.i).es k).key b))); first | (rw [show (v.lo.any fun b => decide (0 ≤ cmpK (j : Int) b (nth (nth L v.i).es k).key)) = true by assumption]; rfl) | (rw [show (v.lo.any fun b => decide (0 ≤ cmpK (j : Int) b (nth (nth L v.i).es k).key)) = false by assumption]; rfl)) ?_
   refine dNi ?_
   exact s_joinI () trivial aSx (fun w h => h.ent aEt)
  intro _ _
  refine s_cond rfl (fun h39 => ?_) fun h39 => ?_
  ·skip
   have hz2 : outsB (⟨(j : Int), mo, rm, pln L⟩ : Tre) v = true := by rw [hO, List.any_eq_true]; exact ⟨_, mem_nth hkl, h39⟩
   iterate 6 refine aS ?_
   exact s_retv (rs := [.tmp 10, .tmp 11]) rfl (.tmp rfl (.tmp rfl (.nil))) (fun w' h' => ⟨(), by rw [hE]; simp only []; rw [if_neg (by rw [hz1]; decide), if_pos hz2]; rfl, trivial, by rw [hS, if_neg (by rw [hz1]; decide), if_pos hz2]; exact h'.ent aEt⟩)
  skip
  iterate 4 refine aS ?_
  try refine oWr ?_
  iterate 2 refine aS ?_
  exact s_backI (k + 1) (by omega) ⟨by omega, fun i hi9 => (Nat.lt_or_ge i k).elim (hk2 i) (fun h => by obtain rfl : i = k := (by omega); have hq := h39; simpa using hq)⟩ aSx (fun w h => h.ent aEt)
 try simp only [decide_eq_false_iff_not] at h17
 obtain rfl : k = (nth L v.i).es.length := by omega
 have hz2 : outsB (⟨(j : Int), mo, rm, pln L⟩ : Tre) v = false := by rw [hO, List.any_eq_false]; intro x hx; obtain ⟨i9, hi9, e9⟩ := List.getElem_of_mem hx; have e8 : nth (nth L v.i).es i9 = x := nth_eq (by rw [List.getElem?_eq_getElem hi9, e9]); rw [← e8, hk2 i9 hi9]; decide
 refine s_exit_to rfl ?_
 iterate 8 refine aS ?_
 refine s_cond rfl (fun h40 => ?_) fun h40 => ?_
 ·try simp only [decide_eq_true_eq] at h40
  have hc9 : (nth L v.i).cs.length = 0 := by have hq := h40; omega
  have hEv : erV (⟨(j : Int), mo, rm, pln L⟩ : Tre) s v = ((v.i : Int), if (if s = 0 then v.d else s) = v.d then 0 else 22) := by rw [hE, if_neg (by rw [hz1]; decide), if_neg (by rw [hz2]; decide), if_pos hc9]
  iterate 6 refine aS ?_
  refine s_cutI (α := Unit) [114] (fun _ => []) (fun _ => HS w (fps [.blk c7 3 1 [.int .i64 s]]) [.blk b2 102 3 (nth L 0).vals, .blk b1 102 3 (nth L v.i).vals, .blk c7 3 1 [.int .i64 (if s = 0 then v.d else s)]]) (fun _ => True) ?_ ?_
  ·skip
   refine s_cond rfl (fun h41 => ?_) fun h41 => ?_
   ·try simp only [decide_eq_true_eq] at h41
    iterate 2 refine aS ?_
    refine oSt ?_
    refine aS ?_
    exact s_joinI () trivial aSx (fun w h => by rw [if_pos h41]; exact h.ent aEt)
   try simp only [decide_eq_false_iff_not] at h41
   refine aS ?_
   exact s_joinI () trivial aSx (fun w h => by rw [if_neg h41]; exact h.ent aEt)
  intro _ _
  iterate 6 refine aS ?_
  refine o_q (q_call rfl fn_81 rfl (fun w1 h1 => c81 w1 _ _)) rfl ?_
  iterate 3 refine aS ?_
  exact s_retv (rs := [.tmp 10, .tmp 11]) rfl (.tmp rfl (.tmp rfl (.nil))) (fun w' h' => ⟨(), by rw [hEv]; simp only [retV, cond_eq_ite, decide_eq_true_eq], trivial, by rw [hS, if_neg (by rw [hz1]; decide), if_neg (by rw [hz2]; decide), if_pos hc9]; exact h'.ent aEt⟩)
 try simp only [decide_eq_false_iff_not] at h40
 have hc9 : ¬ (nth L v.i).cs.length = 0 := by have hq := h40; omega
 iterate 7 refine aS ?_
 exact s_retv (rs := [.tmp 10, .tmp 11]) rfl (.tmp rfl (.tmp rfl (.nil))) (fun w' h' => ⟨(), by rw [hE]; simp only []; rw [if_neg (by rw [hz1]; decide), if_neg (by rw [hz2]; decide), if_neg hc9]; rfl, trivial, by rw [hS, if_neg (by rw [hz1]; decide), if_neg (by rw [hz2]; decide), if_neg hc9]; exact h'.ent aEt⟩)
end Go.Proofs
