/- Contracts of the program's functions, proved by walking them with the rules of the Gx texts; without conditions beyond those that each contract names. -/
import Derived.WalkKit
import Derived.Deep.Draws
import Derived.TacticsIn
import Derived.OrdersIn
import Derived.RangeFuncLeaves
import Derived.Lib.Strings
import Derived.Laws.BytesArg
import Derived.Laws.IdiomStrings
import Derived.Deep.Quiet
import Derived.ProofKit
import Derived.OpenShut
import Derived.Laws.StructEq
import Derived.ChangeKeysEq
import Derived.Laws.Externs
import Derived.Lib.Overlaps
import Derived.Carry
import Derived.Laws.Small
import Derived.Lib.Bytealg
import Derived.Test.YtfappgmkbnddiaaGreatProg
import Derived.KernelRfl
import Derived.Lib.Builder
import Derived.Laws.Pointers
import Derived.RangeFuncRecord
import Derived.Test.YtfappgmkbnddiaaGreatP0
namespace Gx
set_option linter.unusedSimpArgs false
set_option linter.unusedVariables false
open Go Go.RowKit
theorem u32wM (n : Int) : IntKind.u32.wrap n = n % 4294967296 := by simp [IntKind.wrap, IntKind.signed, IntKind.bits]
structure RowV (α : Type) where
  a : Option Addr
  c : Nat
  l : List α
instance {α : Type} : Inhabited (RowV α) := ⟨⟨none, 0, []⟩⟩
def RowV.v {α : Type} (r : RowV α) : Value := .slice r.a r.l.length r.c
theorem rv_get {α : Type} {rs : List (RowV α)} {k : Nat} (h : k < rs.length) : (rs.map RowV.v)[k]? = some (.slice (rs.getD k default).a (rs.getD k default).l.length (rs.getD k default).c) := by
  rw [List.getElem?_map, List.getElem?_eq_getElem h, List.getD_eq_getElem?_getD, List.getElem?_eq_getElem h]
  rfl
theorem rv_succ {α : Type} {rs : List (RowV α)} {k : Nat} (h : k < rs.length) : (rs.take (k + 1)).flatMap RowV.l = (rs.take k).flatMap RowV.l ++ (rs.getD k default).l := by
  rw [take_succ_getD (d := default) h, List.flatMap_append]
  simp
theorem rv_le {α : Type} (rs : List (RowV α)) (k : Nat) : ((rs.take k).flatMap RowV.l).length ≤ (rs.flatMap RowV.l).length := by
  conv => rhs; rw [← List.take_append_drop k rs, List.flatMap_append, List.length_append]
  omega
def litB : Nat → Int → List UInt8
  | 0, _ => []
  | k + 1, n => by8 n :: litB k (n / 256)
def headB (d : Dsc) : List UInt8 := [1, by8 (flagB d), by8 d.en.length, by8 d.au.length] ++ le4 d.ow ++ le4 d.gr
theorem bits_or32 (a b : Nat) (ha : a < 4294967296) (hb : b < 4294967296) : bits .or .u32 (a : Int) (b : Int) = ((a ||| b : Nat) : Int) := by
  change IntKind.u32.wrap (((BitVec.ofInt 32 (a : Int)) ||| (BitVec.ofInt 32 (b : Int)) : BitVec 32).toNat : Int) = _
  rw [BitVec.toNat_or, ofInt_nat 32 a ha, ofInt_nat 32 b hb, u32wM]
  have : a ||| b < 4294967296 := Nat.or_lt_two_pow (n := 32) ha hb
  omega
theorem or_add16 (a b : Nat) (h : a < 65536) : a ||| 65536 * b = a + 65536 * b := by
  have h := Nat.two_pow_add_eq_or_of_lt (i := 16) (b := a) (by omega) b
  have e256 : (2 : Nat) ^ 16 = 65536 := by decide
  rw [e256] at h
  rw [Nat.or_comm, ← h, Nat.add_comm]
theorem at1_le (s : List UInt8) (i : Nat) : 0 ≤ at1 s i ∧ at1 s i < 256 := by
  have := (s.getD i 0).toNat_lt
  unfold at1; omega
theorem at2_le (s : List UInt8) (i : Nat) : 0 ≤ at2 s i ∧ at2 s i < 65536 := by
  have := at1_le s i; have := at1_le s (i + 1)
  unfold at2; omega
theorem at4_le (s : List UInt8) (i : Nat) : 0 ≤ at4 s i ∧ at4 s i < 4294967296 := by
  have := at2_le s i; have := at2_le s (i + 2)
  unfold at4; omega
theorem at1_drop (s : List UInt8) (k i : Nat) : at1 (s.drop k) i = at1 s (k + i) := by
  unfold at1
  rw [List.getD_eq_getElem?_getD, List.getD_eq_getElem?_getD, List.getElem?_drop]
theorem at2_drop (s : List UInt8) (k i : Nat) : at2 (s.drop k) i = at2 s (k + i) := by unfold at2; rw [at1_drop, at1_drop, Nat.add_assoc]
theorem at4_drop (s : List UInt8) (k i : Nat) : at4 (s.drop k) i = at4 s (k + i) := by unfold at4; rw [at2_drop, at2_drop, Nat.add_assoc]
theorem g16_slot (s : List UInt8) (i : Nat) : Value.int .u16 (bits .or .u16 (IntKind.u16.wrap ((s.getD i 0).toNat : Int)) (IntKind.u16.wrap (IntKind.u16.wrap ((s.getD (i + 1) 0).toNat : Int) * 2 ^ 8))) = .int .u16 (at2 s i) := by
  have ha := (s.getD i 0).toNat_lt
  have hb := (s.getD (i + 1) 0).toNat_lt
  rw [w2_slot, wv, w2, UInt16.toNat_ofNat', Nat.mod_eq_of_lt (by omega)]
  unfold at2 at1
  congr 1
  omega
theorem g32_slot (X Y : Int) (hx : 0 ≤ X ∧ X < 65536) (hy : 0 ≤ Y ∧ Y < 65536) : Value.int .u32 (bits .or .u32 (IntKind.u32.wrap X) (IntKind.u32.wrap (IntKind.u32.wrap Y * 2 ^ 16))) = .int .u32 (X + Y * 65536) := by
  obtain ⟨a, rfl⟩ := Int.eq_ofNat_of_zero_le hx.1
  obtain ⟨b, rfl⟩ := Int.eq_ofNat_of_zero_le hy.1
  have e1 : IntKind.u32.wrap ((b : Nat) : Int) * 2 ^ 16 = ((65536 * b : Nat) : Int) := by
    rw [u32wM]; omega
  rw [e1, u32wM, u32wM, show (a : Int) % 4294967296 = (a : Nat) by omega, show ((65536 * b : Nat) : Int) % 4294967296 = ((65536 * b : Nat) : Int) by omega, bits_or32 _ _ (by omega) (by omega), or_add16 _ _ (by omega)]
  congr 1
  omega
def sStep (n : Int) (c : UInt8) : Int := (2 * n % 2147483648 + n / 1073741824 + (c.toNat : Int)) % 2147483648
def sumS (s : List UInt8) : Int := s.foldl sStep 0
def hStep' (h : Int) (c : UInt8) : Int := (h * 31 + (c.toNat : Int)) % 1000003
theorem subA_add {a : Option Addr} {b o cap k : Nat} (ha : a = some ⟨b, o, none⟩) (h : k < cap) : subA a cap k 1 = some ⟨b, o + k, none⟩ := by
  subst ha
  unfold subA
  rw [if_neg (by omega)]
  simp [addr_add]
theorem Vl.drop {w : World} {a : Option Addr} {vs : List Value} {cap k : Nat} (h : Vl w a vs) (hk : k < vs.length) (hc : k < cap) : Vl w (subA a cap k 1) (vs.drop k) := by
  obtain ⟨b, o, rfl, h2⟩ := h.at_ (by omega)
  refine ⟨fun hn => ⟨b, o + k, subA_add rfl hc, fun i hi => ?_⟩⟩
  rw [List.length_drop] at hi
  have h3 := h2 (k + i) (by omega)
  rw [List.getElem?_drop]
  refine ⟨h3.1, fun j v hv => ?_⟩
  have h4 := h3.2 j v hv
  rw [show o + k + i * 1 + j = o + (k + i) * 1 + j by omega]
  exact h4
def enK (s : List UInt8) (k : Nat) : List Ace := (List.range (min k (at1 s 2).toNat)).map fun i => aceOf s (12 + 8 * i)
def auK (s : List UInt8) (k : Nat) : List Ace := (List.range (k - (at1 s 2).toNat)).map fun i => aceOf s (12 + 8 * ((at1 s 2).toNat + i))
def litN (s : List UInt8) : Nat → Nat → Int
  | _, 0 => 0
  | a, k + 1 => at1 s a + 256 * litN s (a + 1) k
theorem litN_4 (s : List UInt8) (a : Nat) : litN s a 4 = at4 s a := by simp only [litN, at4, at2, show a + 1 + 1 = a + 2 from rfl]; omega
theorem litN_le (s : List UInt8) : ∀ (k a : Nat), 0 ≤ litN s a k ∧ litN s a k < 256 ^ k
  | 0, a => by simp [litN]
  | k + 1, a => by
    have h1 := litN_le s k (a + 1)
    have h2 := at1_le s a
    rw [litN, Int.pow_succ]
    generalize (256 : Int) ^ k = p at *
    omega
theorem litN_6 (s : List UInt8) (a : Nat) {k : Nat} (h : k ≤ 6) : 0 ≤ litN s a k ∧ litN s a k < 281474976710656 := by
  have h1 := litN_le s k a
  have h2 : ∀ k ≤ 6, (256 : Int) ^ k ≤ 281474976710656 := by decide
  have := h2 k h
  omega
end Gx
namespace Gx
open Go Go.RowKit
theorem aPk {As As' : List HA} {A : HA} (h : Pick As A As' := by repeat (first | exact .here | apply Pick.there)) : Pick As A As' := h
theorem aPt {As As' : List HA} {A B : HA} (h : Put As A B As' := by repeat (first | exact .here | apply Put.there)) : Put As A B As' := h
theorem aPs {As Cs Ds : List HA} (h : Picks As Cs Ds := by repeat (first | exact Picks.nil | (apply Picks.cons; · (repeat (first | exact .here | apply Pick.there))))) : Picks As Cs Ds := h
theorem aEt {As Bs : List HA} (h : Ent As Bs := by repeat (first | exact .nil | refine .cons (by repeat (first | exact .here | apply Pick.there)) ?_)) : Ent As Bs := h
theorem aSx {L L' : Slots} (h : subL L L' := by repeat (first | exact sl_n | refine sl_c rfl ?_)) : subL L L' := h
section
variable {X : Ctx} {ops : Array Oper} {F : List Nat} {fuel : Nat} {listed : Array Bool} {rest : List Oper} {k : List KI} {L : Slots} {d ty : Nat} {op : Op} {pos : String} {aft : Array Edge} {C B : World → Prop} {v : Value}
theorem oP (next : O X ops rest k ((d, v) :: L) C) (h : OpP X.P ⟨some d, op, ty, pos, aft, none⟩ L v := by exact p_pure rfl) (hd : Nat.blt d X.n = true := by rfl) : O X ops (⟨some d, op, ty, pos, aft, none⟩ :: rest) k L C := o_p h hd next
theorem dP (i : Nat) (next : D X ops F B fuel (listed.setIfInBounds i true) k ((d, v) :: L) C) (hi : ops[i]? = some ⟨some d, op, ty, pos, aft, none⟩ := by rfl) (h : OpP X.P ⟨some d, op, ty, pos, aft, none⟩ L v := by exact p_pure rfl) (hok : okFirst ops listed i = true := by kernel_rfl) (hF : F.all (fun f => !Nat.beq f i) = true := by rfl) (hd : Nat.blt d X.n = true := by rfl) : D X ops F B (fuel + 1) listed k L C := d_p i hi h hok hF hd next
end
end Gx
namespace Gx
set_option linter.unusedSimpArgs false
set_option linter.unusedVariables false
open Go Go.RowKit
abbrev KS (l : List UInt8) : Value := .string (bs l)
def nv (n : Int) : Value := .int .i64 n
def e0E (nx : Int) (l : List SItm) (i : Nat) : Int := if 256 ≤ (nth l i).id ∧ (nth l i).id ≤ nx - 1 then if i = 0 ∨ (nth l (i - 1)).id < (nth l i).id then 0 else 9 else 2
def e1E (nx : Int) (l : List SItm) (i : Nat) : Int := if e0E nx l i = 0 then decE (nth l i).by_ else e0E nx l i
def spreE (nx : Int) (l : List SItm) : Int := if 256 ≤ nx ∧ nx ≤ 2147483647 then if l.length ≤ 60 then 0 else 8 else 2
def byB (l : List SItm) (b : List UInt8) : List Bool := l.map fun x => decide (x.by_ = b)
def idB (l : List SItm) (n : Int) : List Bool := l.map fun x => decide (x.id = n)
def byK (l : List SItm) (b : List UInt8) : Nat := ixB (byB l b)
def idK (l : List SItm) (n : Int) : Nat := ixB (idB l n)
def addE (nx : Int) (l : List SItm) (d : Dsc) : Int := if (stoE nx l).2 = 0 then (dscE d).2 else (stoE nx l).2
structure AddR where
  nx : Int
  l : List SItm
  id : Int
  e : Int
def addR (nx : Int) (l : List SItm) (b : List UInt8) : AddR :=
  if byK l b < l.length then ⟨nx, l, (nth l (byK l b)).id, 0⟩
  else if (l ++ [SItm.mk nx b]).length > 60 ∨ (plsI (l ++ [SItm.mk nx b])).2 > 8192 ∨ nx = 2147483647 then ⟨0, [], 0, 16⟩ else ⟨nx + 1, l ++ [SItm.mk nx b], nx, 0⟩
def addT (nx : Int) (l : List SItm) (d : Dsc) : AddR := if addE nx l d = 0 then addR nx l (encD d) else ⟨0, [], 0, addE nx l d⟩
def idtT (nx : Int) (l : List SItm) (d : Dsc) : Int × Int := if addE nx l d = 0 then if byK l (encD d) < l.length then ((nth l (byK l (encD d))).id, 0) else (0, 6) else (0, addE nx l d)
theorem ixB_le : ∀ (l : List Bool), ixB l ≤ l.length := by
  intro l
  induction l with
  | nil => exact Nat.le_refl _
  | cons b l ih =>
    cases b with
    | false => show ixB l + 1 ≤ l.length + 1; omega
    | true => exact Nat.zero_le _
theorem ixB_true : ∀ {l : List Bool}, ixB l < l.length → l.getD (ixB l) false = true
  | [], h => absurd h (Nat.not_lt_zero _)
  | true :: l, h => rfl
  | false :: l, h => by
    have h1 : ixB (false :: l) = ixB l + 1 := rfl
    rw [h1] at h ⊢
    exact ixB_true (l := l) (by simpa using h)
theorem ixB_false : ∀ {l : List Bool} {i : Nat}, i < ixB l → l.getD i false = false
  | [], i, h => absurd h (Nat.not_lt_zero _)
  | true :: l, i, h => absurd h (Nat.not_lt_zero _)
  | false :: l, 0, h => rfl
  | false :: l, i + 1, h => by
    have h1 : ixB (false :: l) = ixB l + 1 := rfl
    rw [h1] at h
    exact ixB_false (l := l) (by omega)
def idC (l : List SItm) (n : Int) : List Int := l.map fun x => x.id - n
def dofT (nx : Int) (l : List SItm) (n : Int) : Dsc × Int :=
  if (stoE nx l).2 = 0 then if 256 ≤ n ∧ n ≤ 2147483647 then if idK l n < l.length then (decD (nth l (idK l n)).by_, decE (nth l (idK l n)).by_) else (noD, 6) else (noD, 6) else (noD, (stoE nx l).2)
def hasB (u : List Int) (n : Int) : List Bool := u.map fun x => decide (n = x)
def mx0 (n : Int) : Int := if n < 0 then 0 else n
def usedAt (l : List SItm) (u : List Int) (i : Nat) : Int := if idK l (u.getD i 0) < l.length then if i = 0 ∨ u.getD (i - 1) 0 < u.getD i 0 then 0 else 9 else 6
def usedEs (l : List SItm) (u : List Int) : List Int := (List.range u.length).map (usedAt l u)
def usedE (l : List SItm) (u : List Int) : Int := (eachF (usedEs l u) 0).2
def colE (nx : Int) (l : List SItm) (u : List Int) : Int := if (stoE nx l).2 = 0 then usedE l u else (stoE nx l).2
def keptL (u : List Int) (l : List SItm) : List SItm := l.filter fun x => decide (x.id ∈ u)
def goneL (u : List Int) (l : List SItm) : List Int := (l.filter fun x => !decide (x.id ∈ u)).map SItm.id
structure ColR where
  nx : Int
  l : List SItm
  g : List Int
def colT (nx : Int) (l : List SItm) (u : List Int) : ColR := if colE nx l u = 0 then ⟨nx, keptL u l, goneL u l⟩ else ⟨0, [], []⟩
def cntS (n : Nat) : Bool := !(decide (14 < n) && decide (n ≤ 60) || decide (62 < n))
def fewS (l : List SItm) : Bool := cntS l.length && l.all fun x => decide (x.by_.length ≤ 300)
def fewD (d : Dsc) : Bool := decide (d.en.length ≤ 20) && decide (d.au.length ≤ 20)
end Gx
namespace Gx
set_option linter.unusedSimpArgs false
set_option linter.unusedVariables false
set_option linter.unusedSectionVars false
open Go Go.RowKit
structure TEnt where
  key : List UInt8
  val : List UInt8
deriving DecidableEq, Inhabited
structure Nd where
  us : Bool
  es : List TEnt
  cs : List Int
deriving DecidableEq, Inhabited
structure Tre where
  co : Int
  mo : Int
  rm : Int
  ns : List Nd
deriving DecidableEq, Inhabited
structure LNd where
  us : Bool
  ea : Option Addr
  ec : Nat
  es : List TEnt
  ca : Option Addr
  cc : Nat
  cs : List Int
deriving Inhabited
def LNd.pl (n : LNd) : Nd := ⟨n.us, n.es, n.cs⟩
abbrev pln (L : List LNd) : List Nd := L.map LNd.pl
def TEnt.vals (x : TEnt) : List Value := [.string (bs x.key), .string (bs x.val)]
def inV (x : Int) : List Value := [.int .i64 x]
def LNd.vals (n : LNd) : List Value := [.bool n.us, .slice n.ea n.es.length n.ec, .slice n.ca n.cs.length n.cc]
theorem ev2 (x : TEnt) : x.vals.length = 2 := rfl
theorem iv1 (x : Int) : (inV x).length = 1 := rfl
theorem nv3 (n : LNd) : n.vals.length = 3 := rfl
theorem ev1 (x : TEnt) : ∀ u ∈ x.vals, u.oneCell' = true := by
  intro u hu
  simp only [TEnt.vals, List.mem_cons, List.mem_nil_iff, or_false] at hu
  rcases hu with rfl | rfl <;> rfl
theorem iv1c (x : Int) : ∀ u ∈ inV x, u.oneCell' = true := by
  intro u hu
  simp only [inV, List.mem_cons, List.mem_nil_iff, or_false] at hu
  subst hu
  rfl
theorem nv1 (n : LNd) : ∀ u ∈ n.vals, u.oneCell' = true := by
  intro u hu
  simp only [LNd.vals, List.mem_cons, List.mem_nil_iff, or_false] at hu
  rcases hu with rfl | rfl | rfl <;> rfl
def Nt (w : World) (M : List Nat) (a : Option Addr) (L : List LNd) : Prop := Rw LNd.vals 3 w M a L ∧ ∀ n ∈ L, Rw TEnt.vals 2 w M n.ea n.es ∧ Rw inV 1 w M n.ca n.cs
section
variable {w w' : World} {M M' : List Nat} {As : List HA} {a : Option Addr} {L : List LNd}
theorem Nt.later (h : Nt w M a L) (hs : HS w M As w') : Nt w' [] a L := ⟨Rw.later h.1 hs, fun n hn => ⟨(h.2 n hn).1.later hs, (h.2 n hn).2.later hs⟩⟩
theorem Nt.keep (h : Nt w M a L) (hs : HS w M As w') : Nt w' (fps As) a L := ⟨Rw.keep h.1 hs, fun n hn => ⟨(h.2 n hn).1.keep hs, (h.2 n hn).2.keep hs⟩⟩
theorem Nt.mono (h : Nt w M a L) (hM : ∀ b ∈ M', b ∈ M) : Nt w M' a L := ⟨Rw.mono h.1 hM, fun n hn => ⟨(h.2 n hn).1.mono hM, (h.2 n hn).2.mono hM⟩⟩
theorem Nt.es (h : Nt w M a L) {k : Nat} (hk : k < L.length) : Rw TEnt.vals 2 w M (nth L k).ea (nth L k).es := (h.2 _ (mem_nth hk)).1
theorem Nt.cs (h : Nt w M a L) {k : Nat} (hk : k < L.length) : Rw inV 1 w M (nth L k).ca (nth L k).cs := (h.2 _ (mem_nth hk)).2
end
def HA.ents (et : Nat) (a : Option Addr) (cap : Nat) (l : List TEnt) : HA := .own (.slice a l.length cap) et 2 l.length (l.flatMap TEnt.vals)
def HA.kids (a : Option Addr) (cap : Nat) (l : List Int) : HA := .own (.slice a l.length cap) 3 1 l.length (l.flatMap inV)
def subN (et : Nat) (n : LNd) : HA := .star [.ents et n.ea n.ec n.es, .kids n.ca n.cc n.cs]
def HA.nodes (et nt : Nat) (a : Option Addr) (cap : Nat) (L : List LNd) : HA := .row nt 3 LNd.vals (subN et) a cap L
section
variable {w0 w : World} {M : List Nat} {As As' : List HA} {a : Option Addr} {cap et nt' : Nat} {L : List LNd}
theorem HS.nt (h : HS w0 M As w) (hp : Pick As (.nodes et nt' a cap L) As') : Nt w [] a L := by
  have h1 := HS.row_open (h.pick hp)
  refine ⟨h1.rw_own nv3 .here rfl, fun n hn => ?_⟩
  obtain ⟨i, hi, e⟩ := List.getElem_of_mem hn
  have e2 : nth L i = n := nth_eq (by rw [List.getElem?_eq_getElem hi, e])
  have h2 := h1.tail.sub_open hi
  rw [e2] at h2
  have h3 := HS.star_open h2
  exact ⟨h3.rw_own ev2 .here rfl, h3.rw_own iv1 (.there .here) rfl⟩
end
def cmpB : List UInt8 → List UInt8 → Int
  | [], [] => 0
  | [], _ :: _ => -1
  | _ :: _, [] => 1
  | a :: x, b :: y => if a < b then -1 else if b < a then 1 else cmpB x y
theorem u8_lt_asymm {a b : UInt8} (h : a < b) : ¬ b < a := fun h2 => by
  rw [UInt8.lt_iff_toNat_lt] at h h2
  omega
theorem cmpB_swap : ∀ a b, cmpB b a = - cmpB a b
  | [], [] => rfl
  | [], _ :: _ => rfl
  | _ :: _, [] => rfl
  | a :: x, b :: y => by
    unfold cmpB
    by_cases h : a < b
    · rw [if_neg (u8_lt_asymm h), if_pos h, if_pos h]
      rfl
    · by_cases h2 : b < a
      · rw [if_pos h2, if_neg h, if_pos h2]
      · rw [if_neg h, if_neg h2, if_neg h2, if_neg h]
        exact cmpB_swap x y
theorem cmpB_eq : ∀ {a b}, cmpB a b = 0 ↔ a = b
  | [], [] => by simp [cmpB]
  | [], _ :: _ => by simp [cmpB]
  | _ :: _, [] => by simp [cmpB]
  | a :: x, b :: y => by
    unfold cmpB
    by_cases h : a < b
    · rw [if_pos h]
      have : a ≠ b := fun e => by
        subst e
        rw [UInt8.lt_iff_toNat_lt] at h
        omega
      simp [this]
    · by_cases h2 : b < a
      · rw [if_neg h, if_pos h2]
        have : a ≠ b := fun e => by
          subst e
          rw [UInt8.lt_iff_toNat_lt] at h2
          omega
        simp [this]
      · rw [if_neg h, if_neg h2, cmpB_eq]
        have : a = b := by
          rw [UInt8.lt_iff_toNat_lt] at h h2
          exact UInt8.toNat_inj.1 (by omega)
        simp [this]
theorem cmpB_trans : ∀ {a b c}, cmpB a b < 0 → cmpB b c < 0 → cmpB a c < 0
  | [], [], _, h, _ => by simp [cmpB] at h
  | _ :: _, [], _, h, _ => by simp [cmpB] at h
  | [], _ :: _, [], _, h => by simp [cmpB] at h
  | [], _ :: _, _ :: _, _, _ => by simp [cmpB]
  | _ :: _, _ :: _, [], _, h => by simp [cmpB] at h
  | a :: x, b :: y, c :: z, h, h2 => by
    unfold cmpB at h h2 ⊢
    by_cases e : a < b
    · by_cases e2 : c < b
      · rw [if_neg (u8_lt_asymm e2), if_pos e2] at h2
        omega
      · rw [if_pos (by
          rw [UInt8.lt_iff_toNat_lt] at e e2 ⊢
          omega)]
        decide
    · rw [if_neg e] at h
      by_cases e3 : b < a
      · rw [if_pos e3] at h
        omega
      · rw [if_neg e3] at h
        have hab : a = b := by
          rw [UInt8.lt_iff_toNat_lt] at e e3
          exact UInt8.toNat_inj.1 (by omega)
        subst hab
        by_cases e4 : a < c
        · rw [if_pos e4]; decide
        · rw [if_neg e4] at h2 ⊢
          by_cases e5 : c < a
          · rw [if_pos e5] at h2
            omega
          · rw [if_neg e5] at h2 ⊢
            exact cmpB_trans h h2
def capB (c : UInt8) : UInt8 := if 97 ≤ c ∧ c ≤ 122 then c - 32 else c
def sgnI (a b : Int) : Int := if a < b then -1 else if b < a then 1 else 0
def cmpK (co : Int) (a b : List UInt8) : Int :=
  if co = 2 then sgnI (at4 a 0) (at4 b 0)
  else if co = 3 then if sgnI (at4 a 0) (at4 b 0) ≠ 0 then sgnI (at4 a 0) (at4 b 0) else sgnI (at4 a 4) (at4 b 4)
  else if co = 1 then cmpB (a.map capB) (b.map capB) else cmpB a b
def numOk (s : List UInt8) (p : Nat) : Bool := decide (at4 s p ≤ 2147483647)
def keyOk (co : Int) (k : List UInt8) : Bool :=
  if co = 0 then decide (1 ≤ k.length ∧ k.length ≤ 40)
  else if co = 1 then decide (1 ≤ k.length ∧ k.length ≤ 32)
  else if co = 2 then decide (k.length = 4) && numOk k 0
  else decide (k.length = 8) && (numOk k 0 && numOk k 4)
def keyE (co : Int) (k : List UInt8) : Int := if keyOk co k then 0 else 3
def entE (co : Int) (x : TEnt) : Int := if keyE co x.key = 0 then if x.val.length ≤ 64 then 0 else 8 else 3
def colE12 (co : Int) : Int := if 0 ≤ co ∧ co ≤ 3 then 0 else 15
def sizE (mo rm : Int) : Int := if (3 ≤ mo ∧ mo ≤ 8) ∧ (mo / 2 ≤ rm ∧ rm ≤ mo) then 0 else 2
def big4 (s : List UInt8) (p : Nat) : List UInt8 := [s.getD (p + 3) 0, s.getD (p + 2) 0, s.getD (p + 1) 0, s.getD p 0]
def imgK (co : Int) (k : List UInt8) : List UInt8 := if co = 2 then big4 k 0 else if co = 3 then big4 k 0 ++ big4 k 4 else if co = 1 then k.map capB else k
theorem cmp_big (a b : List UInt8) (p : Nat) (x y : List UInt8) : cmpB (big4 a p ++ x) (big4 b p ++ y) = if sgnI (at4 a p) (at4 b p) ≠ 0 then sgnI (at4 a p) (at4 b p) else cmpB x y := by
  have h : ∀ (s : List UInt8) i, (s.getD i 0).toNat < 256 := fun s i => UInt8.toNat_lt _
  have a0 := h a p; have a1 := h a (p + 1); have a2 := h a (p + 2); have a3 := h a (p + 3)
  have b0 := h b p; have b1 := h b (p + 1); have b2 := h b (p + 2); have b3 := h b (p + 3)
  unfold big4
  simp only [List.cons_append, List.nil_append, cmpB, sgnI, at4, at2, at1, UInt8.lt_iff_toNat_lt, Nat.add_assoc, Nat.reduceAdd]
  generalize (a.getD p 0).toNat = A0 at *
  generalize (a.getD (p + 1) 0).toNat = A1 at *
  generalize (a.getD (p + 2) 0).toNat = A2 at *
  generalize (a.getD (p + 3) 0).toNat = A3 at *
  generalize (b.getD p 0).toNat = B0 at *
  generalize (b.getD (p + 1) 0).toNat = B1 at *
  generalize (b.getD (p + 2) 0).toNat = B2 at *
  generalize (b.getD (p + 3) 0).toNat = B3 at *
  split <;> (try (split <;> (try (split <;> (try (split <;> (try (split <;> (try (split <;> (try (split <;> (try (split)))))))))))))) <;> first | rfl | omega | (simp_all; omega) | (exfalso; omega)
theorem cmpK_img (co : Int) (a b : List UInt8) : cmpK co a b = cmpB (imgK co a) (imgK co b) := by
  unfold cmpK imgK
  split
  · have h := cmp_big a b 0 [] []
    rw [List.append_nil, List.append_nil] at h
    rw [h]
    split
    · rfl
    · rename_i h2
      rw [show cmpB ([] : List UInt8) [] = 0 from rfl]
      omega
  · split
    · rw [cmp_big]
      congr 1
      have h := cmp_big a b 4 [] []
      rw [List.append_nil, List.append_nil] at h
      rw [h]
      split
      · rfl
      · rename_i h2
        rw [show cmpB ([] : List UInt8) [] = 0 from rfl]
        omega
    · split <;> rfl
theorem cmpK_swap (co : Int) (a b : List UInt8) : cmpK co b a = - cmpK co a b := by rw [cmpK_img, cmpK_img]; exact cmpB_swap _ _
theorem cmpK_eq {co : Int} {a b : List UInt8} : cmpK co a b = 0 ↔ imgK co a = imgK co b := by rw [cmpK_img]; exact cmpB_eq
theorem cmpK_trans {co : Int} {a b c : List UInt8} (h : cmpK co a b < 0) (h2 : cmpK co b c < 0) : cmpK co a c < 0 := by rw [cmpK_img] at h h2 ⊢; exact cmpB_trans h h2
def Asc (co : Int) (es : List TEnt) : Prop := ∀ k, k + 1 < es.length → cmpK co (nth es k).key (nth es (k + 1)).key < 0
theorem Asc.lt {co : Int} {es : List TEnt} (h : Asc co es) : ∀ {i j : Nat}, i < j → j < es.length → cmpK co (nth es i).key (nth es j).key < 0
  | i, 0, hij, _ => absurd hij (Nat.not_lt_zero _)
  | i, j + 1, hij, hj => by
    rcases Nat.lt_or_ge i j with h1 | h1
    · exact cmpK_trans (Asc.lt h h1 (by omega)) (h j hj)
    · obtain rfl : i = j := by omega
      exact h i hj
def cmpsK (co : Int) (es : List TEnt) (key : List UInt8) : List Int := es.map fun x => cmpK co x.key key
theorem cmpsK_len (co : Int) (es : List TEnt) (key : List UInt8) : (cmpsK co es key).length = es.length := by simp [cmpsK]
theorem cmpsK_get {co : Int} {es : List TEnt} {key : List UInt8} {i : Nat} (h : i < es.length) : (cmpsK co es key).getD i 0 = cmpK co (nth es i).key key := by
  unfold cmpsK
  rw [getD_map (d := default) h]
  rfl
def plc (co : Int) : List TEnt → List UInt8 → Nat
  | [], _ => 0
  | x :: es, key => if cmpK co x.key key < 0 then plc co es key + 1 else 0
def fnd (co : Int) (es : List TEnt) (key : List UInt8) : Bool := decide (plc co es key < es.length) && decide (cmpK co (nth es (plc co es key)).key key = 0)
theorem plc_le (co : Int) (key : List UInt8) : ∀ es, plc co es key ≤ es.length
  | [] => Nat.le_refl _
  | x :: es => by
    unfold plc
    split
    · have := plc_le co key es
      simp only [List.length_cons]
      omega
    · exact Nat.zero_le _
theorem nth_succ' {α : Type} [Inhabited α] (x : α) (l : List α) (i : Nat) : nth (x :: l) (i + 1) = nth l i := rfl
theorem plc_before (co : Int) (key : List UInt8) : ∀ es i, i < plc co es key → cmpK co (nth es i).key key < 0
  | [], i, h => absurd h (Nat.not_lt_zero _)
  | x :: es, i, h => by
    unfold plc at h
    split at h
    · rename_i h1
      cases i with
      | zero => exact h1
      | succ i =>
        rw [nth_succ']
        exact plc_before co key es i (by omega)
    · exact absurd h (Nat.not_lt_zero _)
theorem plc_at (co : Int) (key : List UInt8) : ∀ es, plc co es key < es.length → ¬ cmpK co (nth es (plc co es key)).key key < 0
  | [], h => absurd h (Nat.not_lt_zero _)
  | x :: es, h => by
    unfold plc at h ⊢
    split at h
    · rename_i h1
      rw [if_pos h1, nth_succ']
      exact plc_at co key es (by simpa using h)
    · rename_i h1
      rw [if_neg h1]
      exact h1
theorem plc_after {co : Int} {es : List TEnt} (hs : Asc co es) {key : List UInt8} {i : Nat} (h : plc co es key ≤ i) (hi : i < es.length) : ¬ cmpK co (nth es i).key key < 0 := by
  have h1 := plc_at co key es (by omega)
  rcases Nat.lt_or_ge (plc co es key) i with h2 | h2
  · intro h3
    exact h1 (cmpK_trans (hs.lt h2 hi) h3)
  · obtain rfl : i = plc co es key := by omega
    exact h1
theorem plc_bs {co : Int} {es : List TEnt} (hs : Asc co es) (key : List UInt8) : bsL (cmpsK co es key) = plc co es key := by
  refine bsL_spec (by rw [cmpsK_len]; exact plc_le co key es) (fun i hi => ?_) (fun i h1 h2 => ?_)
  · rw [cmpsK_get (by have := plc_le co key es; omega)]
    exact plc_before co key es i hi
  · rw [cmpsK_len] at h2
    rw [cmpsK_get h2]
    exact plc_after hs h1 h2
theorem fnd_bs {co : Int} {es : List TEnt} (hs : Asc co es) (key : List UInt8) : bsF' (cmpsK co es key) = fnd co es key := by
  unfold bsF' fnd
  rw [plc_bs hs, cmpsK_len]
  by_cases h : plc co es key < es.length
  · rw [cmpsK_get h]
  · simp [h]
def ordE (co : Int) (es : List TEnt) (k : Nat) : Int := if k = 0 ∨ cmpK co (nth es (k - 1)).key (nth es k).key < 0 then 0 else 9
def ordsE (co : Int) (es : List TEnt) : Int := (eachF ((List.range es.length).map (ordE co es)) 0).2
theorem ords_asc {co : Int} {es : List TEnt} (h : ordsE co es = 0) : Asc co es := fun k hk => by
  unfold ordsE at h
  have h1 := eachF_0.1 h (ordE co es (k + 1)) (List.mem_map.2 ⟨k + 1, List.mem_range.2 hk, rfl⟩)
  unfold ordE at h1
  split at h1
  · rename_i h2
    rcases h2 with h2 | h2
    · cases h2
    · exact h2
  · exact absurd h1 (by decide)
def kidsE (ns : List Nd) : List Int → List Int → Int × List Int
  | [], seen => (0, seen)
  | c :: cs, seen => if (1 ≤ c ∧ c ≤ (ns.length : Int) - 1) ∧ (nth ns c.toNat).us = true then if c ∈ seen then (23, c :: seen) else kidsE ns cs (c :: seen) else (6, seen)
def entsE (co : Int) (es : List TEnt) : Int := (eachF (es.map (entE co)) 0).2
def mostN (mo rm : Int) (i : Nat) : Int := if i = 0 then rm else mo
def nodE (t : Tre) (i : Nat) (seen : List Int) : Int × List Int :=
  let n := nth t.ns i
  if n.us = true then
    if (n.es.length : Int) ≤ mostN t.mo t.rm i then
      if n.cs.length = 0 ∨ n.cs.length = n.es.length + 1 then
        if entsE t.co n.es = 0 then
          if (kidsE t.ns n.cs seen).1 = 0 then (ordsE t.co n.es, (kidsE t.ns n.cs seen).2) else kidsE t.ns n.cs seen
        else (entsE t.co n.es, seen)
      else (10, seen)
    else (16, seen)
  else if (0 < i ∧ i + 1 < t.ns.length) ∧ n.es.length + n.cs.length = 0 then (0, seen) else (3, seen)
def nodsE (t : Tre) : Nat → Nat → List Int → Int × Int
  | 0, _, _ => (0, 0)
  | f + 1, i, seen => if (nodE t i seen).1 = 0 then nodsE t f (i + 1) (nodE t i seen).2 else ((i : Int), (nodE t i seen).1)
structure Vis where
  i : Nat
  d : Int
  lo : Option (List UInt8)
  hi : Option (List UInt8)
deriving Inhabited
def loK (es : List TEnt) (k : Nat) (lo : Option (List UInt8)) : Option (List UInt8) := if 0 < k then some (nth es (k - 1)).key else lo
def hiK (es : List TEnt) (k : Nat) (hi : Option (List UInt8)) : Option (List UInt8) := if k < es.length then some (nth es k).key else hi
def vis (ns : List Nd) : Nat → Vis → List Vis
  | 0, _ => []
  | f + 1, v => v :: (List.range (nth ns v.i).cs.length).flatMap fun k => vis ns f ⟨((nth ns v.i).cs.getD k 0).toNat, v.d + 1, loK (nth ns v.i).es k v.lo, hiK (nth ns v.i).es k v.hi⟩
def root0 : Vis := ⟨0, 1, none, none⟩
def visT (ns : List Nd) : List Vis := vis ns ns.length root0
def deepT (ns : List Nd) : Nat → Nat → Int
  | 0, _ => 0
  | f + 1, i => if (nth ns i).cs.length = 0 then 0 else deepT ns f ((nth ns i).cs.getD 0 0).toNat + 1
def visE (t : Tre) (deep : Int) (v : Vis) : Int :=
  let n := nth t.ns v.i
  if 0 < v.i ∧ ((n.es.length : Int) < t.mo / 2 ∨ ((nth t.ns 0).es.length = 0 ∧ (v.i : Int) ∈ (nth t.ns 0).cs) ∧ (n.es.length : Int) ≤ t.rm) then 14
  else if (n.es.any fun x => (v.lo.any fun b => decide (0 ≤ cmpK t.co b x.key)) || (v.hi.any fun b => decide (0 ≤ cmpK t.co x.key b))) = true then 9
  else if n.cs.length = 0 ∧ v.d ≠ deep + 1 then 22 else 0
def opnF (ns : List Nd) (below : List Nat) : Nat → Nat → Option Nat
  | 0, _ => none
  | f + 1, i => if (nth ns i).us = true ∧ i ∉ below then some i else opnF ns below f (i + 1)
def shpF (t : Tre) (deep : Int) : List Vis → Int × Int
  | [] => (0, 0)
  | v :: vs => if visE t deep v = 0 then shpF t deep vs else ((v.i : Int), visE t deep v)
def treE (t : Tre) : Int × Int :=
  if colE12 t.co = 0 then
    if sizE t.mo t.rm = 0 then
      if 0 < t.ns.length then
        if t.ns.length ≤ 120 then
          if (nodsE t t.ns.length 0 []).2 = 0 then
            match opnF t.ns ((visT t.ns).map Vis.i) t.ns.length 0 with
            | some i => ((i : Int), 21)
            | none => shpF t (deepT t.ns t.ns.length 0) (visT t.ns)
          else nodsE t t.ns.length 0 []
        else (0, 8)
      else (0, 10)
    else (0, 2)
  else (0, 15)
structure TOk (co : Int) (ns : List Nd) : Prop where
  kid : ∀ i, i < ns.length → ∀ c ∈ (nth ns i).cs, (1 ≤ c ∧ c ≤ (ns.length : Int) - 1) ∧ (nth ns c.toNat).us = true
  once : (ns.flatMap Nd.cs).Nodup
  shape : ∀ i, i < ns.length → (nth ns i).cs.length = 0 ∨ (nth ns i).cs.length = (nth ns i).es.length + 1
  free : ∀ i, i < ns.length → (nth ns i).us = false → (0 < i ∧ i + 1 < ns.length) ∧ (nth ns i).es = [] ∧ (nth ns i).cs = []
  asc : ∀ i, i < ns.length → Asc co (nth ns i).es
  ents : ∀ i, i < ns.length → ∀ x ∈ (nth ns i).es, entE co x = 0
theorem kidsE_ok {ns : List Nd} : ∀ {cs seen : List Int}, (kidsE ns cs seen).1 = 0 → (∀ c ∈ cs, (1 ≤ c ∧ c ≤ (ns.length : Int) - 1) ∧ (nth ns c.toNat).us = true) ∧ (kidsE ns cs seen).2 = cs.reverse ++ seen ∧ (seen.Nodup → (cs.reverse ++ seen).Nodup)
  | [], seen, _ => ⟨fun c hc => (nomatch hc), rfl, fun h => h⟩
  | c :: cs, seen, h => by
    unfold kidsE at h ⊢
    split at h
    · rename_i h1
      split at h
      · cases h
      · rename_i h2
        rw [if_pos h1, if_neg h2]
        obtain ⟨h3, h4, h5⟩ := kidsE_ok h
        refine ⟨fun x hx => ?_, ?_, fun hs => ?_⟩
        · rcases List.mem_cons.1 hx with rfl | hx
          · exact h1
          · exact h3 x hx
        · rw [h4, List.reverse_cons, List.append_assoc]
          rfl
        · have := h5 (List.nodup_cons.2 ⟨h2, hs⟩)
          rw [List.reverse_cons, List.append_assoc]
          exact this
    · cases h
theorem nodE_ok {t : Tre} {i : Nat} {seen : List Int} (h : (nodE t i seen).1 = 0) :
    ((nth t.ns i).us = true → (∀ c ∈ (nth t.ns i).cs, (1 ≤ c ∧ c ≤ (t.ns.length : Int) - 1) ∧ (nth t.ns c.toNat).us = true) ∧ ((nth t.ns i).es.length : Int) ≤ mostN t.mo t.rm i ∧ ((nth t.ns i).cs.length = 0 ∨ (nth t.ns i).cs.length = (nth t.ns i).es.length + 1) ∧ entsE t.co (nth t.ns i).es = 0 ∧ ordsE t.co (nth t.ns i).es = 0) ∧
    ((nth t.ns i).us = false → (0 < i ∧ i + 1 < t.ns.length) ∧ (nth t.ns i).es = [] ∧ (nth t.ns i).cs = []) ∧
    (nodE t i seen).2 = (nth t.ns i).cs.reverse ++ seen ∧ (seen.Nodup → ((nth t.ns i).cs.reverse ++ seen).Nodup) := by
  unfold nodE at h ⊢
  simp only [] at h ⊢
  split at h
  · rename_i hu
    split at h
    · rename_i h1
      split at h
      · rename_i h2
        split at h
        · rename_i h3
          split at h
          · rename_i h4
            obtain ⟨k1, k2, k3⟩ := kidsE_ok h4
            rw [if_pos hu, if_pos h1, if_pos h2, if_pos h3, if_pos h4]
            exact ⟨fun _ => ⟨k1, h1, h2, h3, h⟩, fun hf => absurd (hu.symm.trans hf) (by decide), k2, k3⟩
          · rename_i h4
            exact absurd h h4
        · rename_i h3
          exact absurd h h3
      · cases h
    · cases h
  · rename_i hu
    split at h
    · rename_i h1
      obtain ⟨h2, h3⟩ := h1
      have e1 : (nth t.ns i).es = [] := List.eq_nil_of_length_eq_zero (by omega)
      have e2 : (nth t.ns i).cs = [] := List.eq_nil_of_length_eq_zero (by omega)
      rw [if_neg hu, if_pos ⟨h2, h3⟩, e2]
      exact ⟨fun h9 => absurd h9 hu, fun _ => ⟨h2, e1, rfl⟩, rfl, fun h9 => h9⟩
    · cases h
theorem nodsE_ok {t : Tre} : ∀ {f i : Nat} {seen : List Int}, i + f = t.ns.length → (nodsE t f i seen).2 = 0 → seen.Nodup → (∀ j, i ≤ j → j < t.ns.length → ∃ s, (nodE t j s).1 = 0) ∧ ((seen.reverse ++ (t.ns.drop i).flatMap Nd.cs)).Nodup
  | 0, i, seen, hi, h, hs => by
    refine ⟨fun j h1 h2 => absurd h2 (by omega), ?_⟩
    rw [List.drop_of_length_le (by omega), List.flatMap_nil, List.append_nil]
    exact (List.reverse_perm seen).nodup_iff.2 hs
  | f + 1, i, seen, hi, h, hs => by
    unfold nodsE at h
    split at h
    · rename_i h1
      obtain ⟨h2, h3, h4, h5⟩ := nodE_ok h1
      obtain ⟨h6, h7⟩ := nodsE_ok (f := f) (i := i + 1) (by omega) h (by rw [h4]; exact h5 hs)
      refine ⟨fun j hj1 hj2 => ?_, ?_⟩
      · rcases Nat.lt_or_ge i j with h8 | h8
        · exact h6 j h8 hj2
        · obtain rfl : i = j := by omega
          exact ⟨seen, h1⟩
      · rw [h4, List.reverse_append, List.reverse_reverse, List.append_assoc] at h7
        rw [List.drop_eq_getElem_cons (show i < t.ns.length by omega), List.flatMap_cons]
        have e : t.ns[i] = nth t.ns i := (nth_eq (List.getElem?_eq_getElem (by omega))).symm
        rw [e]
        exact h7
    · rename_i h1
      exact absurd h h1
theorem ents_ok {co : Int} {es : List TEnt} (h : entsE co es = 0) : ∀ x ∈ es, entE co x = 0 := fun x hx => eachF_0.1 h _ (List.mem_map.2 ⟨x, hx, rfl⟩)
theorem tok_of {t : Tre} (h : (nodsE t t.ns.length 0 []).2 = 0) : TOk t.co t.ns := by
  obtain ⟨h1, h2⟩ := nodsE_ok (f := t.ns.length) (i := 0) (by omega) h List.nodup_nil
  have key := fun i (hi : i < t.ns.length) => nodE_ok (h1 i (Nat.zero_le _) hi).choose_spec
  have hF : ∀ i, i < t.ns.length → (nth t.ns i).us = false → (0 < i ∧ i + 1 < t.ns.length) ∧ (nth t.ns i).es = [] ∧ (nth t.ns i).cs = [] := fun i hi => (key i hi).2.1
  refine ⟨fun i hi c hc => ?_, by simpa using h2, fun i hi => ?_, hF, fun i hi => ?_, fun i hi x hx => ?_⟩
  · cases e : (nth t.ns i).us with
    | true => exact ((key i hi).1 e).1 c hc
    | false => rw [(hF i hi e).2.2] at hc; cases hc
  · cases e : (nth t.ns i).us with
    | true => exact ((key i hi).1 e).2.2.1
    | false => exact Or.inl (by rw [(hF i hi e).2.2]; rfl)
  · cases e : (nth t.ns i).us with
    | true => exact ords_asc ((key i hi).1 e).2.2.2.2
    | false =>
      rw [(hF i hi e).2.1]
      intro k hk
      exact absurd hk (Nat.not_lt_zero _)
  · cases e : (nth t.ns i).us with
    | true => exact ents_ok ((key i hi).1 e).2.2.2.1 x hx
    | false => rw [(hF i hi e).2.1] at hx; cases hx
theorem nodup_mid {α : Type} : ∀ {A B : List α} {x : α}, (A ++ B).Nodup → x ∈ A → x ∈ B → False := fun h h1 h2 => (List.nodup_append.1 h).2.2 _ h1 _ h2 rfl
theorem flat_parent {α β : Type} [Inhabited α] {f : α → List β} : ∀ {l : List α}, (l.flatMap f).Nodup → ∀ {i j : Nat} {c : β}, i < l.length → j < l.length → c ∈ f (nth l i) → c ∈ f (nth l j) → i = j
  | [], _, i, j, c, hi, _, _, _ => absurd hi (Nat.not_lt_zero _)
  | x :: l, h, i, j, c, hi, hj, h1, h2 => by
    rw [List.flatMap_cons] at h
    have hm : ∀ k, k < l.length → c ∈ f (nth l k) → c ∈ l.flatMap f := fun k hk hc => List.mem_flatMap.2 ⟨_, mem_nth hk, hc⟩
    cases i with
    | zero =>
      cases j with
      | zero => rfl
      | succ j => exact (nodup_mid h h1 (hm j (by simpa using hj) h2)).elim
    | succ i =>
      cases j with
      | zero => exact (nodup_mid h h2 (hm i (by simpa using hi) h1)).elim
      | succ j => rw [flat_parent (List.nodup_append.1 h).2.1 (by simpa using hi) (by simpa using hj) h1 h2]
def Way (ns : List Nd) : List Nat → Prop
  | [] => False
  | [r] => r = 0
  | c :: p :: P => ((c : Int) ∈ (nth ns p).cs ∧ p < ns.length) ∧ Way ns (p :: P)
theorem way_lt {co : Int} {ns : List Nd} (ht : TOk co ns) (h0 : 0 < ns.length) : ∀ {P : List Nat}, Way ns P → ∀ x ∈ P, x < ns.length
  | [], h, _, _ => h.elim
  | [r], h, x, hx => by
    rw [List.mem_singleton.1 hx, show r = 0 from h]
    exact h0
  | c :: p :: P, h, x, hx => by
    rcases List.mem_cons.1 hx with rfl | hx
    · have := (ht.kid p h.1.2 _ h.1.1).1
      omega
    · exact way_lt ht h0 h.2 x hx
theorem way_par {ns : List Nd} : ∀ {P : List Nat}, Way ns P → ∀ j, j + 1 < P.length → ((nth P j : Nat) : Int) ∈ (nth ns (nth P (j + 1))).cs ∧ nth P (j + 1) < ns.length
  | [], h, _, _ => h.elim
  | [r], h, j, hj => absurd hj (by simp)
  | c :: p :: P, h, 0, hj => h.1
  | c :: p :: P, h, j + 1, hj => way_par h.2 j (by simpa using hj)
theorem way_last {ns : List Nd} : ∀ {P : List Nat}, Way ns P → nth P (P.length - 1) = 0
  | [], h => h.elim
  | [r], h => h
  | c :: p :: P, h => by
    have h1 := way_last h.2
    show nth (p :: P) P.length = 0
    exact h1
theorem way_nodup {co : Int} {ns : List Nd} (ht : TOk co ns) : ∀ {P : List Nat}, Way ns P → P.Nodup
  | [], h => h.elim
  | [r], h => by simp
  | c :: p :: P, h => by
    have h1 := way_nodup ht h.2
    refine List.nodup_cons.2 ⟨fun hc => ?_, h1⟩
    obtain ⟨j, hj, e⟩ := List.getElem_of_mem hc
    have e2 : nth (p :: P) j = c := nth_eq (by rw [List.getElem?_eq_getElem hj, e])
    have hk := ht.kid p h.1.2 _ h.1.1
    rcases Nat.lt_or_ge (j + 1) (p :: P).length with h2 | h2
    · have h3 := way_par h.2 j h2
      rw [e2] at h3
      have h4 := flat_parent ht.once h.1.2 h3.2 h.1.1 h3.1
      have h5 : (p :: P)[0]? = (p :: P)[j + 1]? := by
        rw [nth_get h2, ← h4]
        rfl
      have := (List.getElem?_inj (by simp) h1).1 h5
      omega
    · have h3 := way_last h.2
      rw [show (p :: P).length - 1 = j by omega, e2] at h3
      omega
theorem nodup_le : ∀ (n : Nat) (l : List Nat), l.Nodup → (∀ x ∈ l, x < n) → l.length ≤ n
  | 0, l, _, h => by
    cases l with
    | nil => exact Nat.le_refl _
    | cons x l => exact absurd (h x (List.mem_cons_self ..)) (Nat.not_lt_zero _)
  | n + 1, l, hd, h => by
    have h1 := nodup_le n (l.erase n) (hd.erase n) (fun x hx => by
      have h2 := (hd.mem_erase_iff).1 hx
      have := h x h2.2
      omega)
    have h2 := List.length_erase_le (a := n) (l := l)
    rw [List.length_erase] at h1
    split at h1 <;> omega
theorem way_len {co : Int} {ns : List Nd} (ht : TOk co ns) (h0 : 0 < ns.length) {P : List Nat} (h : Way ns P) : P.length ≤ ns.length := nodup_le _ _ (way_nodup ht h) (way_lt ht h0 h)
end Gx
namespace Gx
set_option linter.unusedSimpArgs false
set_option linter.unusedVariables false
open Go Go.RowKit
theorem cmpB_lib : ∀ a b, Lib.compareBytes a b = cmpB a b
  | [], [] => rfl
  | [], _ :: _ => rfl
  | _ :: _, [] => rfl
  | a :: x, b :: y => by
    unfold Lib.compareBytes cmpB
    rw [cmpB_lib x y]
section
variable {P : Program} {o : Oper} {L : Slots}
def isCS (P : Program) (f : FuncId) : Prop := ∃ fn, P.funcs[f]? = some fn ∧ (fn.name == "runtime.NumGoroutine") = false ∧ fn.body.isNone = true ∧ Extern.findNext fn = none ∧ Extern.find fn = some Extern.BytealgCompare.compare
theorem q_cmpString {f : FuncId} {x y : Operand} {a b : List UInt8} {at' : Array TypeId} {C : World → Prop} (ho : o.op = .call { callee := .value (.func f), args := #[x, y], argTypes := at' }) (hx : ev L x = some (.string (bs a))) (hy : ev L y = some (.string (bs b))) (hf : isCS P f) : OpQ P o L C (.int .i64 (cmpB a b)) := by
  intro ρ w hρ hw
  obtain ⟨fn, h1, h2, h3, h4, h5⟩ := hf
  have hcall := run_callFunc_extern h1 h2 h3 h4 h5 #[.string (bs a), .string (bs b)] w
  rw [Lib.run_compareString, bs_data, bs_data, cmpB_lib] at hcall
  have : (execOp ρ o).run P w = .ok (.value (.int .i64 (cmpB a b))) w := by
    unfold execOp
    simp only [ho, resolve, Sem.run_bind, hρ (.func f) _ rfl, Deferred.ofValue, Sem.run_pure, Result.andThen_ok, invoke, List.map_toArray, List.map_cons, List.map_nil, hρ _ _ hx, hρ _ _ hy, Array.empty_append, Array.append_empty, hcall]
  rw [this]
  exact ⟨rfl, Below.refl _ _⟩
end
end Gx
namespace Gx
open Go Go.RowKit
class TFd (P : Program) (t f : Nat) (off ft : outParam Nat) : Prop where h : tfd P t f = some (off, ft)
class TSz (P : Program) (t : Nat) (n : outParam Nat) (ag : outParam Bool) : Prop where h : tsz P t = some (n, ag)
class TSe (P : Program) (t : Nat) (e : outParam Nat) : Prop where h : P.underlying t = some (.slice e)
section
variable {X : Ctx} {ops : Array Oper} {rest : List Oper} {k : List KI} {L : Slots} {d ty : Nat} {pos : String} {aft : Array Edge} {C : World → Prop}
theorem oFa {st f x b i off ft sz : Nat} {ag : Bool} [h1 : TFd X.P st f off ft] [h2 : TSz X.P ft sz ag] (next : O X ops rest k ((d, .pointer (some ⟨b, i + off, none⟩)) :: L) C) (hx : Slots.get L x = some (.pointer (some ⟨b, i, none⟩)) := by rfl) (hs : Nat.blt 0 sz = true := by rfl) (hd : Nat.blt d X.n = true := by rfl) :
    O X ops (⟨some d, .fieldAddr st (.tmp x) f, ty, pos, aft, none⟩ :: rest) k L C := o_p (p_fieldAddr rfl hx h1.h h2.h hs) hd next
theorem oLs {t e x n cap : Nat} {a : Option Addr} [h1 : TSe X.P t e] (next : O X ops rest k ((d, .int .i64 n) :: L) C) (hx : Slots.get L x = some (.slice a n cap) := by rfl) (hd : Nat.blt d X.n = true := by rfl) :
    O X ops (⟨some d, .call { callee := .builtin .len, args := #[.tmp x], argTypes := #[t] }, ty, pos, aft, none⟩ :: rest) k L C := o_p (p_len_slice (x := .tmp x) rfl hx h1.h) hd next
theorem oLd {w0 : World} {M : List Nat} {As As' : List HA} {t x b tot i : Nat} {bt : TypeId} {cs : List Value} {v : Value} [h1 : TSz X.P t 1 false] (next : O X ops rest k ((d, v) :: L) (HS w0 M As)) (hx : Slots.get L x = some (.pointer (some ⟨b, i, none⟩)) := by rfl) (hp : Pick As (.blk b bt tot cs) As' := by repeat (first | exact .here | apply Pick.there)) (hv : cs[i]? = some v := by rfl) (hd : Nat.blt d X.n = true := by rfl) :
    O X ops (⟨some d, .load t (.tmp x), ty, pos, aft, none⟩ :: rest) k L (HS w0 M As) := o_q (q_load rfl hx h1.h hp hv) hd next
theorem oLn {w0 : World} {M : List Nat} {As As' : List HA} {t x b tot i n : Nat} {bt : TypeId} {cs : List Value} [h1 : TSz X.P t n true] (next : O X ops rest k ((d, .agg (cut cs i n).toArray) :: L) (HS w0 M As)) (hx : Slots.get L x = some (.pointer (some ⟨b, i, none⟩)) := by rfl) (hp : Pick As (.blk b bt tot cs) As' := by repeat (first | exact .here | apply Pick.there)) (hl : Nat.ble (i + n) cs.length = true := by rfl) (hd : Nat.blt d X.n = true := by rfl) :
    O X ops (⟨some d, .load t (.tmp x), ty, pos, aft, none⟩ :: rest) k L (HS w0 M As) := o_q (q_loadn rfl hx h1.h hp hl) hd next
theorem oOf {j : Nat} {want b : Bool} {op : Op} (dj : Nat) (hb : b = !want) (next : O X ops rest k ((d, undef) :: L) C) (hj : (ops[j]?).bind (·.dst) = some dj := by rfl) (hs : Slots.get L dj = some (.bool b) := by rfl) (hd : Nat.blt d X.n = true := by rfl) : O X ops (⟨some d, op, ty, pos, aft, some (j, want)⟩ :: rest) k L C := o_off dj b hj hs hb hd next
theorem oOn {j : Nat} {want b : Bool} {op : Op} {dst : Option Nat} (dj : Nat) (hb : b = want) (next : O X ops (⟨dst, op, ty, pos, aft, none⟩ :: rest) k L C) (hj : (ops[j]?).bind (·.dst) = some dj := by rfl) (hs : Slots.get L dj = some (.bool b) := by rfl) : O X ops (⟨dst, op, ty, pos, aft, some (j, want)⟩ :: rest) k L C := o_on dj b hj hs hb next
end
section
variable {X : Ctx} {ops : Array Oper} {F : List Nat} {fuel : Nat} {listed : Array Bool} {k : List KI} {L : Slots} {d ty : Nat} {pos : String} {aft : Array Edge} {C B : World → Prop} {w0 : World} {M : List Nat} {As As' Bs : List HA}
theorem dFa (i : Nat) {st f x b o off ft sz : Nat} {ag : Bool} (next : D X ops F B fuel (listed.setIfInBounds i true) k ((d, .pointer (some ⟨b, o + off, none⟩)) :: L) C) (hi : ops[i]? = some ⟨some d, .fieldAddr st (.tmp x) f, ty, pos, aft, none⟩ := by rfl) (hx : Slots.get L x = some (.pointer (some ⟨b, o, none⟩)) := by rfl) (h1 : TFd X.P st f off ft := by infer_instance) (h2 : TSz X.P ft sz ag := by infer_instance) (hs : Nat.blt 0 sz = true := by rfl) (hok : okFirst ops listed i = true := by kernel_rfl) (hF : F.all (fun f => !Nat.beq f i) = true := by rfl) (hd : Nat.blt d X.n = true := by rfl) : D X ops F B (fuel + 1) listed k L C := d_p i hi (p_fieldAddr rfl hx h1.h h2.h hs) hok hF hd next
theorem dFo {j : Nat} {want c : Bool} (i dj : Nat) {st f x b o off ft sz : Nat} {ag : Bool} (hw : c = want) (next : D X ops F B fuel (listed.setIfInBounds i true) k ((d, .pointer (some ⟨b, o + off, none⟩)) :: L) C) (hi : ops[i]? = some ⟨some d, .fieldAddr st (.tmp x) f, ty, pos, aft, some (j, want)⟩ := by rfl) (hj : (ops[j]?).bind (·.dst) = some dj := by rfl) (hb : Slots.get L dj = some (.bool c) := by rfl) (hx : Slots.get L x = some (.pointer (some ⟨b, o, none⟩)) := by rfl) (h1 : TFd X.P st f off ft := by infer_instance) (h2 : TSz X.P ft sz ag := by infer_instance) (hs : Nat.blt 0 sz = true := by rfl) (hok : okFirst ops listed i = true := by kernel_rfl) (hF : F.all (fun f => !Nat.beq f i) = true := by rfl) (hd : Nat.blt d X.n = true := by rfl) : D X ops F B (fuel + 1) listed k L C := d_pon i dj hi hj hb hw (p_fieldAddr rfl hx h1.h h2.h hs) hok hF hd next
theorem dPo {j : Nat} {want c : Bool} {op : Op} {v : Value} (i dj : Nat) (hw : c = want) (next : D X ops F B fuel (listed.setIfInBounds i true) k ((d, v) :: L) C) (hi : ops[i]? = some ⟨some d, op, ty, pos, aft, some (j, want)⟩ := by rfl) (hj : (ops[j]?).bind (·.dst) = some dj := by rfl) (hb : Slots.get L dj = some (.bool c) := by rfl) (h : OpP X.P ⟨some d, op, ty, pos, aft, none⟩ L v := by exact p_pure rfl) (hok : okFirst ops listed i = true := by kernel_rfl) (hF : F.all (fun f => !Nat.beq f i) = true := by rfl) (hd : Nat.blt d X.n = true := by rfl) : D X ops F B (fuel + 1) listed k L C := d_pon i dj hi hj hb hw h hok hF hd next
theorem dOf {j : Nat} {want c : Bool} {op : Op} (i dj : Nat) (hw : c = !want) (next : D X ops F B fuel (listed.setIfInBounds i true) k ((d, undef) :: L) C) (hi : ops[i]? = some ⟨some d, op, ty, pos, aft, some (j, want)⟩ := by rfl) (hj : (ops[j]?).bind (·.dst) = some dj := by rfl) (hb : Slots.get L dj = some (.bool c) := by rfl) (hok : okFirst ops listed i = true := by kernel_rfl) (hF : F.all (fun f => !Nat.beq f i) = true := by rfl) (hd : Nat.blt d X.n = true := by rfl) : D X ops F B (fuel + 1) listed k L C := d_off i dj hi hj hb hw hok hF hd next
theorem dOu {j : Nat} {want : Bool} {op : Op} (i dj : Nat) (next : D X ops F B fuel (listed.setIfInBounds i true) k ((d, undef) :: L) C) (hi : ops[i]? = some ⟨some d, op, ty, pos, aft, some (j, want)⟩ := by rfl) (hj : (ops[j]?).bind (·.dst) = some dj := by rfl) (hb : Slots.get L dj = some undef := by rfl) (hok : okFirst ops listed i = true := by kernel_rfl) (hF : F.all (fun f => !Nat.beq f i) = true := by rfl) (hd : Nat.blt d X.n = true := by rfl) : D X ops F B (fuel + 1) listed k L C := d_offU i dj hi hj hb hok hF hd next
theorem dNi (next : S X k L (HS w0 M As)) (hB : ∀ w, HS w0 M As w → B w := by (intro w h; first | exact h | exact h.ent aEt)) (hr : (Region.ready .any ops listed == []) = true := by kernel_rfl) : D X ops F B 0 listed k L (HS w0 M As) := d_nil hr hB next
theorem dBa (next : D X ops F (HS w0 M As) fuel listed k L (HS w0 M As)) (hB : ∀ w, HS w0 M As w → B w := by (intro w h; exact h.ent aEt)) : D X ops F B fuel listed k L (HS w0 M As) := d_base hB next
theorem dLd (i : Nat) (ps : List (List Nat)) {t x b tot o : Nat} {bt : TypeId} {cs : List Value} {v : Value} (next : D X ops F (HS w0 M Bs) fuel (listed.setIfInBounds i true) k ((d, v) :: L) C) (hi : ops[i]? = some ⟨some d, .load t (.tmp x), ty, pos, aft, none⟩ := by rfl) (hx : Slots.get L x = some (.pointer (some ⟨b, o, none⟩)) := by rfl) (h1 : TSz X.P t 1 false := by infer_instance) (hp : Pick Bs (.blk b bt tot cs) As' := by repeat (first | exact .here | apply Pick.there)) (hv : cs[o]? = some v := by rfl) (hok : okFirst ops listed i = true := by kernel_rfl) (hF : waitsAll ops F i ps = true := by kernel_rfl) (hn : noneOf F listed = true := by kernel_rfl) (hd : Nat.blt d X.n = true := by rfl) : D X ops F (HS w0 M Bs) (fuel + 1) listed k L C := d_q i ps hi (q_load rfl hx h1.h hp hv) hok hF hn hd next
theorem dLn (i : Nat) (ps : List (List Nat)) {t x b tot o n : Nat} {bt : TypeId} {cs : List Value} (next : D X ops F (HS w0 M Bs) fuel (listed.setIfInBounds i true) k ((d, .agg (cut cs o n).toArray) :: L) C) (hi : ops[i]? = some ⟨some d, .load t (.tmp x), ty, pos, aft, none⟩ := by rfl) (hx : Slots.get L x = some (.pointer (some ⟨b, o, none⟩)) := by rfl) (h1 : TSz X.P t n true := by infer_instance) (hp : Pick Bs (.blk b bt tot cs) As' := by repeat (first | exact .here | apply Pick.there)) (hl : Nat.ble (o + n) cs.length = true := by rfl) (hok : okFirst ops listed i = true := by kernel_rfl) (hF : waitsAll ops F i ps = true := by kernel_rfl) (hn : noneOf F listed = true := by kernel_rfl) (hd : Nat.blt d X.n = true := by rfl) : D X ops F (HS w0 M Bs) (fuel + 1) listed k L C := d_q i ps hi (q_loadn rfl hx h1.h hp hl) hok hF hn hd next
end
section
variable {X : Ctx} {ops : Array Oper} {F : List Nat} {fuel : Nat} {listed : Array Bool} {rest : List Oper} {k : List KI} {L : Slots} {d ty : Nat} {pos : String} {aft : Array Edge} {w0 : World} {M : List Nat} {As As' : List HA}
theorem oSt {t x b tot i n : Nat} {y : Operand} {bt : TypeId} {ag : Bool} {cs : List Value} {v : Value} [hs : TSz X.P t n ag] (next : O X ops rest k L (HS w0 M As')) (hx : Slots.get L x = some (.pointer (some ⟨b, i, none⟩)) := by rfl) (hy : ev L y = some v := by rfl) (hn : v.cells.toList.length = n := by rfl)
    (hp : Put As (.blk b bt tot cs) (.blk b bt tot (setMany cs i v.cells.toList)) As' := by repeat (first | exact .here | apply Put.there)) (hl : i + n ≤ cs.length := by (simp only [setMany_length, List.length_set, List.length_cons, List.length_nil, List.length_map]; omega)) (h1 : v.cells.toList.all (·.oneCell') = true := by rfl) :
    O X ops (⟨none, .store t (.tmp x) y, ty, pos, aft, none⟩ :: rest) k L (HS w0 M As) := o_h0 (h_store rfl hx hy hs.h hn hp hl h1) fun _ _ => next
theorem oAl {t : TypeId} {z : List Value} (next : ∀ b, True → O X ops rest k ((d, .pointer (some ⟨b, 0, none⟩)) :: L) (HS w0 M (.blk b t z.length z :: As))) (hz : tzero X.P t = some z) (hd : Nat.blt d X.n = true := by rfl) : O X ops (⟨some d, .alloc t, ty, pos, aft, none⟩ :: rest) k L (HS w0 M As) := o_h (h_alloc rfl hz) hd next
theorem oBx {t : TypeId} {x : Operand} {v : Value} (next : ∀ b, True → O X ops rest k ((d, .pointer (some ⟨b, 0, none⟩)) :: L) (HS w0 M (.blk b t v.cells.toList.length v.cells.toList :: As))) (hx : ev L x = some v := by rfl) (hd : Nat.blt d X.n = true := by rfl) : O X ops (⟨some d, .box t x, ty, pos, aft, none⟩ :: rest) k L (HS w0 M As) := o_h (h_box rfl hx) hd next
theorem oWr {v : Int} {C : World → Prop} (next : O X ops rest k ((d, .int .i64 v) :: L) C) (h1 : -9223372036854775808 ≤ v := by omega) (h2 : v ≤ 9223372036854775807 := by omega) : O X ops rest k ((d, .int .i64 (IntKind.i64.wrap v)) :: L) C := o_slot (i64w h1 h2) next
theorem dWr {v : Int} {C B : World → Prop} (next : D X ops F B fuel listed k ((d, .int .i64 v) :: L) C) (h1 : -9223372036854775808 ≤ v := by omega) (h2 : v ≤ 9223372036854775807 := by omega) : D X ops F B fuel listed k ((d, .int .i64 (IntKind.i64.wrap v)) :: L) C := d_slot (i64w h1 h2) next
theorem oJn {X : Ctx} {k : List KI} {L : Slots} {LJ : Unit → Slots} {C : World → Prop} {CJ : Unit → World → Prop} (m dp : Nat) {v : Value} (hJ : LJ () = (dp, v) :: L.drop m := by exact rfl) (hv : Slots.get L dp = some v := by exact rfl) (hf : freshL L m = true := by exact rfl) (hC : ∀ w, C w → CJ () w := by (intro w h; first | exact h | exact h.ent aEt)) : S X (.join (At X.n X.df LJ CJ) :: k) L C := s_joinN m dp v hJ hv hf hC
theorem dSt {B : World → Prop} (i : Nat) {t x b tot o n : Nat} {y : Operand} {bt : TypeId} {ag : Bool} {cs : List Value} {v : Value} (next : D X ops F B fuel (listed.setIfInBounds i true) k L (HS w0 M As')) (hi : ops[i]? = some ⟨none, .store t (.tmp x) y, ty, pos, aft, none⟩ := by rfl) (hx : Slots.get L x = some (.pointer (some ⟨b, o, none⟩)) := by rfl) (hy : ev L y = some v := by rfl) (hs : TSz X.P t n ag := by infer_instance) (hn : v.cells.toList.length = n := by rfl)
    (hp : Put As (.blk b bt tot cs) (.blk b bt tot (setMany cs o v.cells.toList)) As' := by repeat (first | exact .here | apply Put.there)) (hl : o + n ≤ cs.length) (h1 : v.cells.toList.all (·.oneCell') = true := by rfl) (hr : (Region.ready .any ops listed == [i]) = true := by kernel_rfl) (hB : ∀ w, HS w0 M As w → B w := by (intro w h; exact h.ent aEt)) :
    D X ops F B (fuel + 1) listed k L (HS w0 M As) := d_h0 i hi (h_store rfl hx hy hs.h hn hp hl h1) hr hB fun _ _ => next
theorem dTu {B : World → Prop} (F' : List Nat) (next : D X ops F' (HS w0 M As) fuel listed k L (HS w0 M As)) (hf : F.any (fun f => listed.getD f false) = true := by kernel_rfl) : D X ops F B fuel listed k L (HS w0 M As) := d_turn F' hf next
end
theorem aS {p q : Prop} (hq : q) (h : q → p := by (intro hq; first | refine s_seq ?_ | refine s_region ?_ | refine o_nil ?_ | refine s_skip ?_ | refine s_block ?_ | refine s_blk ?_ | refine oP ?_ | refine oFa ?_ | refine oLs ?_ | refine oLd ?_ | refine oLn ?_); exact hq) : p := h hq
end Gx
namespace Go.Proofs
open Go Go.RowKit Gx
instance : TSe Tryz.prog 22 102 := ⟨Tryz.underlying22⟩
instance : TSe Tryz.prog 30 3 := ⟨Tryz.underlying30⟩
instance : TSe Tryz.prog 77 26 := ⟨Tryz.underlying77⟩
instance : TSe Tryz.prog 82 85 := ⟨Tryz.underlying82⟩
instance : TSe Tryz.prog 150 5 := ⟨Tryz.underlying150⟩
instance : TSe Tryz.prog 165 31 := ⟨Tryz.underlying165⟩
instance : TSe Tryz.prog 199 77 := ⟨Tryz.underlying199⟩
instance : TSe Tryz.prog 200 30 := ⟨Tryz.underlying200⟩
end Go.Proofs
namespace Go.Proofs
open Go Go.RowKit Gx
set_option linter.unusedVariables false
set_option linter.unusedSimpArgs false
attribute [local irreducible] Go.Calls Gx.S Gx.O Gx.D Gx.OpP Gx.OpQ Gx.OpH
set_option maxRecDepth 20000
theorem sl_165 : tsl Tryz.prog 165 = some (31, 1, 8) := by kernel_rfl
theorem sz_31 : tsz Tryz.prog 31 = some (1, false) := by kernel_rfl
theorem fn_93 : isFn Tryz.prog 93 = true := by kernel_rfl
theorem fn_81 : isFn Tryz.prog 81 = true := by kernel_rfl
theorem fn_74 : isFn Tryz.prog 74 = true := by kernel_rfl
theorem zr_31 : tzero Tryz.prog 31 = some [.int .i64 0] := by kernel_rfl
theorem fn_75 : isFn Tryz.prog 75 = true := by kernel_rfl
theorem fn_46 : isFn Tryz.prog 46 = true := by kernel_rfl
theorem c93 (w : World) (n lo hi : Int) : Calls Tryz.prog 93 #[.int .i64 n, .int .i64 lo, .int .i64 hi] w fun en w' => en = .returned (.bool (decide (lo ≤ n) && decide (n ≤ hi))) ∧ Below w.heap.size w w' := by
 refine enter (args := [_, _, _]) Tryz.func93 Tryz.ntmps93 rfl rfl (HS.refl w []) ?_
 iterate 10 refine aS ?_
 refine o_and 4 10 14 _ _ rfl
  (by
   intro hg1
   have hs2 := hg1; try simp only [decide_eq_true_eq] at hs2
   refine oOn 10 hg1 ?_
   refine aS ?_
   refine oOn 10 hg1 ?_
   refine aS ?_
   refine oOn 10 hg1 ?_
   refine aS ?_
   refine o_p (p_pickt rfl rfl hg1 rfl) rfl ?_
   refine aS ?_
   exact oJn 4 14)
  (by
   intro hg3
   have hs4 := hg3; try simp only [decide_eq_false_iff_not] at hs4
   refine oOf 10 hg3 ?_
   refine oOf 10 hg3 ?_
   refine oOf 10 hg3 ?_
   refine o_p (p_pickf rfl rfl hg3 rfl) rfl ?_
   refine aS ?_
   exact oJn 4 14) ?_
 iterate 2 refine aS ?_
 exact s_retv (rs := [.tmp 6]) rfl (.tmp rfl (.nil)) (fun w' h' => ⟨rfl, h'.below⟩)
theorem c46 (w : World) (n lo hi : Int) : Calls Tryz.prog 46 #[.int .i64 n, .int .i64 lo, .int .i64 hi] w fun en w' => en = .returned (.bool (decide (lo ≤ n) && decide (n ≤ hi))) ∧ Below w.heap.size w w' := by
 refine enter (args := [_, _, _]) Tryz.func46 Tryz.ntmps46 rfl rfl (HS.refl w []) ?_
 iterate 10 refine aS ?_
 refine o_and 4 10 14 _ _ rfl
  (by
   intro hg1
   have hs2 := hg1; try simp only [decide_eq_true_eq] at hs2
   refine oOn 10 hg1 ?_
   refine aS ?_
   refine oOn 10 hg1 ?_
   refine aS ?_
   refine oOn 10 hg1 ?_
   refine aS ?_
   refine o_p (p_pickt rfl rfl hg1 rfl) rfl ?_
   refine aS ?_
   exact oJn 4 14)
  (by
   intro hg3
   have hs4 := hg3; try simp only [decide_eq_false_iff_not] at hs4
   refine oOf 10 hg3 ?_
   refine oOf 10 hg3 ?_
   refine oOf 10 hg3 ?_
   refine o_p (p_pickf rfl rfl hg3 rfl) rfl ?_
   refine aS ?_
   exact oJn 4 14) ?_
 iterate 2 refine aS ?_
 exact s_retv (rs := [.tmp 6]) rfl (.tmp rfl (.nil)) (fun w' h' => ⟨rfl, h'.below⟩)
theorem c81 (w : World) (ok : Bool) (e : Int) : Calls Tryz.prog 81 #[.bool ok, .int .i64 e] w fun en w' => en = .returned (.int .i64 (cond ok 0 e)) ∧ Below w.heap.size w w' := by
 refine enter (args := [_, _]) Tryz.func81 Tryz.ntmps81 rfl rfl (HS.refl w []) ?_
 iterate 9 refine aS ?_
 refine s_cond rfl (fun h1 => ?_) fun h1 => ?_
 ·skip
  iterate 4 refine aS ?_
  exact s_retv (rs := [.tmp 4]) rfl (.tmp rfl (.nil)) (fun w' h' => ⟨by simp_all [retV], h'.below⟩)
 skip
 iterate 6 refine aS ?_
 exact s_retv (rs := [.tmp 4]) rfl (.tmp rfl (.nil)) (fun w' h' => ⟨by simp_all [retV], h'.below⟩)
theorem c75 (w : World) (a : Option Addr) (cap : Nat) (es : List Int) (hs : Sl w [] a 1 es.length (fun i => [.int .i64 (es.getD i 0)])) (hm : es.length ≤ 1000) : Calls Tryz.prog 75 #[.slice a es.length cap] w fun en w' => en = .returned (.int .i64 (firstI es)) ∧ Below w.heap.size w w' := by
 refine enter (args := [_]) Tryz.func75 Tryz.ntmps75 rfl rfl (HS.refl w []) ?_
 iterate 12 refine aS ?_
 refine s_loopI (α := Nat) [2, 4, 7, 8, 9, 10, 11, 12, 13, 14] (fun k => [(7, .int .i64 (k : Int))]) (fun _ => _) (fun k => k ≤ es.length ∧ firstI es = firstI (es.drop k)) (fun k => es.length - k) 0 ⟨by omega, rfl⟩ aSx (fun w h => h) (fun k hk => ?_)
 obtain ⟨hk1, hk2⟩ := hk
 iterate 5 refine aS ?_
 refine s_cond rfl (fun h1 => ?_) fun h1 => ?_
 ·try simp only [decide_eq_true_eq] at h1
  iterate 5 refine aS ?_
  refine o_p (p_indexAddr rfl rfl rfl sl_165 _ rfl (by omega) (hs.some (by omega))) rfl ?_
  refine o_q (q_load_old rfl rfl sz_31 (hs.rd (i := k) (j := 0) (by omega) rfl)) rfl ?_
  iterate 7 refine aS ?_
  refine s_cond rfl (fun h2 => ?_) fun h2 => ?_
  ·try simp only [Bool.not_eq_true', decide_eq_false_iff_not] at h2
   iterate 5 refine aS ?_
   exact s_retv (rs := [.tmp 2]) rfl (.tmp rfl (.nil)) (fun w' h' => ⟨by simp only [retV]; rw [hk2, firstI_drop (by omega), if_neg (by assumption)], h'.below⟩)
  try simp only [Bool.not_eq_false', decide_eq_true_eq] at h2
  iterate 4 refine aS ?_
  try refine oWr ?_
  iterate 2 refine aS ?_
  exact s_backI (k+1) (by omega) ⟨by omega, by rw [hk2, firstI_drop (by omega), if_pos (by assumption)]⟩ aSx (fun w h => h)
 try simp only [decide_eq_false_iff_not] at h1
 refine s_exit_to rfl ?_
 iterate 4 refine aS ?_
 exact s_retv (rs := [.tmp 2]) rfl (.tmp rfl (.nil)) (fun w' h' => ⟨by simp only [retV]; rw [hk2, firstI_end (by omega)], h'.below⟩)
theorem f75 {w0 w : World} {M : List Nat} {As As' : List HA} {b cap n : Nat} {t : TypeId} {tot : Nat} {cs : List Value} (h : HS w0 M As w) (hp : Pick As (.blk b t tot cs) As') (hc : cs.all isI64 = true) (hn : cs.length = n) (hl : n ≤ 1000) :
    Calls Tryz.prog 75 #[.slice (some ⟨b, 0, none⟩) n cap] w fun en w' => en = .returned (.int .i64 (firstV cs)) ∧ Below w.heap.size w w' := by
  subst hn
  have := c75 w (some ⟨b, 0, none⟩) cap (cs.map Go.RowKit.intOf) (by simpa using h.sl_ints hp hc) (by simpa using hl)
  rw [firstV_eq hc] at this
  simpa using this
theorem c74 (w : World) (n : Int) : Calls Tryz.prog 74 #[.int .i64 n] w fun en w' => en = .returned (.int .i64 (colE12 n)) ∧ Below w.heap.size w w' := by
 refine enter (args := [_]) Tryz.func74 Tryz.ntmps74 rfl rfl (HS.refl w []) ?_
 iterate 7 refine aS ?_
 refine o_q (q_call rfl fn_93 rfl (fun w1 h1 => c93 w1 _ _ _)) rfl ?_
 refine o_q (q_call rfl fn_81 rfl (fun w1 h1 => c81 w1 _ _)) rfl ?_
 iterate 2 refine aS ?_
 exact s_retv (rs := [.tmp 2]) rfl (.tmp rfl (.nil)) (fun w' h' => ⟨by simp only [retV, colE12, cond_eq_ite, Bool.and_eq_true, decide_eq_true_eq], h'.below⟩)
theorem firstW2 {a b : Int} : firstV [.int .i64 a, .int .i64 b] = if a = 0 then b else a := by
  simp only [firstV]
  grind
theorem c78 (w : World) (co mo rm : Int) : Calls Tryz.prog 78 #[.int .i64 co, .int .i64 mo, .int .i64 rm] w fun en w' => en = .returned (.int .i64 (if colE12 co = 0 then sizE mo rm else colE12 co)) ∧ Below w.heap.size w w' := by
 refine enter (args := [_, _, _]) Tryz.func78 Tryz.ntmps78 rfl rfl (HS.refl w []) ?_
 iterate 7 refine aS ?_
 refine o_q (q_call rfl fn_93 rfl (fun w1 h1 => c93 w1 _ _ _)) rfl ?_
 refine aS ?_
 refine o_and 6 10 16 _ _ rfl
  (by
   intro hg1
   have hs2 := hg1; try simp only [Bool.and_eq_true, decide_eq_true_eq] at hs2
   refine oOn 10 hg1 ?_
   refine aS ?_
   refine oOn 10 hg1 ?_
   refine aS ?_
   refine oOn 10 hg1 ?_
   refine o_p (p_quo_nn rfl rfl rfl (by omega) (by omega) (by omega)) rfl ?_
   refine oOn 10 hg1 ?_
   refine aS ?_
   refine oOn 10 hg1 ?_
   refine o_q (q_call rfl fn_93 rfl (fun w1 h1 => c93 w1 _ _ _)) rfl ?_
   refine o_p (p_pickt rfl rfl hg1 rfl) rfl ?_
   refine aS ?_
   exact oJn 6 16)
  (by
   intro hg3
   have hs4 := hg3; try simp only [Bool.and_eq_false_iff, decide_eq_false_iff_not] at hs4
   refine oOf 10 hg3 ?_
   refine oOf 10 hg3 ?_
   refine oOf 10 hg3 ?_
   refine oOf 10 hg3 ?_
   refine oOf 10 hg3 ?_
   refine o_p (p_pickf rfl rfl hg3 rfl) rfl ?_
   refine aS ?_
   exact oJn 6 16) ?_
 iterate 5 refine aS ?_
 refine o_q (q_call rfl fn_74 rfl (fun w1 h1 => c74 w1 _)) rfl ?_
 refine aS ?_
 refine o_q (q_call rfl fn_81 rfl (fun w1 h1 => c81 w1 _ _)) rfl ?_
 refine o_h (h_buildSlice (cs := [_, _]) rfl rfl sl_165 zr_31 rfl rfl rfl) rfl (fun b5 _ => ?_)
 refine o_q (q_call rfl fn_75 rfl (fun w1 h1 => f75 h1 aPk (by rfl) (by rfl) (by decide))) rfl ?_
 iterate 2 refine aS ?_
 exact s_retv (rs := [.tmp 6]) rfl (.tmp rfl (.nil)) (fun w' h' => ⟨by simp only [retV]; rw [firstW2]; simp only [sizE, cond_eq_ite, Bool.and_eq_true, decide_eq_true_eq], h'.below⟩)
theorem c30 (w : World) (n : Int) : Calls Tryz.prog 30 #[.int .i64 n] w fun en w' => en = .returned (.int .i64 (colE12 n)) ∧ Below w.heap.size w w' := by
 refine enter (args := [_]) Tryz.func30 Tryz.ntmps30 rfl rfl (HS.refl w []) ?_
 iterate 8 refine aS ?_
 refine o_q (q_call rfl fn_46 rfl (fun w1 h1 => c46 w1 _ _ _)) rfl ?_
 iterate 2 refine aS ?_
 refine s_cond rfl (fun h1 => ?_) fun h1 => ?_
 ·try simp only [Bool.not_eq_true', Bool.and_eq_false_iff, decide_eq_false_iff_not] at h1
  have hz : colE12 n = 15 := by have hq := h1; unfold colE12; rw [if_neg (by first | omega | (simp at hq; omega))]
  iterate 4 refine aS ?_
  exact s_retv (rs := [.tmp 2]) rfl (.tmp rfl (.nil)) (fun w' h' => ⟨by rw [hz]; rfl, h'.below⟩)
 try simp only [Bool.not_eq_false', Bool.and_eq_true, decide_eq_true_eq] at h1
 have hz : colE12 n = 0 := by have hq := h1; unfold colE12; rw [if_pos (by first | omega | (simp at hq; omega))]
 iterate 5 refine aS ?_
 exact s_retv (rs := [.tmp 2]) rfl (.tmp rfl (.nil)) (fun w' h' => ⟨by rw [hz]; rfl, h'.below⟩)
theorem c31 (w : World) (mo rm : Int) : Calls Tryz.prog 31 #[.int .i64 mo, .int .i64 rm] w fun en w' => en = .returned (.int .i64 (sizE mo rm)) ∧ Below w.heap.size w w' := by
 refine enter (args := [_, _]) Tryz.func31 Tryz.ntmps31 rfl rfl (HS.refl w []) ?_
 iterate 8 refine aS ?_
 refine o_q (q_call rfl fn_46 rfl (fun w1 h1 => c46 w1 _ _ _)) rfl ?_
 iterate 2 refine aS ?_
 refine o_or 7 8 15 _ _ rfl
  (by
   intro hg1
   have hs2 := hg1; try simp only [Bool.not_eq_false', Bool.and_eq_true, decide_eq_true_eq] at hs2
   refine oOn 8 hg1 ?_
   refine aS ?_
   refine oOn 8 hg1 ?_
   refine aS ?_
   refine oOn 8 hg1 ?_
   refine o_p (p_quo_nn rfl rfl rfl (by omega) (by omega) (by omega)) rfl ?_
   refine oOn 8 hg1 ?_
   refine aS ?_
   refine oOn 8 hg1 ?_
   refine o_q (q_call rfl fn_46 rfl (fun w1 h1 => c46 w1 _ _ _)) rfl ?_
   refine oOn 8 hg1 ?_
   refine aS ?_
   refine o_p (p_pickf rfl rfl hg1 rfl) rfl ?_
   refine aS ?_
   exact oJn 7 15)
  (by
   intro hg3
   have hs4 := hg3; try simp only [Bool.not_eq_true', Bool.and_eq_false_iff, decide_eq_false_iff_not] at hs4
   refine oOf 8 hg3 ?_
   refine oOf 8 hg3 ?_
   refine oOf 8 hg3 ?_
   refine oOf 8 hg3 ?_
   refine oOf 8 hg3 ?_
   refine oOf 8 hg3 ?_
   refine o_p (p_pickt rfl rfl hg3 rfl) rfl ?_
   refine aS ?_
   exact oJn 7 15) ?_
 refine aS ?_
 refine s_cond rfl (fun h5 => ?_) fun h5 => ?_
 ·try simp only [Bool.or_eq_true, Bool.not_eq_true', Bool.and_eq_false_iff, decide_eq_false_iff_not] at h5
  have hz : sizE mo rm = 2 := by have hq := h5; unfold sizE; rw [if_neg (by first | omega | (simp at hq; omega))]
  iterate 4 refine aS ?_
  exact s_retv (rs := [.tmp 4]) rfl (.tmp rfl (.nil)) (fun w' h' => ⟨by rw [hz]; rfl, h'.below⟩)
 try simp only [Bool.or_eq_false_iff, Bool.not_eq_false', Bool.and_eq_true, decide_eq_true_eq] at h5
 have hz : sizE mo rm = 0 := by have hq := h5; unfold sizE; rw [if_pos (by first | omega | (simp at hq; omega))]
 iterate 5 refine aS ?_
 exact s_retv (rs := [.tmp 4]) rfl (.tmp rfl (.nil)) (fun w' h' => ⟨by rw [hz]; rfl, h'.below⟩)
end Go.Proofs
namespace Go.Proofs
open Go Go.RowKit Gx
set_option linter.unusedVariables false
set_option linter.unusedSimpArgs false
theorem rw_of {α : Type} [Inhabited α] {vals : α → List Value} {sz n : Nat} {W : World} {a : Option Addr} {cell : Nat → List Value} {Q : α → Prop} (hs : Sl W [] a sz n cell) (hr : ∀ i, i < n → ∃ x, cell i = vals x ∧ Q x) : ∃ l : List α, n = l.length ∧ Rw vals sz W [] a l ∧ (∀ x ∈ l, Q x) ∧ ∀ i, i < n → cell i = vals (nth l i) := by
  have hr2 : ∀ i, ∃ x, i < n → cell i = vals x ∧ Q x := fun i => by
    by_cases hi : i < n
    · obtain ⟨x, h⟩ := hr i hi
      exact ⟨x, fun _ => h⟩
    · exact ⟨default, fun h => absurd h hi⟩
  obtain ⟨f, hf⟩ := Classical.axiomOfChoice hr2
  have hg : ∀ i, i < n → nth ((List.range n).map f) i = f i := fun i hi => by
    simp only [nth, List.getD_eq_getElem?_getD, List.getElem?_map, List.getElem?_range hi, Option.map_some, Option.getD_some]
  refine ⟨(List.range n).map f, by simp, ⟨fun hn => ?_⟩, fun x hx => ?_, fun i hi => ?_⟩
  · rw [List.length_map, List.length_range] at hn
    obtain ⟨b, o, e, h2⟩ := hs.at_ hn
    refine ⟨b, o, e, fun i hi => ?_⟩
    rw [List.length_map, List.length_range] at hi
    have h3 := h2 i hi
    rw [(hf i hi).1] at h3
    rw [hg i hi]
    exact h3
  · obtain ⟨i, hi, rfl⟩ := List.mem_map.1 hx
    exact (hf i (List.mem_range.1 hi)).2
  · rw [hg i hi]
    exact (hf i hi).1
theorem zcells3 : Tryz.prog.cellsOf 3 = 1 := by kernel_rfl
theorem zcells9 : Tryz.prog.cellsOf 9 = 1 := by kernel_rfl
theorem zcells26 : Tryz.prog.cellsOf 26 = 2 := by kernel_rfl
section
variable {W : World} {d : Nat}
theorem ln2 {cs : List Value} (h : cs.length = 2) : ∃ x0 x1, cs = [x0, x1] := by
  match cs, h with
  | [x0, x1], _ => exact ⟨x0, x1, rfl⟩
theorem ln3 {cs : List Value} (h : cs.length = 3) : ∃ x0 x1 x2, cs = [x0, x1, x2] := by
  match cs, h with
  | [x0, x1, x2], _ => exact ⟨x0, x1, x2, rfl⟩
theorem int_of {x : Value} (h : okT Tryz.prog W d 3 [x]) : ∃ n, x = .int .i64 n := by
  obtain ⟨n, e, _⟩ := okT_int h Tryz.underlying3
  cases e
  exact ⟨n, rfl⟩
theorem str_of {x : Value} (h : okT Tryz.prog W d 9 [x]) : ∃ l : List UInt8, x = .string (bs l) ∧ l.length ≤ maxLen := by
  obtain ⟨l, e, g⟩ := okT_str h Tryz.underlying9
  cases e
  exact ⟨l, rfl, g⟩
theorem ent_of {cs : List Value} (h : okT Tryz.prog W d 26 cs) : ∃ x : TEnt, cs = x.vals ∧ True := by
  obtain ⟨d2, l, o⟩ := okT_st h Tryz.underlying26
  rw [zcells26] at l
  obtain ⟨x0, x1, rfl⟩ := ln2 l
  simp only [List.mem_cons, List.mem_nil_iff, or_false, forall_eq_or_imp, forall_eq] at o
  rw [zcells9] at o
  obtain ⟨s, rfl, hs⟩ := str_of (x := x0) o.1
  obtain ⟨t, rfl, ht⟩ := str_of (x := x1) o.2
  exact ⟨⟨s, t⟩, rfl, trivial⟩
end
end Go.Proofs
namespace Gx
set_option linter.unusedSimpArgs false
set_option linter.unusedVariables false
set_option linter.unusedSectionVars false
open Go Go.RowKit
section
variable {S : Type} (st : S → Vis → S) (er : S → Vis → Int × Int)
def runV : S → List Vis → (Int × Int) × S
  | s, [] => ((0, 0), s)
  | s, v :: vs => if (er s v).2 = 0 then runV (st s v) vs else (er s v, st s v)
theorem runV_append : ∀ (A B : List Vis) (s : S), runV st er s (A ++ B) = if (runV st er s A).1.2 = 0 then runV st er (runV st er s A).2 B else runV st er s A
  | [], B, s => rfl
  | v :: A, B, s => by
    rw [List.cons_append, runV, runV]
    by_cases h : (er s v).2 = 0
    · rw [if_pos h, if_pos h]
      exact runV_append A B _
    · rw [if_neg h, if_neg h, if_neg h]
theorem runV_err {A B : List Vis} {s : S} (h : ¬ (runV st er s A).1.2 = 0) : runV st er s (A ++ B) = runV st er s A := by rw [runV_append, if_neg h]
theorem runV_ok {A B : List Vis} {s : S} (h : (runV st er s A).1.2 = 0) : runV st er s (A ++ B) = runV st er (runV st er s A).2 B := by rw [runV_append, if_pos h]
theorem runV_0 : ∀ {A : List Vis} {s : S}, (runV st er s A).1.2 = 0 → (runV st er s A).1 = (0, 0)
  | [], s, _ => rfl
  | v :: A, s, h => by
    rw [runV] at h ⊢
    split at h
    · rename_i h1
      rw [if_pos h1]
      exact runV_0 h
    · rename_i h1
      exact absurd h h1
end
def kidV (ns : List Nd) (v : Vis) (k : Nat) : Vis := ⟨((nth ns v.i).cs.getD k 0).toNat, v.d + 1, loK (nth ns v.i).es k v.lo, hiK (nth ns v.i).es k v.hi⟩
def visK (ns : List Nd) (f : Nat) (v : Vis) (k : Nat) : List Vis := v :: (List.range k).flatMap fun k => vis ns f (kidV ns v k)
theorem visK_0 (ns : List Nd) (f : Nat) (v : Vis) : visK ns f v 0 = [v] := rfl
theorem visK_succ (ns : List Nd) (f : Nat) (v : Vis) (k : Nat) : visK ns f v (k + 1) = visK ns f v k ++ vis ns f (kidV ns v k) := by
  unfold visK
  rw [List.range_succ, List.flatMap_append, List.flatMap_singleton]
  rfl
theorem visK_all (ns : List Nd) (f : Nat) (v : Vis) : vis ns (f + 1) v = visK ns f v (nth ns v.i).cs.length := rfl
theorem visK_more (ns : List Nd) (f : Nat) (v : Vis) {k m : Nat} (h : k ≤ m) : ∃ B, visK ns f v m = visK ns f v k ++ B := by
  induction m with
  | zero =>
    obtain rfl : k = 0 := by omega
    exact ⟨[], by rw [List.append_nil]⟩
  | succ m ih =>
    rcases Nat.lt_or_ge m k with h1 | h1
    · obtain rfl : k = m + 1 := by omega
      exact ⟨[], by rw [List.append_nil]⟩
    · obtain ⟨B, e⟩ := ih h1
      exact ⟨B ++ vis ns f (kidV ns v m), by rw [visK_succ, e, List.append_assoc]⟩
theorem way_kid {ns : List Nd} {i : Nat} {P : List Nat} (h : Way ns (i :: P)) (hi : i < ns.length) {k : Nat} (hk : k < (nth ns i).cs.length) (hc : 0 ≤ (nth ns i).cs.getD k 0) : Way ns (((nth ns i).cs.getD k 0).toNat :: i :: P) := by
  refine ⟨⟨?_, hi⟩, h⟩
  rw [Int.toNat_of_nonneg hc, List.getD_eq_getElem?_getD, List.getElem?_eq_getElem hk]
  exact List.getElem_mem hk
theorem kid_in {co : Int} {ns : List Nd} (ht : TOk co ns) {i k : Nat} (hi : i < ns.length) (hk : k < (nth ns i).cs.length) : 1 ≤ (nth ns i).cs.getD k 0 ∧ (nth ns i).cs.getD k 0 ≤ (ns.length : Int) - 1 ∧ (nth ns ((nth ns i).cs.getD k 0).toNat).us = true := by
  have hm : (nth ns i).cs.getD k 0 ∈ (nth ns i).cs := by
    rw [List.getD_eq_getElem?_getD, List.getElem?_eq_getElem hk]
    exact List.getElem_mem hk
  have h := ht.kid i hi _ hm
  exact ⟨h.1.1, h.1.2, h.2⟩
def pthN (co : Int) (ns : List Nd) (key : List UInt8) : Nat → Nat → List Nat × Nat × Bool
  | 0, _ => ([], 0, false)
  | f + 1, i => if fnd co (nth ns i).es key = true ∨ (nth ns i).cs.length = 0 then ([i], plc co (nth ns i).es key, fnd co (nth ns i).es key)
      else (i :: (pthN co ns key f ((nth ns i).cs.getD (plc co (nth ns i).es key) 0).toNat).1, (pthN co ns key f ((nth ns i).cs.getD (plc co (nth ns i).es key) 0).toNat).2)
def pathN (co : Int) (ns : List Nd) (key : List UInt8) : List Nat × Nat × Bool := pthN co ns key ns.length 0
structure Bd (ns : List Nd) : Prop where
  len : ns.length ≤ 1000
  es : ∀ i, i < ns.length → (nth ns i).es.length ≤ 1000
  cs : ∀ i, i < ns.length → (nth ns i).cs.length ≤ 1000
theorem pln_len (L : List LNd) : (pln L).length = L.length := by simp
theorem pln_nth {L : List LNd} {i : Nat} (h : i < L.length) : nth (pln L) i = (nth L i).pl := by
  apply nth_eq
  rw [List.getElem?_map, nth_get h]
  rfl
theorem pln_set (L : List LNd) (i : Nat) (n : LNd) : pln (L.set i n) = (pln L).set i n.pl := by simp [List.map_set]
theorem pln_app (L M : List LNd) : pln (L ++ M) = pln L ++ pln M := by simp
def PtrK (w : World) (M : List Nat) (p : Option Addr) (o : Option (List UInt8)) : Prop := match o with
  | none => p = none
  | some k => ∃ b off, p = some ⟨b, off, none⟩ ∧ Rd w M b off (.string (bs k))
theorem PtrK.keep {w w' : World} {M : List Nat} {As : List HA} {p : Option Addr} {o : Option (List UInt8)} (h : PtrK w M p o) (hs : HS w M As w') : PtrK w' (fps As) p o := by
  cases o with
  | none => exact h
  | some k =>
    obtain ⟨b, off, e, hr⟩ := h
    exact ⟨b, off, e, hs.keep hr⟩
theorem PtrK.mono {w : World} {M M' : List Nat} {p : Option Addr} {o : Option (List UInt8)} (h : PtrK w M p o) (hM : ∀ b ∈ M', b ∈ M) : PtrK w M' p o := by
  cases o with
  | none => exact h
  | some k =>
    obtain ⟨b, off, e, hr⟩ := h
    exact ⟨b, off, e, hr.mono hM⟩
theorem PtrK.of_some {w : World} {M : List Nat} {p : Option Addr} {o : Option (List UInt8)} (h : PtrK w M p o) (hp : p.isSome = true) : ∃ k b off, o = some k ∧ p = some ⟨b, off, none⟩ ∧ Rd w M b off (.string (bs k)) := by
  cases o with
  | none =>
    have : p = none := h
    subst this
    cases hp
  | some k =>
    obtain ⟨b, off, e, hr⟩ := h
    exact ⟨k, b, off, rfl, e, hr⟩
theorem PtrK.of_none {w : World} {M : List Nat} {p : Option Addr} {o : Option (List UInt8)} (h : PtrK w M p o) (hp : p.isSome = false) : o = none := by
  cases o with
  | none => rfl
  | some k =>
    obtain ⟨b, off, e, hr⟩ := h
    subst e
    cases hp
theorem fps_pick {As Cs Ds : List HA} (h : Picks As Cs Ds) : ∀ b ∈ fps Cs, b ∈ fps As := fun b hb => by
  obtain ⟨A, hA, hb⟩ := List.mem_flatMap.1 hb
  exact List.mem_flatMap.2 ⟨A, (List.Perm.mem_iff h).2 (List.mem_append_left _ hA), hb⟩
theorem HS.rd_blkF {w0 w : World} {M : List Nat} {As Cs Ds Es : List HA} {b i t tot : Nat} {cs : List Value} {v : Value} (h : HS w0 M As w) (hp : Picks As Cs Ds) (hp2 : Pick Ds (.blk b t tot cs) Es) (hv : cs[i]? = some v) : Rd w (fps Cs) b i v := by
  have h1 : HS w0 M (Cs ++ Ds) w := h.perm hp
  refine ⟨(h1.ok _ (List.mem_append_right _ hp2.mem) |> BlkOk.lt), fun hb => ?_, BlkOk.cell (h1.ok _ (List.mem_append_right _ hp2.mem)) hv⟩
  obtain ⟨A, hA, hb⟩ := List.mem_flatMap.1 hb
  exact (List.pairwise_append.1 h1.sep).2.2 A hA _ hp2.mem b hb (List.mem_singleton.2 rfl)
section
variable (t : Tre) (i : Nat)
def nE1 : Int := if ((nth t.ns i).es.length : Int) ≤ mostN t.mo t.rm i then if (nth t.ns i).cs.length = 0 ∨ (nth t.ns i).cs.length = (nth t.ns i).es.length + 1 then 0 else 10 else 16
def nE2 : Int := if nE1 t i = 0 then entsE t.co (nth t.ns i).es else nE1 t i
def nE3 (seen : List Int) : Int × List Int := if nE2 t i = 0 then kidsE t.ns (nth t.ns i).cs seen else (nE2 t i, seen)
def nE4 (seen : List Int) : Int := if (nE3 t i seen).1 = 0 then ordsE t.co (nth t.ns i).es else (nE3 t i seen).1
theorem nodE_used {seen : List Int} (h : (nth t.ns i).us = true) : nodE t i seen = (nE4 t i seen, (nE3 t i seen).2) := by
  unfold nodE nE4 nE3 nE2 nE1
  simp only []
  rw [if_pos h]
  by_cases h1 : ((nth t.ns i).es.length : Int) ≤ mostN t.mo t.rm i
  · simp only [if_pos h1]
    by_cases h2 : (nth t.ns i).cs.length = 0 ∨ (nth t.ns i).cs.length = (nth t.ns i).es.length + 1
    · simp only [if_pos h2, if_true]
      by_cases h3 : entsE t.co (nth t.ns i).es = 0
      · simp only [if_pos h3]
        by_cases h4 : (kidsE t.ns (nth t.ns i).cs seen).1 = 0
        · simp only [if_pos h4]
        · simp only [if_neg h4]
      · simp only [if_neg h3]
    · simp only [if_neg h2, show ¬ ((10 : Int) = 0) by decide, if_false]
  · simp only [if_neg h1, show ¬ ((16 : Int) = 0) by decide, if_false]
theorem nE2_0 (h : nE2 t i = 0) : entsE t.co (nth t.ns i).es = 0 := by
  unfold nE2 at h
  split at h
  · exact h
  · rename_i h1
    exact absurd h h1
theorem nE3_0 {seen : List Int} (h : (nE3 t i seen).1 = 0) : nE2 t i = 0 := by
  unfold nE3 at h
  split at h
  · assumption
  · exact h
end
def KidOk (ns : List Nd) (c : Int) : Prop := (1 ≤ c ∧ c ≤ (ns.length : Int) - 1) ∧ (nth ns c.toNat).us = true
instance (ns : List Nd) (c : Int) : Decidable (KidOk ns c) := inferInstanceAs (Decidable (_ ∧ _))
def kidE1 (ns : List Nd) (c : Int) (seen : List Int) : Int := if KidOk ns c then if c ∈ seen then 23 else 0 else 6
def kidS1 (ns : List Nd) (c : Int) (seen : List Int) : List Int := if KidOk ns c then c :: seen else seen
theorem kidsE_cons (ns : List Nd) (c : Int) (cs seen : List Int) : kidsE ns (c :: cs) seen = if kidE1 ns c seen = 0 then kidsE ns cs (kidS1 ns c seen) else (kidE1 ns c seen, kidS1 ns c seen) := by
  unfold kidE1 kidS1
  rw [kidsE]
  by_cases h : KidOk ns c
  · rw [if_pos h, if_pos h, if_pos (show (1 ≤ c ∧ c ≤ (ns.length : Int) - 1) ∧ (nth ns c.toNat).us = true from h)]
    by_cases h2 : c ∈ seen
    · rw [if_pos h2, if_pos h2]
      rfl
    · rw [if_neg h2, if_neg h2]
      rfl
  · rw [if_neg h, if_neg h, if_neg (show ¬ ((1 ≤ c ∧ c ≤ (ns.length : Int) - 1) ∧ (nth ns c.toNat).us = true) from h)]
    rfl
theorem kids_drop {cs : List Int} {k : Nat} (h : k < cs.length) : cs.drop k = cs.getD k 0 :: cs.drop (k + 1) := by
  rw [List.drop_eq_getElem_cons h, List.getD_eq_getElem?_getD, List.getElem?_eq_getElem h]
  rfl
theorem ents_get {co : Int} {es : List TEnt} {k : Nat} (h : k < es.length) : (es.map (entE co)).getD k 0 = entE co (nth es k) := by
  rw [getD_map (d := default) h]
  rfl
theorem ords_get {co : Int} {es : List TEnt} {k : Nat} (h : k < es.length) : ((List.range es.length).map (ordE co es)).getD k 0 = ordE co es k := by
  rw [getD_map (d := 0) (by simpa using h), List.getD_eq_getElem?_getD, List.getElem?_range h]
  rfl
theorem entE_key {co : Int} {x : TEnt} (h : entE co x = 0) : keyOk co x.key = true := by
  unfold entE at h
  split at h
  · rename_i h1
    unfold keyE at h1
    split at h1
    · assumption
    · cases h1
  · cases h
theorem keyOk_len {co : Int} {k : List UInt8} (h : keyOk co k = true) : 1 ≤ k.length ∧ k.length ≤ 40 := by
  unfold keyOk at h
  split at h
  · have := of_decide_eq_true h
    omega
  · split at h
    · have := of_decide_eq_true h
      omega
    · split at h
      · rw [Bool.and_eq_true] at h
        have := of_decide_eq_true h.1
        omega
      · rw [Bool.and_eq_true] at h
        have := of_decide_eq_true h.1
        omega
theorem HS.thenF {w w1 w2 : World} {M : List Nat} {As Bs : List HA} (h : HS w M As w1) (hc : HS w1 (fps As) Bs w2) : HS w M Bs w2 := by
  have h1 : HS w M (As ++ []) w1 := by rw [List.append_nil]; exact h
  have h2 := h1.callM (Mc := fps As) (fun b hb => by obtain ⟨A, hA, hb⟩ := List.mem_flatMap.1 hb; exact ⟨A, hA, hb⟩) hc
  rw [List.append_nil] at h2
  exact h2
def hasC (cs : List Int) (n : Int) : List Bool := cs.map fun c => decide (n = c)
theorem hasC_len (cs : List Int) (n : Int) : (hasC cs n).length = cs.length := by simp [hasC]
theorem hasC_get {cs : List Int} {n : Int} {k : Nat} (h : k < cs.length) : (hasC cs n).getD k false = decide (n = cs.getD k 0) := by
  unfold hasC
  rw [getD_map (d := 0) h]
theorem hasC_any (cs : List Int) (n : Int) : (hasC cs n).any id = decide (n ∈ cs) := by
  unfold hasC
  rw [List.any_map]
  by_cases h : n ∈ cs
  · rw [decide_eq_true h, List.any_eq_true]
    exact ⟨n, h, by simp⟩
  · rw [decide_eq_false h, List.any_eq_false]
    intro x hx
    simp only [Function.comp, id, decide_eq_true_eq]
    intro e
    exact h (e ▸ hx)
def gapB (t : Tre) (v : Vis) : Bool := decide (0 < v.i) && (decide (((nth t.ns v.i).es.length : Int) < t.mo / 2) || ((decide ((nth t.ns 0).es.length = 0) && decide ((v.i : Int) ∈ (nth t.ns 0).cs)) && decide (((nth t.ns v.i).es.length : Int) ≤ t.rm)))
def outB (t : Tre) (v : Vis) (x : TEnt) : Bool := (v.lo.any fun b => decide (0 ≤ cmpK t.co b x.key)) || (v.hi.any fun b => decide (0 ≤ cmpK t.co x.key b))
def outsB (t : Tre) (v : Vis) : Bool := (nth t.ns v.i).es.any (outB t v)
def erV (t : Tre) (s : Int) (v : Vis) : Int × Int := ((v.i : Int), if gapB t v = true then 14 else if outsB t v = true then 9 else if (nth t.ns v.i).cs.length = 0 then (if (if s = 0 then v.d else s) = v.d then 0 else 22) else 0)
def stV (t : Tre) (s : Int) (v : Vis) : Int := if gapB t v = true then s else if outsB t v = true then s else if (nth t.ns v.i).cs.length = 0 then (if s = 0 then v.d else s) else s
theorem visE_eq (t : Tre) (deep : Int) (v : Vis) : visE t deep v = if gapB t v = true then 14 else if outsB t v = true then 9 else if (nth t.ns v.i).cs.length = 0 ∧ v.d ≠ deep + 1 then 22 else 0 := by
  unfold visE
  simp only []
  have h : gapB t v = true ↔ (0 < v.i ∧ (((nth t.ns v.i).es.length : Int) < t.mo / 2 ∨ ((nth t.ns 0).es.length = 0 ∧ (v.i : Int) ∈ (nth t.ns 0).cs) ∧ ((nth t.ns v.i).es.length : Int) ≤ t.rm)) := by
    unfold gapB
    simp only [Bool.and_eq_true, Bool.or_eq_true, decide_eq_true_eq]
  by_cases h1 : gapB t v = true
  · rw [if_pos (h.1 h1), if_pos h1]
  · rw [if_neg (fun h2 => h1 (h.2 h2)), if_neg h1]
    rfl
theorem run_known (t : Tre) : ∀ (vs : List Vis) (s : Int), s ≠ 0 → (runV (stV t) (erV t) s vs).1 = shpF t (s - 1) vs
  | [], s, _ => rfl
  | v :: vs, s, hs => by
    have he : (erV t s v).2 = visE t (s - 1) v := by
      rw [visE_eq]
      unfold erV
      simp only [if_neg hs]
      by_cases h1 : gapB t v = true
      · rw [if_pos h1, if_pos h1]
      · rw [if_neg h1, if_neg h1]
        by_cases h2 : outsB t v = true
        · rw [if_pos h2, if_pos h2]
        · rw [if_neg h2, if_neg h2]
          by_cases h3 : (nth t.ns v.i).cs.length = 0
          · rw [if_pos h3]
            by_cases h4 : s = v.d
            · rw [if_pos h4, if_neg (fun h5 => h5.2 (by omega))]
            · rw [if_neg h4, if_pos ⟨h3, by omega⟩]
          · rw [if_neg h3, if_neg (fun h5 => h3 h5.1)]
    have hst : stV t s v = s := by
      unfold stV
      simp only [if_neg hs, ite_self]
    rw [runV, shpF, he, hst]
    split
    · exact run_known t vs s hs
    · rw [show erV t s v = ((v.i : Int), (erV t s v).2) from rfl, he]
theorem run_first {t : Tre} (hT : TOk t.co t.ns) (h0 : 0 < t.ns.length) (deep : Int) : ∀ (f : Nat) (v : Vis) (P : List Nat) (rest : List Vis), Gx.Way t.ns (v.i :: P) → P.length + f = t.ns.length → 1 ≤ v.d → deep + 1 = v.d + deepT t.ns f v.i → (runV (stV t) (erV t) 0 (vis t.ns f v ++ rest)).1 = shpF t deep (vis t.ns f v ++ rest)
  | 0, v, P, rest, hw, hf, _, _ => by
    have := way_len hT h0 hw
    simp only [List.length_cons] at this
    omega
  | f + 1, v, P, rest, hw, hf, hd, he => by
    have hi := way_lt hT h0 hw v.i (List.mem_cons_self ..)
    rw [deepT] at he
    rw [vis, List.cons_append, runV, shpF, visE_eq]
    by_cases h1 : gapB t v = true
    · have e1 : (erV t 0 v).2 = 14 := by unfold erV; simp only [if_pos h1]
      rw [if_pos h1, e1, if_neg (by decide), if_neg (by decide), show erV t 0 v = ((v.i : Int), (erV t 0 v).2) from rfl, e1]
    · rw [if_neg h1]
      by_cases h2 : outsB t v = true
      · have e1 : (erV t 0 v).2 = 9 := by unfold erV; simp only [if_neg h1, if_pos h2]
        rw [if_pos h2, e1, if_neg (by decide), if_neg (by decide), show erV t 0 v = ((v.i : Int), (erV t 0 v).2) from rfl, e1]
      · rw [if_neg h2]
        by_cases h3 : (nth t.ns v.i).cs.length = 0
        · rw [if_pos h3] at he
          have e1 : (erV t 0 v).2 = 0 := by unfold erV; simp only [if_neg h1, if_neg h2, if_pos h3, if_true]
          have e2 : stV t 0 v = v.d := by unfold stV; rw [if_neg h1, if_neg h2, if_pos h3, if_pos rfl]
          have e3 : (if (nth t.ns v.i).cs.length = 0 ∧ v.d ≠ deep + 1 then (22 : Int) else 0) = 0 := if_neg (fun h5 => h5.2 (by omega))
          rw [e1, if_pos rfl, e2, e3, if_pos rfl, h3, List.range_zero, List.flatMap_nil, List.nil_append, run_known t rest v.d (by omega), show v.d - 1 = deep by omega]
        · rw [if_neg h3] at he
          have e1 : (erV t 0 v).2 = 0 := by unfold erV; simp only [if_neg h1, if_neg h2, if_neg h3]
          have e2 : stV t 0 v = 0 := by unfold stV; rw [if_neg h1, if_neg h2, if_neg h3]
          have hk := kid_in hT hi (k := 0) (by omega)
          have e3 : (if (nth t.ns v.i).cs.length = 0 ∧ v.d ≠ deep + 1 then (22 : Int) else 0) = 0 := if_neg (fun h5 => h3 h5.1)
          rw [e1, if_pos rfl, e2, e3, if_pos rfl]
          obtain ⟨m, hm⟩ : ∃ m, (nth t.ns v.i).cs.length = m + 1 := ⟨(nth t.ns v.i).cs.length - 1, by omega⟩
          rw [hm, List.range_succ_eq_map, List.flatMap_cons, List.append_assoc]
          refine run_first hT h0 deep f _ (v.i :: P) _ (way_kid hw hi (by omega) (by omega)) (by simp only [List.length_cons]; omega) (by show 1 ≤ v.d + 1; omega) ?_
          show deep + 1 = v.d + 1 + deepT t.ns f ((nth t.ns v.i).cs.getD 0 0).toNat
          omega
theorem run_shape {t : Tre} (hT : TOk t.co t.ns) (h0 : 0 < t.ns.length) : (runV (stV t) (erV t) 0 (visT t.ns)).1 = shpF t (deepT t.ns t.ns.length 0) (visT t.ns) := by
  have h := run_first hT h0 (deepT t.ns t.ns.length 0) t.ns.length root0 [] [] rfl (by simp) (by decide) (by show _ = 1 + _; rw [show root0.i = 0 from rfl]; omega)
  rw [List.append_nil] at h
  exact h
def marV (s : List Bool) (v : Vis) : List Bool := s.set v.i true
theorem mar_run : ∀ (vs : List Vis) (s : List Bool), (runV marV (fun _ _ => (0, 0)) s vs).1 = (0, 0) ∧ (runV marV (fun _ _ => (0, 0)) s vs).2.length = s.length ∧ ∀ i, i < s.length → (runV marV (fun _ _ => (0, 0)) s vs).2.getD i false = (s.getD i false || decide (i ∈ vs.map Vis.i))
  | [], s => ⟨rfl, rfl, fun i _ => by simp [runV]⟩
  | v :: vs, s => by
    obtain ⟨h1, h2, h3⟩ := mar_run vs (marV s v)
    rw [runV, if_pos rfl]
    have hl : (marV s v).length = s.length := by simp [marV]
    refine ⟨h1, h2.trans hl, fun i hi => ?_⟩
    rw [h3 i (by omega)]
    simp only [marV, List.getD_eq_getElem?_getD, List.getElem?_set, List.map_cons, List.mem_cons]
    by_cases e : v.i = i
    · subst e
      rw [if_pos rfl, if_pos hi]
      simp
    · rw [if_neg e]
      simp [Ne.symm e]
theorem runV_inv {S : Type} {st : S → Vis → S} {er : S → Vis → Int × Int} {I : S → Prop} (hI : ∀ s v, I s → I (st s v)) : ∀ (vs : List Vis) (s : S), I s → I (runV st er s vs).2
  | [], s, h => h
  | v :: vs, s, h => by
    rw [runV]
    split
    · exact runV_inv hI vs _ (hI _ _ h)
    · exact hI _ _ h
def KOk (co : Int) (o : Option (List UInt8)) : Prop := ∀ k, o = some k → keyOk co k = true ∧ k.length ≤ 1000000
theorem ents_kok {co : Int} {ns : List Nd} (hT : TOk co ns) {i : Nat} (hi : i < ns.length) : ∀ x ∈ (nth ns i).es, keyOk co x.key = true ∧ x.key.length ≤ 1000000 := fun x hx => by
  have h := entE_key (hT.ents i hi x hx)
  have := (keyOk_len h).2
  exact ⟨h, by omega⟩
theorem kok_lo {co : Int} {ns : List Nd} (hT : TOk co ns) {v : Vis} (hi : v.i < ns.length) {k : Nat} (hk : k ≤ (nth ns v.i).es.length) (h : KOk co v.lo) : KOk co (kidV ns v k).lo := by
  intro x hx
  unfold kidV loK at hx
  simp only [] at hx
  split at hx
  · injection hx with hx
    rw [← hx]
    exact ents_kok hT hi _ (mem_nth (by omega))
  · exact h x hx
theorem kok_hi {co : Int} {ns : List Nd} (hT : TOk co ns) {v : Vis} (hi : v.i < ns.length) {k : Nat} (h : KOk co v.hi) : KOk co (kidV ns v k).hi := by
  intro x hx
  unfold kidV hiK at hx
  simp only [] at hx
  split at hx
  · injection hx with hx
    rw [← hx]
    exact ents_kok hT hi _ (mem_nth (by assumption))
  · exact h x hx
def shapE (t : Tre) : Int × Int := match opnF t.ns ((visT t.ns).map Vis.i) t.ns.length 0 with
  | some i => ((i : Int), 21)
  | none => shpF t (deepT t.ns t.ns.length 0) (visT t.ns)
theorem shpF_0 {t : Tre} {deep : Int} : ∀ {vs : List Vis}, (shpF t deep vs).2 = 0 → shpF t deep vs = (0, 0)
  | [], _ => rfl
  | v :: vs, h => by
    rw [shpF] at h ⊢
    split at h
    · rename_i h1
      rw [if_pos h1]
      exact shpF_0 h
    · rename_i h1
      exact absurd h h1
theorem shapE_0 {t : Tre} (h : (shapE t).2 = 0) : (shapE t).1 = 0 := by
  unfold shapE at h ⊢
  split at h
  · cases h
  · rw [shpF_0 h]
def lenE12 (n : Nat) : Int := if 0 < n then if n ≤ 120 then 0 else 8 else 10
theorem treE_size {t : Tre} (h : ¬ (if colE12 t.co = 0 then sizE t.mo t.rm else colE12 t.co) = 0) : treE t = (0, if colE12 t.co = 0 then sizE t.mo t.rm else colE12 t.co) := by
  unfold treE
  by_cases h1 : colE12 t.co = 0
  · rw [if_pos h1] at h
    rw [if_pos h1, if_pos h1, if_neg h]
    congr 1
    unfold sizE at h ⊢
    split at h
    · exact absurd rfl h
    · rename_i h2
      rw [if_neg h2]
  · rw [if_neg h1, if_neg h1]
    congr 1
    unfold colE12 at h1 ⊢
    split at h1
    · exact absurd rfl h1
    · rename_i h2
      rw [if_neg h2]
theorem size_0 {t : Tre} (h : (if colE12 t.co = 0 then sizE t.mo t.rm else colE12 t.co) = 0) : colE12 t.co = 0 ∧ sizE t.mo t.rm = 0 := by
  split at h
  · rename_i h1
    exact ⟨h1, h⟩
  · rename_i h1
    exact absurd h h1
theorem sizE_0 {mo rm : Int} (h : sizE mo rm = 0) : (3 ≤ mo ∧ mo ≤ 8) ∧ (mo / 2 ≤ rm ∧ rm ≤ mo) := by
  unfold sizE at h
  split at h
  · assumption
  · cases h
theorem treE_len {t : Tre} (h : (if colE12 t.co = 0 then sizE t.mo t.rm else colE12 t.co) = 0) (h2 : ¬ lenE12 t.ns.length = 0) : treE t = (0, lenE12 t.ns.length) := by
  obtain ⟨h3, h4⟩ := size_0 h
  unfold treE lenE12 at *
  rw [if_pos h3, if_pos h4]
  split at h2
  · rename_i h5
    rw [if_pos h5]
    split at h2
    · exact absurd rfl h2
    · rename_i h6
      rw [if_neg h6, if_pos h5, if_neg h6]
  · rename_i h5
    rw [if_neg h5, if_neg h5]
theorem lenE_0 {n : Nat} (h : lenE12 n = 0) : 0 < n ∧ n ≤ 120 := by
  unfold lenE12 at h
  split at h
  · split at h
    · exact ⟨by assumption, by assumption⟩
    · cases h
  · cases h
theorem treE_nods {t : Tre} (h : (if colE12 t.co = 0 then sizE t.mo t.rm else colE12 t.co) = 0) (h2 : lenE12 t.ns.length = 0) : treE t = if (nodsE t t.ns.length 0 []).2 = 0 then shapE t else nodsE t t.ns.length 0 [] := by
  obtain ⟨h3, h4⟩ := size_0 h
  obtain ⟨h5, h6⟩ := lenE_0 h2
  unfold treE
  rw [if_pos h3, if_pos h4, if_pos h5, if_pos h6]
  rfl
theorem treE_0 {t : Tre} (h : (treE t).2 = 0) : colE12 t.co = 0 ∧ sizE t.mo t.rm = 0 ∧ 0 < t.ns.length ∧ t.ns.length ≤ 120 ∧ (nodsE t t.ns.length 0 []).2 = 0 ∧ (shapE t).2 = 0 ∧ treE t = (0, 0) := by
  by_cases h1 : (if colE12 t.co = 0 then sizE t.mo t.rm else colE12 t.co) = 0
  · by_cases h2 : lenE12 t.ns.length = 0
    · rw [treE_nods h1 h2] at h ⊢
      obtain ⟨h3, h4⟩ := size_0 h1
      obtain ⟨h5, h6⟩ := lenE_0 h2
      split at h
      · rename_i h7
        rw [if_pos h7]
        exact ⟨h3, h4, h5, h6, h7, h, Prod.ext (shapE_0 h) h⟩
      · rename_i h7
        exact absurd h h7
    · rw [treE_len h1 h2] at h
      exact absurd h h2
  · rw [treE_size h1] at h
    exact absurd h h1
theorem bool_get {l : List Bool} {k : Nat} (h : k < l.length) : (l.map Value.bool)[k]? = some (.bool (l.getD k false)) := by
  rw [List.getElem?_map, List.getElem?_eq_getElem h, List.getD_eq_getElem?_getD, List.getElem?_eq_getElem h]
  rfl
theorem nodsE_step {t : Tre} {k : Nat} {seen : List Int} (h : k < t.ns.length) : nodsE t (t.ns.length - k) k seen = if (nodE t k seen).1 = 0 then nodsE t (t.ns.length - (k + 1)) (k + 1) (nodE t k seen).2 else ((k : Int), (nodE t k seen).1) := by
  rw [show t.ns.length - k = t.ns.length - (k + 1) + 1 by omega, nodsE]
theorem opnF_step {ns : List Nd} {below : List Nat} {k : Nat} (h : k < ns.length) : opnF ns below (ns.length - k) k = if (nth ns k).us = true ∧ k ∉ below then some k else opnF ns below (ns.length - (k + 1)) (k + 1) := by
  rw [show ns.length - k = ns.length - (k + 1) + 1 by omega, opnF]
theorem shapE_some {t : Tre} {i : Nat} (h : opnF t.ns ((visT t.ns).map Vis.i) t.ns.length 0 = some i) : shapE t = ((i : Int), 21) := by
  unfold shapE
  rw [h]
theorem shapE_none {t : Tre} (h : opnF t.ns ((visT t.ns).map Vis.i) t.ns.length 0 = none) : shapE t = shpF t (deepT t.ns t.ns.length 0) (visT t.ns) := by
  unfold shapE
  rw [h]
theorem HS.own_at {w0 w : World} {M : List Nat} {As As' : List HA} {g n n' cap t sz : Nat} {xs : List Value} (h : HS w0 M As w) (hp : Pick As (.own (.slice (some ⟨g, 0, none⟩) n' cap) t sz n xs) As') : HS w0 M (.blk g t (cap * sz) xs :: As') w := by
  have h1 := h.pick hp
  refine h1.turn (fun b hb => by simpa [HA.fp_own, HA.fp_blk, Value.ownBlock] using hb) fun ho => ?_
  obtain ⟨_, ⟨e, _⟩ | ⟨g', cap', e, _, _, hb⟩⟩ := ho
  · injection e with e1
    cases e1
  · injection e with e1 e2 e3
    injection e1 with e1
    injection e1 with e1
    subst e1 e3
    exact hb
theorem node_es {l : List LNd} {k : Nat} (hk : k < l.length) (ea : Option Addr) (ec : Nat) (es : List TEnt) : setMany (l.flatMap LNd.vals) (k * 3 + 1) [.slice ea es.length ec] = (l.set k { nth l k with ea := ea, ec := ec, es := es }).flatMap LNd.vals :=
  flat_set nv3 l k 1 _ (nth l k) _ (nth_get hk) rfl (by simp)
theorem node_cs {l : List LNd} {k : Nat} (hk : k < l.length) (ca : Option Addr) (cc : Nat) (cs : List Int) : setMany (l.flatMap LNd.vals) (k * 3 + 2) [.slice ca cs.length cc] = (l.set k { nth l k with ca := ca, cc := cc, cs := cs }).flatMap LNd.vals :=
  flat_set nv3 l k 2 _ (nth l k) _ (nth_get hk) rfl (by simp)
theorem node_us {l : List LNd} {k : Nat} (hk : k < l.length) (us : Bool) : setMany (l.flatMap LNd.vals) (k * 3) [.bool us] = (l.set k { nth l k with us := us }).flatMap LNd.vals := by
  have h := flat_set nv3 l k 0 [.bool us] (nth l k) { nth l k with us := us } (nth_get hk) rfl (by simp)
  rw [Nat.add_zero] at h
  exact h
theorem node_both {l : List LNd} {k : Nat} (hk : k < l.length) (ea : Option Addr) (ec : Nat) (es : List TEnt) (ca : Option Addr) (cc : Nat) (cs : List Int) : setMany (setMany (l.flatMap LNd.vals) (k * 3 + 1) [.slice ea es.length ec]) (k * 3 + 2) [.slice ca cs.length cc] = (l.set k ⟨(nth l k).us, ea, ec, es, ca, cc, cs⟩).flatMap LNd.vals := by
  rw [node_es hk, node_cs (by rw [List.length_set]; exact hk), List.set_set, set_nth_eq hk]
theorem nth_mid {l m : List LNd} {k : Nat} (hl : l.length = k) (hk : k < m.length) : nth (l ++ m.drop k) k = nth m k := by
  apply nth_eq
  rw [List.getElem?_append_right (by omega), hl, Nat.sub_self, List.getElem?_drop, Nat.add_zero]
  exact nth_get hk
theorem set_mid {l m : List LNd} {k : Nat} (hl : l.length = k) (hk : k < m.length) (x : LNd) : (l ++ m.drop k).set k x = l ++ [x] ++ m.drop (k + 1) := by
  rw [List.set_append_right _ _ (by omega), hl, Nat.sub_self, List.drop_eq_getElem_cons hk, List.set_cons_zero, List.append_assoc]
  rfl
theorem pln_take {L : List LNd} {k : Nat} (hk : k < L.length) {D : List LNd} (hD : pln D = (pln L).take k) {x : LNd} (hx : x.pl = (nth L k).pl) : pln (D ++ [x]) = (pln L).take (k + 1) := by
  rw [pln_app, hD, List.take_succ_eq_append_getElem (by rw [pln_len]; exact hk)]
  congr 1
  have e : (pln L)[k]'(by rw [pln_len]; exact hk) = nth (pln L) k := (nth_eq (List.getElem?_eq_getElem _)).symm
  rw [e, pln_nth hk, ← hx]
  rfl
end Gx
namespace Gx
set_option linter.unusedSimpArgs false
set_option linter.unusedVariables false
open Go Go.RowKit
section
variable {P : Program} {o : Oper} {L : Slots} {w0 : World} {M : List Nat} {As As' : List HA}
def isPt (P : Program) (t te : TypeId) : Prop := P.underlying t = some (.pointer te) ∧ ∃ j, P.info? te = some j ∧ j.size ≠ 0
theorem isPt_of {t te : TypeId} {n : Nat} {b : Bool} (h : P.underlying t = some (.pointer te)) (h2 : tsz P te = some (n, b)) (hn : n ≠ 0) : isPt P t te := by
  refine ⟨h, ?_⟩
  unfold tsz at h2
  cases hi : P.info? te with
  | none => rw [hi] at h2; cases h2
  | some j =>
    refine ⟨j, rfl, fun h0 => hn ?_⟩
    rw [hi] at h2
    cases hd : P.underlying te with
    | none => rw [hd] at h2; cases h2
    | some d =>
      rw [hd] at h2
      injection h2 with h2
      injection h2 with h3 h4
      omega
theorem ptee {t te : TypeId} (h : P.underlying t = some (.pointer te)) : P.underlying t = some (.pointer (P.pointee t)) := by
  rw [h]; simp [Program.pointee, h]
theorem p_ptr_nn {t t' te : TypeId} {x y : Operand} {p : Option Addr} (ho : o.op = .binOp .neq t x y t') (hx : ev L x = some (.pointer p)) (hy : ev L y = some (.pointer none)) (ht : isPt P t te) : OpP P o L (.bool p.isSome) := by
  intro ρ w hρ
  have hg : (eqGuard .neq t x y (.pointer p) (.pointer none)).run P w = .ok () w := by unfold eqGuard; simp
  have h := run_neq_pointer_nil w t p (ptee ht.1)
  simp only [execOp, ho, hρ _ _ hx, hρ _ _ hy, Sem.run_bind, hg, h, Result.andThen_ok, Sem.run_pure]
  cases p <;> rfl
end
end Gx
namespace Gx
set_option linter.unusedSimpArgs false
set_option linter.unusedVariables false
set_option linter.unusedSectionVars false
open Go Go.RowKit
section
variable {P : Program} {o : Oper} {L : Slots} {w0 : World} {M : List Nat} {As As' : List HA}
theorem p_slice30 {t e sz by' : Nat} {x hi mx : Operand} {a : Option Addr} {n cap : Nat} {k2 k3 : IntKind} {i2 i3 : Int} (j m : Nat) (ho : o.op = .slice t x none (some hi) (some mx)) (hx : ev L x = some (.slice a n cap)) (hh : ev L hi = some (.int k2 i2)) (hm : ev L mx = some (.int k3 i3)) (ht : tsl P t = some (e, sz, by')) (e2 : i2 = (j : Int)) (e3 : i3 = (m : Int)) (hjm : j ≤ m) (hmc : m ≤ cap) :
    OpP P o L (.slice (subA a m 0 sz) j m) := by
  intro ρ w hρ
  obtain ⟨hu, inf, h1, h2, _⟩ := tsl_slice ht
  subst e2 e3
  simp [execOp, ho, hρ _ _ hx, hρ _ _ hh, hρ _ _ hm, Instr.sliceAt, Instr.slice, Instr.sliceBounds, Instr.sliceBound, asIntOf, run_underlying hu, hjm, hmc, Go.sizeOf, typeInfo, h1, h2, subA]
end
theorem subA_0 (a : Option Addr) (cap sz : Nat) (ha : ∀ x, a = some x → x.off = 0 ∧ x = ⟨x.block, 0, none⟩) : subA a cap 0 sz = a := by
  unfold subA
  split
  · rfl
  · cases a with
    | none => rfl
    | some x =>
      rw [(ha x rfl).2]
      simp [addr_add]
theorem Rw.cut {α : Type} [Inhabited α] {vals : α → List Value} {sz : Nat} {w : World} {M : List Nat} {a : Option Addr} {l : List α} (h : Rw vals sz w M a l) {cap i : Nat} (hc : l.length ≤ cap) : Rw vals sz w M (subA a cap i sz) (l.drop i) :=
  ⟨fun hn => by
    rw [List.length_drop] at hn
    obtain ⟨b, o, rfl, h2⟩ := h.at_ (by omega)
    refine ⟨b, o + i * sz, ?_, fun j hj => ?_⟩
    · unfold subA
      rw [if_neg (by omega)]
      simp [addr_add]
    · rw [List.length_drop] at hj
      have e : nth (l.drop i) j = nth l (i + j) := nth_eq (by rw [List.getElem?_drop]; exact nth_get (by omega))
      have h3 := h2 (i + j) (by omega)
      simp only [e]
      refine ⟨h3.1, fun q v hv => ?_⟩
      have h4 := h3.2 q v hv
      rw [show o + (i + j) * sz + q = o + i * sz + j * sz + q by rw [Nat.add_mul]; omega] at h4
      exact h4⟩
section
variable {w0 w : World} {M : List Nat} {As As' As'' : List HA} {gn cap et nt' : Nat} {a : Option Addr} {L : List LNd}
theorem nodes_split (h0 : 0 < L.length) (h : HS w0 M As w) (hp : Pick As (.nodes et nt' a cap L) As') : ∃ gn, a = some ⟨gn, 0, none⟩ ∧ L.length ≤ cap ∧ cap ≤ maxLen ∧ HS w0 M (.blk gn nt' (cap * 3) (L.flatMap LNd.vals) :: .star (L.map (subN et)) :: As') w := by
  have h1 := HS.row_open (h.pick hp)
  obtain ⟨gn, e, _, h2, h3, _, h4⟩ := h1.own_blk h0 .here
  exact ⟨gn, e, h2, h3, h4⟩
theorem nodes_join (h : HS w0 M (.blk gn nt' (cap * 3) (L.flatMap LNd.vals) :: .star (L.map (subN et)) :: As) w) (h1 : L.length ≤ cap) (h2 : cap ≤ maxLen) : HS w0 M (.nodes et nt' (some ⟨gn, 0, none⟩) cap L :: As) w :=
  HS.row_shut (l := L) (sub := subN et) (HS.own_shut (n := L.length) h (flat_length nv3 L) h1 h2) rfl rfl
theorem HS.nt_at (h : HS w0 M As w) (hp : Pick As (.blk gn nt' (cap * 3) (L.flatMap LNd.vals)) As') (hp2 : Pick As' (.star (L.map (subN et))) As'') : Nt w [] (some ⟨gn, 0, none⟩) L := by
  refine ⟨h.rw_blk nv3 hp, fun n hn => ?_⟩
  obtain ⟨i, hi, e⟩ := List.getElem_of_mem hn
  have e2 : nth L i = n := nth_eq (by rw [List.getElem?_eq_getElem hi, e])
  have h2 := HS.sub_open hi ((h.pick hp).tail.pick hp2)
  rw [e2] at h2
  have h3 := HS.star_open h2
  exact ⟨h3.rw_own ev2 .here rfl, h3.rw_own iv1 (.there .here) rfl⟩
theorem HS.node_out {i : Nat} (hi : i < L.length) (h : HS w0 M As w) (hp : Pick As (.star (L.map (subN et))) As') : HS w0 M (.own (.slice (nth L i).ea (nth L i).es.length (nth L i).ec) et 2 (nth L i).es.length ((nth L i).es.flatMap TEnt.vals) :: .own (.slice (nth L i).ca (nth L i).cs.length (nth L i).cc) 3 1 (nth L i).cs.length ((nth L i).cs.flatMap inV) :: .star ((others L i).map (subN et)) :: As') w :=
  HS.star_open (Bs := [_, _]) (HS.sub_open hi (h.pick hp))
theorem HS.node_in {i : Nat} (hi : i < L.length) (x : LNd) (h : HS w0 M (.own (.slice x.ea x.es.length x.ec) et 2 x.es.length (x.es.flatMap TEnt.vals) :: .own (.slice x.ca x.cs.length x.cc) 3 1 x.cs.length (x.cs.flatMap inV) :: .star ((others L i).map (subN et)) :: As) w) : HS w0 M (.star ((L.set i x).map (subN et)) :: As) w :=
  HS.sub_shut (sub := subN et) hi (HS.star_close (Bs := [_, _]) h)
theorem own_form {a : Option Addr} {n n' c t sz : Nat} {xs : List Value} {w : World} (h : OwnOk (.slice a n c) t sz n' xs w) : ∀ x, a = some x → x.off = 0 ∧ x = ⟨x.block, 0, none⟩ := by
  obtain ⟨_, ⟨e, _⟩ | ⟨g, cap, e, _⟩⟩ := h
  · injection e with e1
    subst e1
    intro x hx
    cases hx
  · injection e with e1
    subst e1
    intro x hx
    injection hx with hx
    subst hx
    exact ⟨rfl, rfl⟩
end
theorem node_us0 {l : List LNd} {k : Nat} (hk : k < l.length) (us : Bool) : setMany (l.flatMap LNd.vals) (0 + k * 3 + 0) [.bool us] = (l.set k { nth l k with us := us }).flatMap LNd.vals := by
  rw [Nat.zero_add, Nat.add_zero]
  exact node_us hk us
theorem star_us {et : Nat} {L : List LNd} {i : Nat} (hi : i < L.length) (us : Bool) : ((L.set i { nth L i with us := us }).map (subN et)) = L.map (subN et) := by
  rw [List.map_set]
  have e : subN et { nth L i with us := us } = subN et (nth L i) := rfl
  rw [e]
  apply List.ext_getElem?
  intro j
  rw [List.getElem?_set]
  split
  · rename_i h
    subst h
    rw [List.length_map, if_pos hi, List.getElem?_map, nth_get hi]
    rfl
  · rfl
def usN (ns : List Nd) (i : Nat) (us : Bool) : List Nd := ns.set i { nth ns i with us := us }
def esN (ns : List Nd) (i : Nat) (es : List TEnt) : List Nd := ns.set i { nth ns i with es := es }
def csN (ns : List Nd) (i : Nat) (cs : List Int) : List Nd := ns.set i { nth ns i with cs := cs }
theorem esN_len (ns : List Nd) (i : Nat) (es : List TEnt) : (esN ns i es).length = ns.length := by simp [esN]
theorem csN_len (ns : List Nd) (i : Nat) (cs : List Int) : (csN ns i cs).length = ns.length := by simp [csN]
theorem usN_len (ns : List Nd) (i : Nat) (us : Bool) : (usN ns i us).length = ns.length := by simp [usN]
theorem nth_esN {ns : List Nd} {i k : Nat} (hk : k < ns.length) (es : List TEnt) : nth (esN ns i es) k = if i = k then { nth ns k with es := es } else nth ns k := by
  unfold esN
  apply nth_eq
  rw [List.getElem?_set]
  split
  · rename_i h
    subst h
    rw [if_pos hk]
  · exact nth_get hk
theorem pln_es {L : List LNd} {i : Nat} (hi : i < L.length) (ea : Option Addr) (ec : Nat) (es : List TEnt) : pln (L.set i { nth L i with ea := ea, ec := ec, es := es }) = esN (pln L) i es := by
  rw [pln_set, esN, pln_nth hi]
  rfl
theorem pln_cs {L : List LNd} {i : Nat} (hi : i < L.length) (ca : Option Addr) (cc : Nat) (cs : List Int) : pln (L.set i { nth L i with ca := ca, cc := cc, cs := cs }) = csN (pln L) i cs := by
  rw [pln_set, csN, pln_nth hi]
  rfl
theorem pln_us {L : List LNd} {i : Nat} (hi : i < L.length) (us : Bool) : pln (L.set i { nth L i with us := us }) = usN (pln L) i us := by
  rw [pln_set, usN, pln_nth hi]
  rfl
def ixFree (ns : List Nd) : Nat := ixB (ns.map fun n => !n.us)
def freN (ns : List Nd) : Nat × List Nd := if ixFree ns < ns.length then (ixFree ns, usN ns (ixFree ns) true) else (ns.length, ns ++ [⟨true, [], []⟩])
def parN (i : Int) : List Nd → Nat → Nat × Nat
  | [], _ => (0, 0)
  | n :: ns, p => if ixB (hasC n.cs i) < n.cs.length then (p, ixB (hasC n.cs i)) else parN i ns (p + 1)
theorem parN_drop {i : Int} {ns : List Nd} {k : Nat} (hk : k < ns.length) : parN i (ns.drop k) k = if ixB (hasC (nth ns k).cs i) < (nth ns k).cs.length then (k, ixB (hasC (nth ns k).cs i)) else parN i (ns.drop (k + 1)) (k + 1) := by
  rw [List.drop_eq_getElem_cons hk, parN]
  have e : ns[k] = nth ns k := (nth_eq (List.getElem?_eq_getElem hk)).symm
  rw [e]
def splM (mo : Int) : Nat := ((mo + 1) / 2).toNat
def splA (mo : Int) (ns : List Nd) (i : Nat) : List Nd :=
  if (nth (freN ns).2 i).cs.length = 0 then esN (esN (freN ns).2 (freN ns).1 ((nth (freN ns).2 i).es.drop (splM mo + 1))) i ((nth (freN ns).2 i).es.take (splM mo))
  else csN (csN (esN (esN (freN ns).2 (freN ns).1 ((nth (freN ns).2 i).es.drop (splM mo + 1))) i ((nth (freN ns).2 i).es.take (splM mo))) (freN ns).1 ((nth (freN ns).2 i).cs.drop (splM mo + 1))) i ((nth (freN ns).2 i).cs.take (splM mo + 1))
def addP (ns : List Nd) (p k : Nat) (up : TEnt) (own : Nat) : List Nd := csN (esN ns p (insAt (nth ns p).es k up)) p (insAt (nth ns p).cs (k + 1) (own : Int))
def splN (mo : Int) (ns : List Nd) (i : Nat) : List Nd := addP (splA mo ns i) (parN (i : Int) (splA mo ns i) 0).1 (parN (i : Int) (splA mo ns i) 0).2 (nth (nth (freN ns).2 i).es (splM mo)) (freN ns).1
structure SplOk (mo : Int) (ns : List Nd) (i : Nat) : Prop where
  mo0 : 0 ≤ mo ∧ mo ≤ 1000
  bd : Bd ns
  lt : i < ns.length
  us : (nth ns i).us = true
  es : splM mo < (nth ns i).es.length
  cs : (nth ns i).cs.length = 0 ∨ splM mo + 1 ≤ (nth ns i).cs.length
  par : (parN (i : Int) (splA mo ns i) 0).1 < (splA mo ns i).length
  parE : (parN (i : Int) (splA mo ns i) 0).2 ≤ (nth (splA mo ns i) (parN (i : Int) (splA mo ns i) 0).1).es.length
  parC : (parN (i : Int) (splA mo ns i) 0).2 + 1 ≤ (nth (splA mo ns i) (parN (i : Int) (splA mo ns i) 0).1).cs.length
theorem ixFree_us {ns : List Nd} (h : ixFree ns < ns.length) : (nth ns (ixFree ns)).us = false := by
  have h1 : (ns.map fun n => !n.us).getD (ixFree ns) false = true := ixB_true (l := ns.map fun n => !n.us) (by rw [List.length_map]; exact h)
  rw [getD_map (d := default) h] at h1
  show (ns.getD (ixFree ns) default).us = false
  simpa using h1
theorem freN_ne {ns : List Nd} {i : Nat} (hi : i < ns.length) (hu : (nth ns i).us = true) : (freN ns).1 ≠ i := by
  unfold freN
  split
  · rename_i h
    intro e
    simp only [] at e
    have h2 := ixFree_us h
    rw [e, hu] at h2
    cases h2
  · simp only []
    omega
theorem freN_lt (ns : List Nd) : (freN ns).1 < (freN ns).2.length := by
  unfold freN
  split
  · rename_i h
    simp only [usN_len]
    exact h
  · simp
theorem freN_len (ns : List Nd) : ns.length ≤ (freN ns).2.length ∧ (freN ns).2.length ≤ ns.length + 1 := by
  unfold freN
  split
  · simp only [usN_len]
    omega
  · simp
theorem freN_nth {ns : List Nd} {i : Nat} (hi : i < ns.length) (hu : (nth ns i).us = true) : nth (freN ns).2 i = nth ns i := by
  have hne := freN_ne hi hu
  unfold freN at hne ⊢
  split
  · rename_i h
    rw [if_pos h] at hne
    simp only [] at hne ⊢
    unfold usN
    apply nth_eq
    rw [List.getElem?_set, if_neg hne]
    exact nth_get hi
  · apply nth_eq
    simp only []
    rw [List.getElem?_append_left hi]
    exact nth_get hi
theorem splA_len (mo : Int) (ns : List Nd) (i : Nat) : (splA mo ns i).length = (freN ns).2.length := by
  unfold splA
  split <;> simp [esN_len, csN_len]
inductive BT where
  | nd (i : Nat) (es : List TEnt) (ks : List BT)
namespace BT
def idx : BT → Nat | nd i _ _ => i
def es : BT → List TEnt | nd _ es _ => es
def ks : BT → List BT | nd _ _ ks => ks
end BT
instance : Inhabited BT := ⟨.nd 0 [] []⟩
def idxs (ks : List BT) : List Int := ks.map fun k => (k.idx : Int)
theorem idxs_app (a b : List BT) : idxs (a ++ b) = idxs a ++ idxs b := by simp [idxs]
theorem idxs_cons (a : BT) (b : List BT) : idxs (a :: b) = (a.idx : Int) :: idxs b := rfl
theorem idxs_len (a : List BT) : (idxs a).length = a.length := by simp [idxs]
theorem idxs_take (a : List BT) (n : Nat) : idxs (a.take n) = (idxs a).take n := by simp [idxs, List.map_take]
theorem idxs_drop (a : List BT) (n : Nat) : idxs (a.drop n) = (idxs a).drop n := by simp [idxs, List.map_drop]
mutual
def BT.nodes : BT → List (Nat × Nd)
  | .nd i es ks => (i, ⟨true, es, idxs ks⟩) :: nodesL ks
def nodesL : List BT → List (Nat × Nd)
  | [] => []
  | k :: ks => k.nodes ++ nodesL ks
end
mutual
def BT.flat : BT → List TEnt
  | .nd _ es ks => flatL es ks
def flatL : List TEnt → List BT → List TEnt
  | es, [] => es
  | [], k :: ks => k.flat ++ flatL [] ks
  | e :: es, k :: ks => k.flat ++ e :: flatL es ks
end
theorem nodesL_app (a b : List BT) : nodesL (a ++ b) = nodesL a ++ nodesL b := by
  induction a with
  | nil => rfl
  | cons x a ih => rw [List.cons_append, nodesL, nodesL, ih, List.append_assoc]
structure RepN (ns : List Nd) (N : List (Nat × Nd)) : Prop where
  get : ∀ p ∈ N, ns[p.1]? = some p.2
  nd : (N.map Prod.fst).Nodup
  rest : ∀ i, i < ns.length → i ∉ N.map Prod.fst → nth ns i = ⟨false, [], []⟩
section
variable {ns : List Nd} {N N' : List (Nat × Nd)} {i : Nat} {x y : Nd}
theorem RepN.perm (h : RepN ns N) (hp : N.Perm N') : RepN ns N' :=
  ⟨fun p hp' => h.get p (hp.mem_iff.2 hp'), (hp.map _).nodup_iff.1 h.nd, fun i hi hn => h.rest i hi fun hm => hn ((hp.map _).mem_iff.1 hm)⟩
theorem RepN.lt (h : RepN ns N) {p : Nat × Nd} (hp : p ∈ N) : p.1 < ns.length := (List.getElem?_eq_some_iff.1 (h.get p hp)).1
theorem RepN.head (h : RepN ns ((i, x) :: N)) : i < ns.length ∧ nth ns i = x := ⟨h.lt (List.mem_cons_self ..), nth_eq (h.get _ (List.mem_cons_self ..))⟩
theorem RepN.at_ (h : RepN ns N) (hp : (i, x) ∈ N) : i < ns.length ∧ nth ns i = x := ⟨h.lt hp, nth_eq (h.get _ hp)⟩
theorem RepN.set (h : RepN ns ((i, x) :: N)) (y : Nd) : RepN (ns.set i y) ((i, y) :: N) := by
  have hn := List.nodup_cons.1 h.nd
  refine ⟨fun p hp => ?_, h.nd, fun j hj hm => ?_⟩
  · rcases List.mem_cons.1 hp with rfl | hp
    · exact List.getElem?_set_self h.head.1
    · have hne : i ≠ p.1 := fun e => hn.1 (e ▸ List.mem_map.2 ⟨p, hp, rfl⟩)
      rw [List.getElem?_set_ne hne]
      exact h.get p (List.mem_cons_of_mem _ hp)
  · have hne : i ≠ j := fun e => hm (e ▸ List.mem_cons_self ..)
    rw [List.length_set] at hj
    rw [← h.rest j hj hm]
    exact nth_eq (by rw [List.getElem?_set_ne hne]; exact nth_get hj)
theorem RepN.es (h : RepN ns ((i, x) :: N)) (es : List TEnt) : RepN (esN ns i es) ((i, { x with es := es }) :: N) := by
  have := h.set { x with es := es }
  unfold esN
  rw [h.head.2]
  exact this
theorem RepN.cs (h : RepN ns ((i, x) :: N)) (cs : List Int) : RepN (csN ns i cs) ((i, { x with cs := cs }) :: N) := by
  have := h.set { x with cs := cs }
  unfold csN
  rw [h.head.2]
  exact this
theorem RepN.gone (h : RepN ns ((i, x) :: N)) : RepN (ns.set i ⟨false, [], []⟩) N := by
  have h1 := h.set ⟨false, [], []⟩
  have hn := List.nodup_cons.1 h.nd
  refine ⟨fun p hp => h1.get p (List.mem_cons_of_mem _ hp), hn.2, fun j hj hm => ?_⟩
  by_cases e : j = i
  · subst e
    exact h1.head.2
  · exact h1.rest j hj fun hm2 => by
      rcases List.mem_cons.1 hm2 with e2 | hm2
      · exact e e2
      · exact hm hm2
theorem RepN.free (h : RepN ns N) (hu : ∀ p ∈ N, p.2.us = true) : (freN ns).1 ∉ N.map Prod.fst ∧ RepN (freN ns).2 (((freN ns).1, ⟨true, [], []⟩) :: N) := by
  have hnu : (freN ns).1 ∉ N.map Prod.fst := fun hm => by
    obtain ⟨p, hp, e⟩ := List.mem_map.1 hm
    have h1 := h.at_ (i := p.1) (x := p.2) hp
    exact freN_ne h1.1 (by rw [h1.2]; exact hu p hp) e.symm
  refine ⟨hnu, ?_⟩
  have hnd : ((((freN ns).1, (⟨true, [], []⟩ : Nd)) :: N).map Prod.fst).Nodup := List.nodup_cons.2 ⟨hnu, h.nd⟩
  have hget : ∀ p ∈ N, (freN ns).2[p.1]? = some p.2 := fun p hp => by
    have h1 := h.at_ (i := p.1) (x := p.2) hp
    have h2 := freN_nth h1.1 (by rw [h1.2]; exact hu p hp)
    rw [nth_get (Nat.lt_of_lt_of_le h1.1 (freN_len ns).1), h2, h1.2]
  have hown : nth (freN ns).2 (freN ns).1 = ⟨true, [], []⟩ := by
    unfold freN at hnu ⊢
    split
    · rename_i hlt
      rw [if_pos hlt] at hnu
      simp only [] at hnu ⊢
      unfold usN
      rw [h.rest _ hlt hnu]
      exact nth_eq (List.getElem?_set_self hlt)
    · exact nth_eq (by simp)
  refine ⟨fun p hp => ?_, hnd, fun j hj hm => ?_⟩
  · rcases List.mem_cons.1 hp with rfl | hp
    · rw [nth_get (freN_lt ns), hown]
    · exact hget p hp
  · have hne : (freN ns).1 ≠ j := fun e => hm (e ▸ List.mem_cons_self ..)
    have hm2 : j ∉ N.map Prod.fst := fun h9 => hm (List.mem_cons_of_mem _ h9)
    unfold freN at hj hne ⊢
    split
    · rename_i hlt
      rw [if_pos hlt] at hj hne
      simp only [usN_len] at hj hne ⊢
      rw [← h.rest j hj hm2]
      exact nth_eq (by unfold usN; rw [List.getElem?_set_ne hne]; exact nth_get hj)
    · rename_i hlt
      rw [if_neg hlt] at hj hne
      simp only [List.length_append, List.length_singleton] at hj hne ⊢
      have hj2 : j < ns.length := by omega
      rw [← h.rest j hj2 hm2]
      exact nth_eq (by rw [List.getElem?_append_left hj2]; exact nth_get hj2)
end
def kidsOf (N : List (Nat × Nd)) : List Int := N.flatMap fun p => p.2.cs
theorem kidsOf_app (A B : List (Nat × Nd)) : kidsOf (A ++ B) = kidsOf A ++ kidsOf B := List.flatMap_append
theorem kidsOf_cons (p : Nat × Nd) (B : List (Nat × Nd)) : kidsOf (p :: B) = p.2.cs ++ kidsOf B := List.flatMap_cons
theorem ixB_none {cs : List Int} {n : Int} (h : n ∉ cs) : ¬ ixB (hasC cs n) < cs.length := fun hl => by
  have h1 : (hasC cs n).getD (ixB (hasC cs n)) false = true := ixB_true (by rw [hasC_len]; exact hl)
  rw [hasC_get hl] at h1
  refine h (of_decide_eq_true h1 ▸ ?_)
  rw [List.getD_eq_getElem?_getD, List.getElem?_eq_getElem hl]
  exact List.getElem_mem hl
theorem ixB_app {A B : List Int} {n : Int} (h : n ∉ A) : ixB (hasC (A ++ n :: B) n) = A.length := by
  induction A with
  | nil =>
    show ixB (decide (n = n) :: _) = 0
    simp [ixB]
  | cons a A ih =>
    have h1 : n ≠ a := fun e => h (e ▸ List.mem_cons_self ..)
    show ixB (decide (n = a) :: hasC (A ++ n :: B) n) = _
    rw [decide_eq_false h1]
    simp only [ixB, List.length_cons]
    rw [ih fun hm => h (List.mem_cons_of_mem _ hm)]
    first | rfl | simp
theorem parN_at {i : Nat} : ∀ {l : List Nd} {s p : Nat} {A B : List Int}, p < l.length → (nth l p).cs = A ++ (i : Int) :: B → (i : Int) ∉ A → (∀ j, j < p → (i : Int) ∉ (nth l j).cs) → parN i l s = (s + p, A.length)
  | [], s, p, A, B, hp, _, _, _ => absurd hp (Nat.not_lt_zero _)
  | n :: l, s, 0, A, B, hp, he, hA, _ => by
    have e : n.cs = A ++ (i : Int) :: B := he
    rw [parN, e, ixB_app hA, if_pos (by simp)]
    rfl
  | n :: l, s, p + 1, A, B, hp, he, hA, hn => by
    have hn0 : (i : Int) ∉ n.cs := hn 0 (Nat.succ_pos _)
    rw [parN, if_neg (ixB_none hn0), parN_at (l := l) (s := s + 1) (p := p) (by simpa using hp) he hA fun j hj => hn (j + 1) (by omega)]
    congr 1
    omega
theorem RepN.par {ns : List Nd} {N : List (Nat × Nd)} {p i : Nat} {x : Nd} {A B : List Int} (h : RepN ns ((p, x) :: N)) (hk : (kidsOf ((p, x) :: N)).Nodup) (he : x.cs = A ++ (i : Int) :: B) : parN i ns 0 = (p, A.length) := by
  rw [kidsOf_cons, he] at hk
  have h1 := List.nodup_append.1 hk
  have hA : (i : Int) ∉ A := fun hm => (List.nodup_append.1 h1.1).2.2 _ hm _ (List.mem_cons_self ..) rfl
  have h2 := h.head
  have := parN_at (i := i) (l := ns) (s := 0) (p := p) h2.1 (by rw [h2.2]; exact he) hA fun j hj hm => by
    by_cases hjm : j ∈ N.map Prod.fst
    · obtain ⟨q, hq, e⟩ := List.mem_map.1 hjm
      have h3 := h.at_ (i := q.1) (x := q.2) (List.mem_cons_of_mem _ hq)
      rw [e] at h3
      rw [h3.2] at hm
      exact h1.2.2 (i : Int) (by simp) (i : Int) (List.mem_flatMap.2 ⟨q, hq, hm⟩) rfl
    · have h3 := h.rest j (by omega) (fun h9 => by
        rcases List.mem_cons.1 h9 with e | h9
        · have : j = p := e
          omega
        · exact hjm h9)
      rw [h3] at hm
      cases hm
  rw [this, Nat.zero_add]
mutual
theorem kids_nodes : ∀ T : BT, (((T.idx : Nat) : Int) :: kidsOf T.nodes).Perm (T.nodes.map fun p => ((p.1 : Nat) : Int))
  | .nd i es ks => by
    rw [BT.nodes, kidsOf_cons, List.map_cons]
    exact List.Perm.cons _ (kids_nodesL ks)
theorem kids_nodesL : ∀ ks : List BT, (idxs ks ++ kidsOf (nodesL ks)).Perm ((nodesL ks).map fun p => ((p.1 : Nat) : Int))
  | [] => .refl _
  | k :: ks => by
    rw [nodesL, kidsOf_app, List.map_append, idxs_cons, List.cons_append]
    have h1 := kids_nodes k
    have h2 := kids_nodesL ks
    have h3 : ((k.idx : Int) :: (idxs ks ++ (kidsOf k.nodes ++ kidsOf (nodesL ks)))).Perm (((k.idx : Int) :: kidsOf k.nodes) ++ (idxs ks ++ kidsOf (nodesL ks))) := by
      rw [List.cons_append]
      refine List.Perm.cons _ ?_
      rw [← List.append_assoc, ← List.append_assoc]
      exact List.perm_append_comm.append_right _
    exact h3.trans (h1.append h2)
end
theorem nd_int {l : List (Nat × Nd)} (h : (l.map Prod.fst).Nodup) : (l.map fun p => ((p.1 : Nat) : Int)).Nodup := by
  have e : (l.map fun p => ((p.1 : Nat) : Int)) = (l.map Prod.fst).map fun n : Nat => (n : Int) := by simp
  rw [e]
  exact List.Pairwise.map _ (fun a b hab e => hab (by omega)) h
theorem kids_nodup {T : BT} (h : (T.nodes.map Prod.fst).Nodup) : (kidsOf T.nodes).Nodup := (List.nodup_cons.1 ((kids_nodes T).nodup_iff.2 (nd_int h))).2
mutual
theorem nodes_us : ∀ T : BT, ∀ p ∈ T.nodes, p.2.us = true
  | .nd i es ks => fun p hp => by
    rw [BT.nodes] at hp
    rcases List.mem_cons.1 hp with rfl | hp
    · rfl
    · exact nodesL_us ks p hp
theorem nodesL_us : ∀ ks : List BT, ∀ p ∈ nodesL ks, p.2.us = true
  | [] => fun p hp => (nomatch hp)
  | k :: ks => fun p hp => by
    rw [nodesL] at hp
    rcases List.mem_append.1 hp with hp | hp
    · exact nodes_us k p hp
    · exact nodesL_us ks p hp
end
structure Fr where
  i : Nat
  es : List TEnt
  l : List BT
  r : List BT
instance : Inhabited Fr := ⟨⟨0, [], [], []⟩⟩
def Fr.fill (f : Fr) (T : BT) : BT := .nd f.i f.es (f.l ++ T :: f.r)
def plug : List Fr → BT → BT
  | [], T => T
  | f :: C, T => plug C (f.fill T)
def Fr.nodes (f : Fr) (h : Nat) : List (Nat × Nd) := (f.i, ⟨true, f.es, idxs f.l ++ (h : Int) :: idxs f.r⟩) :: (nodesL f.l ++ nodesL f.r)
def ctxNodes : List Fr → Nat → List (Nat × Nd)
  | [], _ => []
  | f :: C, h => f.nodes h ++ ctxNodes C f.i
theorem fill_nodes (f : Fr) (T : BT) : (f.fill T).nodes.Perm (f.nodes T.idx ++ T.nodes) := by
  unfold Fr.fill Fr.nodes
  rw [BT.nodes, nodesL_app, nodesL, idxs_app, idxs_cons, List.cons_append]
  refine List.Perm.cons _ ?_
  rw [List.append_assoc]
  exact List.Perm.append_left _ List.perm_append_comm
theorem plug_nodes : ∀ (C : List Fr) (T : BT), (plug C T).nodes.Perm (ctxNodes C T.idx ++ T.nodes)
  | [], T => .refl _
  | f :: C, T => by
    refine (plug_nodes C (f.fill T)).trans ?_
    show (ctxNodes C f.i ++ (f.fill T).nodes).Perm (f.nodes T.idx ++ ctxNodes C f.i ++ T.nodes)
    refine ((fill_nodes f T).append_left _).trans ?_
    rw [← List.append_assoc]
    exact List.perm_append_comm.append_right _
theorem plug_app (C D : List Fr) (T : BT) : plug (C ++ D) T = plug D (plug C T) := by
  induction C generalizing T with
  | nil => rfl
  | cons f C ih => exact ih _
def RepT (ns : List Nd) (T : BT) : Prop := RepN ns T.nodes
theorem RepT.plug {ns : List Nd} {C : List Fr} {T : BT} (h : RepT ns (plug C T)) : RepN ns (ctxNodes C T.idx ++ T.nodes) := RepN.perm h (plug_nodes C T)
theorem RepT.of_plug {ns : List Nd} {C : List Fr} {T : BT} (h : RepN ns (ctxNodes C T.idx ++ T.nodes)) : RepT ns (Gx.plug C T) := RepN.perm h (plug_nodes C T).symm
theorem RepT.us {ns : List Nd} {T : BT} (h : RepT ns T) : ∀ p ∈ T.nodes, p.2.us = true := nodes_us T
theorem RepT.at_ {ns : List Nd} {C : List Fr} {T : BT} (h : RepT ns (Gx.plug C T)) : T.idx < ns.length ∧ nth ns T.idx = ⟨true, T.es, idxs T.ks⟩ := by
  cases T with
  | nd i es ks => exact RepN.at_ h.plug (List.mem_append_right _ (by rw [BT.nodes]; exact List.mem_cons_self ..))
theorem RepT.par {ns : List Nd} {f : Fr} {C : List Fr} {T : BT} (h : RepT ns (Gx.plug (f :: C) T)) : parN (T.idx : Int) ns 0 = (f.i, f.l.length) := by
  have hk : (kidsOf (ctxNodes (f :: C) T.idx ++ T.nodes)).Nodup := by
    have h1 := kids_nodup (T := Gx.plug (f :: C) T) h.nd
    exact ((plug_nodes (f :: C) T).flatMap_right _).nodup_iff.1 h1
  have h2 := RepN.par (A := idxs f.l) (i := T.idx) (B := idxs f.r) h.plug hk rfl
  rw [h2, idxs_len]
def lowN (ns : List Nd) : Nat × List Nd := ((freN ns).1, csN (esN (csN (esN (freN ns).2 (freN ns).1 (nth ns 0).es) (freN ns).1 (nth ns 0).cs) 0 []) 0 [((freN ns).1 : Int)])
def grw1 (mo : Int) (ns : List Nd) (i : Nat) : List Nd := if 0 < i ∧ mo < ((nth ns i).es.length : Int) then splN mo ns i else ns
def grwW (mo : Int) (ns : List Nd) (P : List Nat) : List Nd := P.foldl (grw1 mo) ns
def grwR (mo rm : Int) (ns : List Nd) : List Nd := if rm < ((nth ns 0).es.length : Int) then if mo < ((nth (lowN ns).2 (lowN ns).1).es.length : Int) then splN mo (lowN ns).2 (lowN ns).1 else (lowN ns).2 else ns
def grwN (mo rm : Int) (ns : List Nd) (P : List Nat) : List Nd := grwR mo rm (grwW mo ns P)
def insN (co mo rm : Int) (ns : List Nd) (x : TEnt) : List Nd :=
  let p := pathN co ns x.key
  let leaf := nth p.1 (p.1.length - 1)
  grwN mo rm (esN ns leaf (insAt (nth ns leaf).es p.2.1 x)) p.1.reverse
theorem perm_ct {α : Type} [BEq α] [LawfulBEq α] {a b : List α} (h : ∀ x, a.count x = b.count x) : a.Perm b := List.perm_iff_count.2 h
theorem ct_split {α : Type} [BEq α] (l : List α) (n : Nat) (x : α) : l.count x = (l.take n).count x + (l.drop n).count x := by
  rw [← List.count_append, List.take_append_drop]
theorem nodesL_split (ks : List BT) (n : Nat) : nodesL ks = nodesL (ks.take n) ++ nodesL (ks.drop n) := by
  rw [← nodesL_app, List.take_append_drop]
theorem insAt_idxs (l r : List BT) (i own : Nat) : insAt (idxs l ++ (i : Int) :: idxs r) (l.length + 1) (own : Int) = idxs l ++ (i : Int) :: (own : Int) :: idxs r := by
  unfold insAt
  rw [List.take_append, List.drop_append, idxs_len, List.take_of_length_le (by rw [idxs_len]; omega), List.drop_of_length_le (by rw [idxs_len]; omega), show l.length + 1 - l.length = 1 by omega]
  simp
section
variable {ns : List Nd} {mo rm : Int} {f : Fr} {C : List Fr} {i : Nat} {es : List TEnt} {ks : List BT}
theorem rep_kids {T : BT} (h : RepT ns T) : (kidsOf T.nodes).Nodup := kids_nodup h.nd
theorem rep_splA (h : RepT ns (plug C (.nd i es ks))) : (freN ns).1 ∉ (plug C (.nd i es ks)).nodes.map Prod.fst ∧
    RepN (splA mo ns i) ((i, ⟨true, es.take (splM mo), (idxs ks).take (splM mo + 1)⟩) :: ((freN ns).1, ⟨true, es.drop (splM mo + 1), (idxs ks).drop (splM mo + 1)⟩) :: (ctxNodes C i ++ nodesL ks)) := by
  have hf := RepN.free h (nodes_us _)
  refine ⟨hf.1, ?_⟩
  have h1 := hf.2.perm (N' := ((freN ns).1, ⟨true, [], []⟩) :: (i, ⟨true, es, idxs ks⟩) :: (ctxNodes C i ++ nodesL ks)) (List.Perm.cons _ ((plug_nodes C (.nd i es ks)).trans (by
    show (ctxNodes C i ++ (BT.nd i es ks).nodes).Perm _
    rw [BT.nodes]
    exact List.perm_middle)))
  have h2 := h1.perm (List.Perm.swap ..)
  have hi := h2.head
  have h3 := ((h1.es (es.drop (splM mo + 1))).perm (List.Perm.swap ..)).es (es.take (splM mo))
  unfold splA
  rw [hi.2]
  simp only []
  split
  · rename_i h0
    have h0' : idxs ks = [] := List.eq_nil_of_length_eq_zero h0
    rw [h0'] at h3
    rw [h0', List.take_nil, List.drop_nil]
    exact h3
  · have h4 := (h3.perm (List.Perm.swap ..)).cs ((idxs ks).drop (splM mo + 1))
    exact (h4.perm (List.Perm.swap ..)).cs ((idxs ks).take (splM mo + 1))
theorem splA_kids (h : RepT ns (plug C (.nd i es ks))) : (kidsOf ((i, (⟨true, es.take (splM mo), (idxs ks).take (splM mo + 1)⟩ : Nd)) :: ((freN ns).1, ⟨true, es.drop (splM mo + 1), (idxs ks).drop (splM mo + 1)⟩) :: (ctxNodes C i ++ nodesL ks))).Nodup := by
  have h1 := ((plug_nodes C (.nd i es ks)).flatMap_right (fun p : Nat × Nd => p.2.cs)).nodup_iff.1 (rep_kids h)
  refine (List.Perm.nodup_iff ?_).1 h1
  rw [BT.nodes]
  show (kidsOf (ctxNodes C i ++ (i, ⟨true, es, idxs ks⟩) :: nodesL ks)).Perm _
  refine perm_ct fun x => ?_
  simp only [kidsOf_cons, kidsOf_app, List.count_append, ct_split (idxs ks) (splM mo + 1) x]
  omega
theorem rep_split (h : RepT ns (plug (f :: C) (.nd i es ks))) :
    (freN ns).1 ∉ (plug (f :: C) (.nd i es ks)).nodes.map Prod.fst ∧ parN (i : Int) (splA mo ns i) 0 = (f.i, f.l.length) ∧
    RepT (splN mo ns i) (plug C (.nd f.i (insAt f.es f.l.length (nth es (splM mo))) (f.l ++ .nd i (es.take (splM mo)) (ks.take (splM mo + 1)) :: .nd (freN ns).1 (es.drop (splM mo + 1)) (ks.drop (splM mo + 1)) :: f.r))) := by
  obtain ⟨h0, h1⟩ := rep_splA (mo := mo) h
  have hk := splA_kids (mo := mo) h
  have hp : (((i, (⟨true, es.take (splM mo), (idxs ks).take (splM mo + 1)⟩ : Nd)) :: ((freN ns).1, ⟨true, es.drop (splM mo + 1), (idxs ks).drop (splM mo + 1)⟩) :: (ctxNodes (f :: C) i ++ nodesL ks))).Perm
      ((f.i, ⟨true, f.es, idxs f.l ++ (i : Int) :: idxs f.r⟩) :: (i, (⟨true, es.take (splM mo), (idxs ks).take (splM mo + 1)⟩ : Nd)) :: ((freN ns).1, ⟨true, es.drop (splM mo + 1), (idxs ks).drop (splM mo + 1)⟩) :: (nodesL f.l ++ nodesL f.r ++ ctxNodes C f.i ++ nodesL ks)) := by
    refine perm_ct fun x => ?_
    simp only [ctxNodes, Fr.nodes, List.count_append, List.count_cons, List.cons_append]
    omega
  have h2 := h1.perm hp
  have hpar := h2.par ((hp.flatMap_right (fun p : Nat × Nd => p.2.cs)).nodup_iff.1 hk) rfl
  rw [idxs_len] at hpar
  refine ⟨h0, hpar, ?_⟩
  unfold splN
  rw [hpar]
  have hi : nth (nth (freN ns).2 i).es (splM mo) = nth es (splM mo) := by
    have h4 : i < ns.length ∧ nth ns i = ⟨true, es, idxs ks⟩ := RepT.at_ (T := .nd i es ks) h
    rw [freN_nth h4.1 (by rw [h4.2]), h4.2]
  rw [hi]
  unfold addP
  simp only []
  have h5 := h2.head
  have h6 := (h2.es (insAt f.es f.l.length (nth es (splM mo)))).cs (insAt (idxs f.l ++ (i : Int) :: idxs f.r) (f.l.length + 1) ((freN ns).1 : Int))
  rw [insAt_idxs] at h6
  rw [h5.2]
  simp only []
  rw [insAt_idxs]
  refine RepT.of_plug (h6.perm ?_)
  show List.Perm _ (ctxNodes C f.i ++ BT.nodes _)
  rw [BT.nodes, nodesL_app, nodesL, nodesL, BT.nodes, BT.nodes, idxs_app, idxs_cons, idxs_cons, idxs_take, idxs_drop]
  refine perm_ct fun x => ?_
  simp only [List.count_append, List.count_cons, List.cons_append, nodesL_split ks (splM mo + 1), BT.idx]
  omega
end
theorem rep_low {ns : List Nd} {es : List TEnt} {ks : List BT} (h : RepT ns (.nd 0 es ks)) : (freN ns).1 ∉ (BT.nd 0 es ks).nodes.map Prod.fst ∧ RepT (lowN ns).2 (.nd 0 [] [.nd (freN ns).1 es ks]) := by
  have hf := RepN.free h (nodes_us _)
  refine ⟨hf.1, ?_⟩
  have h0 := RepT.at_ (C := []) h
  unfold lowN
  rw [show nth ns 0 = nth ns (BT.nd 0 es ks).idx from rfl, h0.2]
  simp only [BT.es, BT.ks]
  have h1 : RepN (freN ns).2 (((freN ns).1, ⟨true, [], []⟩) :: (0, ⟨true, es, idxs ks⟩) :: nodesL ks) := by
    have := hf.2
    rw [BT.nodes] at this
    exact this
  have h2 := (((h1.es es).cs (idxs ks)).perm (List.Perm.swap ..)).es []
  have h3 := h2.cs [((freN ns).1 : Int)]
  refine RepN.perm h3 ?_
  rw [BT.nodes, nodesL, BT.nodes, nodesL, List.append_nil]
  exact .refl _
abbrev LNd.noE (n : LNd) : LNd := { n with ea := none, ec := 0, es := [] }
abbrev LNd.noC (n : LNd) : LNd := { n with ca := none, cc := 0, cs := [] }
abbrev ownE (et : Nat) (n : LNd) : HA := .own (.slice n.ea n.es.length n.ec) et 2 n.es.length (n.es.flatMap TEnt.vals)
abbrev ownC (n : LNd) : HA := .own (.slice n.ca n.cs.length n.cc) 3 1 n.cs.length (n.cs.flatMap inV)
theorem nth_set_self {L : List LNd} {i : Nat} (hi : i < L.length) (x : LNd) : nth (L.set i x) i = x := nth_eq (List.getElem?_set_self hi)
theorem nth_set_other {L : List LNd} {i k : Nat} (hk : k < L.length) (hne : i ≠ k) (x : LNd) : nth (L.set i x) k = nth L k := nth_eq (by rw [List.getElem?_set_ne hne]; exact nth_get hk)
section
variable {w0 w : World} {M : List Nat} {As As' As'' : List HA} {et : Nat} {L : List LNd} {i : Nat}
theorem HS.es_take (hi : i < L.length) (h : HS w0 M As w) (hp : Pick As (.star (L.map (subN et))) As') : HS w0 M (ownE et (nth L i) :: .star ((L.set i (nth L i).noE).map (subN et)) :: As') w := by
  have h1 := (h.node_out hi hp).own_nil et 2
  have h2 := h1.perm (As' := _ :: _ :: _ :: ownE et (nth L i) :: As') (List.Perm.cons _ (List.perm_middle (l₁ := [_, _])).symm)
  exact (HS.node_in hi (nth L i).noE h2).perm (List.Perm.swap ..)
theorem HS.cs_take (hi : i < L.length) (h : HS w0 M As w) (hp : Pick As (.star (L.map (subN et))) As') : HS w0 M (ownC (nth L i) :: .star ((L.set i (nth L i).noC).map (subN et)) :: As') w := by
  have h1 := (h.node_out hi hp).own_nil 3 1
  have h2 := h1.perm (As' := _ :: _ :: _ :: ownC (nth L i) :: As') ((List.perm_middle (l₁ := [_]) (a := ownE et (nth L i))).trans (List.Perm.cons _ (List.Perm.cons _ (List.Perm.swap ..))))
  exact (HS.node_in hi (nth L i).noC h2).perm (List.Perm.swap ..)
theorem HS.es_put (hi : i < L.length) {ea : Option Addr} {ec : Nat} {es : List TEnt} (h : HS w0 M As w) (hp : Pick As (.own (.slice ea es.length ec) et 2 es.length (es.flatMap TEnt.vals)) As') (hp2 : Pick As' (.star (L.map (subN et))) As'') : HS w0 M (.star ((L.set i { nth L i with ea := ea, ec := ec, es := es }).map (subN et)) :: As'') w := by
  have h1 := (h.pick hp).perm (List.Perm.cons _ hp2.perm)
  have h2 := (HS.node_out hi h1 (.there .here)).tail
  have h3 := h2.perm (As' := (.own (.slice ea es.length ec) et 2 es.length (es.flatMap TEnt.vals)) :: _ :: _ :: As'') (List.perm_middle (l₁ := [_, _]))
  exact HS.node_in hi { nth L i with ea := ea, ec := ec, es := es } h3
theorem HS.cs_put (hi : i < L.length) {ca : Option Addr} {cc : Nat} {cs : List Int} (h : HS w0 M As w) (hp : Pick As (.own (.slice ca cs.length cc) 3 1 cs.length (cs.flatMap inV)) As') (hp2 : Pick As' (.star (L.map (subN et))) As'') : HS w0 M (.star ((L.set i { nth L i with ca := ca, cc := cc, cs := cs }).map (subN et)) :: As'') w := by
  have h1 := (h.pick hp).perm (List.Perm.cons _ hp2.perm)
  have h2 := (HS.node_out hi h1 (.there .here))
  have h3 := (h2.perm (List.Perm.swap ..)).tail
  have h4 := h3.perm (As' := ownE et (nth L i) :: (.own (.slice ca cs.length cc) 3 1 cs.length (cs.flatMap inV)) :: _ :: As'') (List.Perm.cons _ (List.perm_middle (l₁ := [_])))
  exact HS.node_in hi { nth L i with ca := ca, cc := cc, cs := cs } h4
theorem HS.es_back (hi : i < L.length) {ea : Option Addr} {ec : Nat} {es : List TEnt} (h : HS w0 M As w) (hp : Pick As (.own (.slice ea es.length ec) et 2 es.length (es.flatMap TEnt.vals)) As') (hp2 : Pick As' (.star ((L.set i (nth L i).noE).map (subN et))) As'') : HS w0 M (.star ((L.set i { nth L i with ea := ea, ec := ec, es := es }).map (subN et)) :: As'') w := by
  have h1 := HS.es_put (L := L.set i (nth L i).noE) (i := i) (by rw [List.length_set]; exact hi) h hp hp2
  rw [nth_set_self hi, List.set_set] at h1
  exact h1
theorem HS.cs_back (hi : i < L.length) {ca : Option Addr} {cc : Nat} {cs : List Int} (h : HS w0 M As w) (hp : Pick As (.own (.slice ca cs.length cc) 3 1 cs.length (cs.flatMap inV)) As') (hp2 : Pick As' (.star ((L.set i (nth L i).noC).map (subN et))) As'') : HS w0 M (.star ((L.set i { nth L i with ca := ca, cc := cc, cs := cs }).map (subN et)) :: As'') w := by
  have h1 := HS.cs_put (L := L.set i (nth L i).noC) (i := i) (by rw [List.length_set]; exact hi) h hp hp2
  rw [nth_set_self hi, List.set_set] at h1
  exact h1
theorem HS.es_cut (hi : i < L.length) {m c : Nat} (hm : m ≤ c) (hc : c ≤ (nth L i).ec) (hml : m ≤ (nth L i).es.length) (h0 : m = 0 → (nth L i).ea = none → c = 0) (h : HS w0 M As w) (hp : Pick As (.star (L.map (subN et))) As') : HS w0 M (.star ((L.set i { nth L i with ec := c, es := (nth L i).es.take m }).map (subN et)) :: As') w := by
  have h1 := HS.es_take hi h hp
  have e1 : ((nth L i).es.take m).length = m := by rw [List.length_take]; omega
  have h2 := HS.own_room (a := (nth L i).ea) (n' := c) (xs := ((nth L i).es.take m).flatMap TEnt.vals) (ds := ((nth L i).es.drop m).flatMap TEnt.vals) .here (by rw [← List.flatMap_append, List.take_append_drop]; exact h1) (by rw [flat_length ev2, e1]) hm hc h0
  refine HS.es_back hi (es := (nth L i).es.take m) ?_ .here .here
  rw [e1]
  exact h2
theorem HS.cs_cut (hi : i < L.length) {m c : Nat} (hm : m ≤ c) (hc : c ≤ (nth L i).cc) (hml : m ≤ (nth L i).cs.length) (h0 : m = 0 → (nth L i).ca = none → c = 0) (h : HS w0 M As w) (hp : Pick As (.star (L.map (subN et))) As') : HS w0 M (.star ((L.set i { nth L i with cc := c, cs := (nth L i).cs.take m }).map (subN et)) :: As') w := by
  have h1 := HS.cs_take hi h hp
  have e1 : ((nth L i).cs.take m).length = m := by rw [List.length_take]; omega
  have h2 := HS.own_room (a := (nth L i).ca) (n' := c) (xs := ((nth L i).cs.take m).flatMap inV) (ds := ((nth L i).cs.drop m).flatMap inV) .here (by rw [← List.flatMap_append, List.take_append_drop]; exact h1) (by rw [flat_length iv1, e1]) hm hc h0
  refine HS.cs_back hi (cs := (nth L i).cs.take m) ?_ .here .here
  rw [e1]
  exact h2
theorem HS.es_room (hi : i < L.length) (h : HS w0 M As w) (hp : Pick As (.star (L.map (subN et))) As') : (nth L i).es.length ≤ (nth L i).ec ∧ (nth L i).ec ≤ maxLen := by
  have h1 := HS.own_facts .here (HS.es_take hi h hp)
  exact ⟨h1.2.1, h1.2.2.1⟩
theorem HS.cs_room (hi : i < L.length) (h : HS w0 M As w) (hp : Pick As (.star (L.map (subN et))) As') : (nth L i).cs.length ≤ (nth L i).cc ∧ (nth L i).cc ≤ maxLen := by
  have h1 := HS.own_facts .here (HS.cs_take hi h hp)
  exact ⟨h1.2.1, h1.2.2.1⟩
theorem HS.es_form (hi : i < L.length) (h : HS w0 M As w) (hp : Pick As (.star (L.map (subN et))) As') : ∀ x, (nth L i).ea = some x → x.off = 0 ∧ x = ⟨x.block, 0, none⟩ := own_form (HS.es_take hi h hp).head
theorem HS.cs_form (hi : i < L.length) (h : HS w0 M As w) (hp : Pick As (.star (L.map (subN et))) As') : ∀ x, (nth L i).ca = some x → x.off = 0 ∧ x = ⟨x.block, 0, none⟩ := own_form (HS.cs_take hi h hp).head
theorem HS.es_some (hi : i < L.length) (hn : 0 < (nth L i).es.length) (h : HS w0 M As w) (hp : Pick As (.star (L.map (subN et))) As') : ∃ g, (nth L i).ea = some ⟨g, 0, none⟩ := by
  obtain ⟨g, e, _⟩ := HS.own_blk hn .here (HS.es_take hi h hp)
  exact ⟨g, e⟩
theorem HS.cs_some (hi : i < L.length) (hn : 0 < (nth L i).cs.length) (h : HS w0 M As w) (hp : Pick As (.star (L.map (subN et))) As') : ∃ g, (nth L i).ca = some ⟨g, 0, none⟩ := by
  obtain ⟨g, e, _⟩ := HS.own_blk hn .here (HS.cs_take hi h hp)
  exact ⟨g, e⟩
theorem HS.es_row (hi : i < L.length) (h : HS w0 M As w) (hp : Pick As (.star (L.map (subN et))) As') : Rw TEnt.vals 2 w [] (nth L i).ea (nth L i).es := (HS.es_take hi h hp).rw_own ev2 .here rfl
theorem HS.cs_row (hi : i < L.length) (h : HS w0 M As w) (hp : Pick As (.star (L.map (subN et))) As') : Rw inV 1 w [] (nth L i).ca (nth L i).cs := (HS.cs_take hi h hp).rw_own iv1 .here rfl
theorem HS.es_rd {k g : Nat} (hi : i < L.length) (hk : k < (nth L i).es.length) (hg : (nth L i).ea = some ⟨g, 0, none⟩) (h : HS w0 M As w) (hp : Pick As (.star (L.map (subN et))) As') : ∀ j v, (TEnt.vals (nth (nth L i).es k))[j]? = some v → Rd w [] g (0 + k * 2 + j) v := by
  have h1 := Rw.rd (HS.es_row hi h hp) hk
  rw [hg] at h1
  exact h1
theorem HS.cs_rd {k g : Nat} (hi : i < L.length) (hk : k < (nth L i).cs.length) (hg : (nth L i).ca = some ⟨g, 0, none⟩) (h : HS w0 M As w) (hp : Pick As (.star (L.map (subN et))) As') : Rd w [] g (0 + k * 1) (.int .i64 ((nth L i).cs.getD k 0)) := by
  have h1 := Rw.rd (HS.cs_row hi h hp) hk 0 (.int .i64 ((nth L i).cs.getD k 0)) rfl
  rw [hg] at h1
  exact h1
theorem HS.nd_cell {gn cap nt' : Nat} (hi : i < L.length) (h : HS w0 M As w) (hp : Pick As (.blk gn nt' (cap * 3) (L.flatMap LNd.vals)) As') (j : Nat) {v : Value} (hj : (LNd.vals (nth L i))[j]? = some v) (hj3 : j < 3) : Rd w [] gn (i * 3 + j) v :=
  h.rd_blk hp (by rw [flat_get nv3 L i j _ (nth_get hi) hj3]; exact hj) (by simp)
end
structure NdSet (L L' : List LNd) (i : Nat) (x : LNd) : Prop where
  lt : i < L.length
  eq : L' = L.set i x
theorem NdSet.len {L L' : List LNd} {i : Nat} {x : LNd} (h : NdSet L L' i x) : L'.length = L.length := by rw [h.eq, List.length_set]
theorem NdSet.at_ {L L' : List LNd} {i : Nat} {x : LNd} (h : NdSet L L' i x) : nth L' i = x := by rw [h.eq, nth_set_self h.lt]
theorem NdSet.other {L L' : List LNd} {i k : Nat} {x : LNd} (h : NdSet L L' i x) (hk : k < L.length) (hne : i ≠ k) : nth L' k = nth L k := by rw [h.eq, nth_set_other hk hne]
theorem NdSet.pl {L L' : List LNd} {i : Nat} {x : LNd} (h : NdSet L L' i x) : pln L' = (pln L).set i x.pl := by rw [h.eq, pln_set]
theorem NdSet.es {L L' : List LNd} {i : Nat} {ea : Option Addr} {ec : Nat} {es : List TEnt} (h : NdSet L L' i { nth L i with ea := ea, ec := ec, es := es }) : pln L' = esN (pln L) i es := by rw [h.eq, pln_es h.lt]
theorem NdSet.cs {L L' : List LNd} {i : Nat} {ca : Option Addr} {cc : Nat} {cs : List Int} (h : NdSet L L' i { nth L i with ca := ca, cc := cc, cs := cs }) : pln L' = csN (pln L) i cs := by rw [h.eq, pln_cs h.lt]
section
variable {w0 w : World} {M : List Nat} {As A1 A2 A3 : List HA} {et : Nat} {L : List LNd} {i gn cap nt' : Nat}
theorem HS.es_set (hi : i < L.length) {ea : Option Addr} {ec : Nat} {es : List TEnt} (h : HS w0 M As w) (hp : Pick As (.blk gn nt' (cap * 3) (setMany (L.flatMap LNd.vals) (i * 3 + 1) [.slice ea es.length ec])) A1) (hp2 : Pick A1 (.own (.slice ea es.length ec) et 2 es.length (es.flatMap TEnt.vals)) A2) (hp3 : Pick A2 (.star (L.map (subN et))) A3) :
    ∃ L', NdSet L L' i { nth L i with ea := ea, ec := ec, es := es } ∧ HS w0 M (.blk gn nt' (cap * 3) (L'.flatMap LNd.vals) :: .star (L'.map (subN et)) :: A3) w := by
  refine ⟨_, ⟨hi, rfl⟩, ?_⟩
  rw [← node_es hi]
  exact (HS.es_put hi (h.pick hp) (.there hp2) (.there hp3)).perm (List.Perm.swap ..)
theorem HS.cs_set (hi : i < L.length) {ca : Option Addr} {cc : Nat} {cs : List Int} (h : HS w0 M As w) (hp : Pick As (.blk gn nt' (cap * 3) (setMany (L.flatMap LNd.vals) (i * 3 + 2) [.slice ca cs.length cc])) A1) (hp2 : Pick A1 (.own (.slice ca cs.length cc) 3 1 cs.length (cs.flatMap inV)) A2) (hp3 : Pick A2 (.star (L.map (subN et))) A3) :
    ∃ L', NdSet L L' i { nth L i with ca := ca, cc := cc, cs := cs } ∧ HS w0 M (.blk gn nt' (cap * 3) (L'.flatMap LNd.vals) :: .star (L'.map (subN et)) :: A3) w := by
  refine ⟨_, ⟨hi, rfl⟩, ?_⟩
  rw [← node_cs hi]
  exact (HS.cs_put hi (h.pick hp) (.there hp2) (.there hp3)).perm (List.Perm.swap ..)
theorem HS.es_setB (hi : i < L.length) {ea : Option Addr} {ec : Nat} {es : List TEnt} (h : HS w0 M As w) (hp : Pick As (.blk gn nt' (cap * 3) (setMany (L.flatMap LNd.vals) (i * 3 + 1) [.slice ea es.length ec])) A1) (hp2 : Pick A1 (.own (.slice ea es.length ec) et 2 es.length (es.flatMap TEnt.vals)) A2) (hp3 : Pick A2 (.star ((L.set i (nth L i).noE).map (subN et))) A3) :
    ∃ L', NdSet L L' i { nth L i with ea := ea, ec := ec, es := es } ∧ HS w0 M (.blk gn nt' (cap * 3) (L'.flatMap LNd.vals) :: .star (L'.map (subN et)) :: A3) w := by
  refine ⟨_, ⟨hi, rfl⟩, ?_⟩
  rw [← node_es hi]
  exact (HS.es_back hi (h.pick hp) (.there hp2) (.there hp3)).perm (List.Perm.swap ..)
theorem HS.cs_setB (hi : i < L.length) {ca : Option Addr} {cc : Nat} {cs : List Int} (h : HS w0 M As w) (hp : Pick As (.blk gn nt' (cap * 3) (setMany (L.flatMap LNd.vals) (i * 3 + 2) [.slice ca cs.length cc])) A1) (hp2 : Pick A1 (.own (.slice ca cs.length cc) 3 1 cs.length (cs.flatMap inV)) A2) (hp3 : Pick A2 (.star ((L.set i (nth L i).noC).map (subN et))) A3) :
    ∃ L', NdSet L L' i { nth L i with ca := ca, cc := cc, cs := cs } ∧ HS w0 M (.blk gn nt' (cap * 3) (L'.flatMap LNd.vals) :: .star (L'.map (subN et)) :: A3) w := by
  refine ⟨_, ⟨hi, rfl⟩, ?_⟩
  rw [← node_cs hi]
  exact (HS.cs_back hi (h.pick hp) (.there hp2) (.there hp3)).perm (List.Perm.swap ..)
theorem HS.es_setC (hi : i < L.length) {m c : Nat} (hm : m ≤ c) (hc : c ≤ (nth L i).ec) (hml : m ≤ (nth L i).es.length) (h0 : m = 0 → (nth L i).ea = none → c = 0) (h : HS w0 M As w) (hp : Pick As (.blk gn nt' (cap * 3) (setMany (L.flatMap LNd.vals) (i * 3 + 1) [.slice (nth L i).ea m c])) A1) (hp3 : Pick A1 (.star (L.map (subN et))) A3) :
    ∃ L', NdSet L L' i { nth L i with ec := c, es := (nth L i).es.take m } ∧ HS w0 M (.blk gn nt' (cap * 3) (L'.flatMap LNd.vals) :: .star (L'.map (subN et)) :: A3) w := by
  refine ⟨_, ⟨hi, rfl⟩, ?_⟩
  have e := node_es hi (nth L i).ea c ((nth L i).es.take m)
  rw [List.length_take, Nat.min_eq_left hml] at e
  rw [← e]
  exact (HS.es_cut hi hm hc hml h0 (h.pick hp) (.there hp3)).perm (List.Perm.swap ..)
theorem HS.cs_setC (hi : i < L.length) {m c : Nat} (hm : m ≤ c) (hc : c ≤ (nth L i).cc) (hml : m ≤ (nth L i).cs.length) (h0 : m = 0 → (nth L i).ca = none → c = 0) (h : HS w0 M As w) (hp : Pick As (.blk gn nt' (cap * 3) (setMany (L.flatMap LNd.vals) (i * 3 + 2) [.slice (nth L i).ca m c])) A1) (hp3 : Pick A1 (.star (L.map (subN et))) A3) :
    ∃ L', NdSet L L' i { nth L i with cc := c, cs := (nth L i).cs.take m } ∧ HS w0 M (.blk gn nt' (cap * 3) (L'.flatMap LNd.vals) :: .star (L'.map (subN et)) :: A3) w := by
  refine ⟨_, ⟨hi, rfl⟩, ?_⟩
  have e := node_cs hi (nth L i).ca c ((nth L i).cs.take m)
  rw [List.length_take, Nat.min_eq_left hml] at e
  rw [← e]
  exact (HS.cs_cut hi hm hc hml h0 (h.pick hp) (.there hp3)).perm (List.Perm.swap ..)
end
theorem ins_len {α : Type} {l : List α} {i : Nat} {x : α} (h : i ≤ l.length) : (insAt l i x).length = l.length + 1 := by
  simp only [insAt, List.length_append, List.length_take, List.length_cons, List.length_drop]
  omega
theorem ins_flat {α : Type} {vals : α → List Value} {sz : Nat} (hv : ∀ x, (vals x).length = sz) (l : List α) (i : Nat) (x : α) : (l.flatMap vals).take (i * sz) ++ vals x ++ (l.flatMap vals).drop (i * sz) = (insAt l i x).flatMap vals := by
  rw [flat_take hv, flat_drop hv, insAt, List.flatMap_append, List.flatMap_cons, List.append_assoc]
theorem oth_len {α : Type} {l : List α} {i : Nat} (h : i < l.length) : (others l i).length = l.length - 1 := by
  simp only [others, List.length_append, List.length_take, List.length_drop]
  omega
theorem oth_flat {α : Type} {vals : α → List Value} {sz : Nat} (hv : ∀ x, (vals x).length = sz) (l : List α) (i : Nat) : (l.flatMap vals).take (i * sz) ++ (l.flatMap vals).drop ((i + 1) * sz) = (others l i).flatMap vals := by
  rw [flat_take hv, flat_drop hv, others, List.flatMap_append]
def Sm (m : Nat) (ns : List Nd) : Prop := ∀ k, (nth ns k).es.length ≤ m ∧ (nth ns k).cs.length ≤ m
theorem nth_out {α : Type} [Inhabited α] {l : List α} {k : Nat} (h : l.length ≤ k) : nth l k = default := by
  unfold nth
  rw [List.getD_eq_getElem?_getD, List.getElem?_eq_none h]
  rfl
theorem nth_set_nd (ns : List Nd) (i k : Nat) (x : Nd) : nth (ns.set i x) k = if i = k ∧ k < ns.length then x else nth ns k := by
  by_cases hk : k < ns.length
  · apply nth_eq
    rw [List.getElem?_set]
    by_cases e : i = k
    · subst e
      rw [if_pos rfl, if_pos hk, if_pos ⟨rfl, hk⟩]
    · rw [if_neg e, if_neg (fun h => e h.1)]
      exact nth_get hk
  · rw [if_neg (fun h => hk h.2), nth_out (by simpa using hk), nth_out (by simpa using hk)]
theorem Sm.mono {m m' : Nat} {ns : List Nd} (h : Sm m ns) (hm : m ≤ m') : Sm m' ns := fun k => ⟨Nat.le_trans (h k).1 hm, Nat.le_trans (h k).2 hm⟩
theorem Sm.set {m : Nat} {ns : List Nd} (h : Sm m ns) (i : Nat) (x : Nd) (hx : x.es.length ≤ m ∧ x.cs.length ≤ m) : Sm m (ns.set i x) := fun k => by
  rw [nth_set_nd]
  split
  · exact hx
  · exact h k
theorem Sm.es {m : Nat} {ns : List Nd} (h : Sm m ns) (i : Nat) {es : List TEnt} (hx : es.length ≤ m) : Sm m (esN ns i es) := h.set i _ ⟨hx, (h i).2⟩
theorem Sm.cs {m : Nat} {ns : List Nd} (h : Sm m ns) (i : Nat) {cs : List Int} (hx : cs.length ≤ m) : Sm m (csN ns i cs) := h.set i _ ⟨(h i).1, hx⟩
theorem Sm.us {m : Nat} {ns : List Nd} (h : Sm m ns) (i : Nat) (b : Bool) : Sm m (usN ns i b) := h.set i _ (h i)
theorem Sm.app {m : Nat} {ns : List Nd} (h : Sm m ns) (x : Nd) (hx : x.es.length ≤ m ∧ x.cs.length ≤ m) : Sm m (ns ++ [x]) := fun k => by
  rcases Nat.lt_trichotomy k ns.length with hk | hk | hk
  · rw [show nth (ns ++ [x]) k = nth ns k from nth_eq (by rw [List.getElem?_append_left hk]; exact nth_get hk)]
    exact h k
  · subst hk
    rw [show nth (ns ++ [x]) ns.length = x from nth_eq (by simp)]
    exact hx
  · rw [nth_out (by simp; omega)]
    exact ⟨Nat.zero_le _, Nat.zero_le _⟩
theorem Sm.fre {m : Nat} {ns : List Nd} (h : Sm m ns) : Sm m (freN ns).2 := by
  unfold freN
  split
  · exact h.us _ _
  · exact h.app _ ⟨Nat.zero_le _, Nat.zero_le _⟩
theorem Sm.splA {m : Nat} {ns : List Nd} (h : Sm m ns) (mo : Int) (i : Nat) : Sm m (splA mo ns i) := by
  have h1 := h.fre
  have e1 := (h1 i).1
  have e2 := (h1 i).2
  have h2 := (h1.es (freN ns).1 (es := (nth (freN ns).2 i).es.drop (splM mo + 1)) (by rw [List.length_drop]; omega)).es i (es := (nth (freN ns).2 i).es.take (splM mo)) (by rw [List.length_take]; omega)
  unfold Gx.splA
  split
  · exact h2
  · exact (h2.cs _ (by rw [List.length_drop]; omega)).cs _ (by rw [List.length_take]; omega)
theorem ins_le {α : Type} (l : List α) (i : Nat) (x : α) : (insAt l i x).length ≤ l.length + 1 := by
  simp only [insAt, List.length_append, List.length_take, List.length_cons, List.length_drop]
  omega
theorem Sm.addP {m : Nat} {ns : List Nd} (h : Sm m ns) (p k : Nat) (up : TEnt) (own : Nat) : Sm (m + 1) (addP ns p k up own) := by
  have e1 := ins_le (nth ns p).es k up
  have e2 := ins_le (nth ns p).cs (k + 1) (own : Int)
  have e3 := (h p).1
  have e4 := (h p).2
  exact ((h.mono (Nat.le_succ m)).es p (by omega)).cs p (by omega)
theorem Sm.spl {m : Nat} {ns : List Nd} (h : Sm m ns) (mo : Int) (i : Nat) : Sm (m + 1) (splN mo ns i) := (h.splA mo i).addP _ _ _ _
theorem addP_len (ns : List Nd) (p k : Nat) (up : TEnt) (own : Nat) : (addP ns p k up own).length = ns.length := by
  unfold addP
  rw [csN_len, esN_len]
theorem splN_len (mo : Int) (ns : List Nd) (i : Nat) : ns.length ≤ (splN mo ns i).length ∧ (splN mo ns i).length ≤ ns.length + 1 := by
  unfold splN
  rw [addP_len, splA_len]
  exact freN_len ns
theorem Sm.low {m : Nat} {ns : List Nd} (h : Sm m ns) (hm : 1 ≤ m) : Sm m (lowN ns).2 := by
  unfold lowN
  exact (((h.fre.es _ (h 0).1).cs _ (h 0).2).es 0 (Nat.zero_le _)).cs 0 (by simpa using hm)
theorem lowN_len (ns : List Nd) : ns.length ≤ (lowN ns).2.length ∧ (lowN ns).2.length ≤ ns.length + 1 := by
  unfold lowN
  simp only [csN_len, esN_len]
  exact freN_len ns
structure SpOk (mo : Int) (ns : List Nd) (i : Nat) : Prop where
  mo0 : 0 ≤ mo ∧ mo ≤ 1000
  len : ns.length ≤ 900
  sm : Sm 900 ns
  lt : i < ns.length
  us : (nth ns i).us = true
  es : splM mo < (nth ns i).es.length
  cs : (nth ns i).cs.length = 0 ∨ splM mo + 1 ≤ (nth ns i).cs.length
  par : (parN (i : Int) (splA mo ns i) 0).1 < (splA mo ns i).length
  parE : (parN (i : Int) (splA mo ns i) 0).2 ≤ (nth (splA mo ns i) (parN (i : Int) (splA mo ns i) 0).1).es.length
  parC : (parN (i : Int) (splA mo ns i) 0).2 + 1 ≤ (nth (splA mo ns i) (parN (i : Int) (splA mo ns i) 0).1).cs.length
abbrev LNd.non (n : LNd) : LNd := ⟨n.us, none, 0, [], none, 0, []⟩
section
variable {w0 w : World} {M : List Nat} {As A1 A2 A3 : List HA} {et : Nat} {L : List LNd} {i j gn cap nt' : Nat}
theorem HS.star_move (hi : i < L.length) (hj : j < L.length) (hne : i ≠ j) (us : Bool) (h : HS w0 M As w) (hp : Pick As (.star (L.map (subN et))) A1) : HS w0 M (.star (((L.set j { nth L i with us := us }).set i (nth L i).non).map (subN et)) :: A1) w := by
  have h1 := ((h.node_out hi hp).own_nil 3 1).own_nil et 2
  -- nil nil E C star
  have h2 := h1.perm (As' := _ :: _ :: _ :: ownE et (nth L i) :: ownC (nth L i) :: A1) (List.Perm.cons _ (List.Perm.cons _ (List.perm_middle (l₁ := [ownE et (nth L i), ownC (nth L i)]))))
  have h3 := HS.node_in hi (nth L i).non h2
  have h4 := HS.node_out (L := L.set i (nth L i).non) (i := j) (by rw [List.length_set]; exact hj) h3 .here
  have h5 := h4.tail.tail
  have h6 := h5.perm (As' := ownE et (nth L i) :: ownC (nth L i) :: _ :: A1) (List.perm_middle (l₁ := [ownE et (nth L i), ownC (nth L i)])).symm
  have h7 := HS.node_in (L := L.set i (nth L i).non) (i := j) (by rw [List.length_set]; exact hj) { nth L i with us := us } h6
  rw [List.set_comm _ _ hne] at h7
  exact h7
theorem HS.node_move (hi : i < L.length) (hj : j < L.length) (hne : i ≠ j) (h : HS w0 M As w)
    (hp : Pick As (.blk gn nt' (cap * 3) (setMany (setMany (L.flatMap LNd.vals) (j * 3 + 1) [.slice (nth L i).ea (nth L i).es.length (nth L i).ec]) (j * 3 + 2) [.slice (nth L i).ca (nth L i).cs.length (nth L i).cc])) A1) (hp3 : Pick A1 (.star (L.map (subN et))) A3) :
    ∃ L', NdSet L L' j { nth L i with us := (nth L j).us } ∧ HS w0 M (.blk gn nt' (cap * 3) (L'.flatMap LNd.vals) :: .star ((L'.set i (nth L i).non).map (subN et)) :: A3) w := by
  refine ⟨_, ⟨hj, rfl⟩, ?_⟩
  have e := node_both hj (nth L i).ea (nth L i).ec (nth L i).es (nth L i).ca (nth L i).cc (nth L i).cs
  rw [← e]
  exact (HS.star_move hi hj hne (nth L j).us (h.pick hp) (.there hp3)).perm (List.Perm.swap ..)
theorem HS.node_low (hi : i < L.length) {ca : Option Addr} {cc : Nat} {cs : List Int} (h : HS w0 M As w)
    (hp : Pick As (.blk gn nt' (cap * 3) (setMany (setMany (L.flatMap LNd.vals) (i * 3 + 1) [.slice none 0 0]) (i * 3 + 2) [.slice ca cs.length cc])) A1) (hp2 : Pick A1 (.own (.slice ca cs.length cc) 3 1 cs.length (cs.flatMap inV)) A2) (hp3 : Pick A2 (.star ((L.set i ⟨(nth L i).us, none, 0, [], none, 0, []⟩).map (subN et))) A3) :
    ∃ L', NdSet L L' i ⟨(nth L i).us, none, 0, [], ca, cc, cs⟩ ∧ HS w0 M (.blk gn nt' (cap * 3) (L'.flatMap LNd.vals) :: .star (L'.map (subN et)) :: A3) w := by
  refine ⟨_, ⟨hi, rfl⟩, ?_⟩
  have e := node_both hi none 0 [] ca cc cs
  rw [← e]
  have h1 := HS.cs_put (L := L.set i ⟨(nth L i).us, none, 0, [], none, 0, []⟩) (i := i) (by rw [List.length_set]; exact hi) (h.pick hp) (.there hp2) (.there hp3)
  rw [nth_set_self hi, List.set_set] at h1
  exact h1.perm (List.Perm.swap ..)
end
theorem csN_esN {ns : List Nd} {i : Nat} (hi : i < ns.length) (es : List TEnt) (cs : List Int) : csN (esN ns i es) i cs = ns.set i ⟨(nth ns i).us, es, cs⟩ := by
  unfold csN
  rw [nth_esN hi, if_pos rfl, esN, List.set_set]
theorem lowN_eq {ns : List Nd} (h0 : 0 < ns.length) (hu : (nth ns 0).us = true) : (freN ns).1 ≠ 0 ∧ (freN ns).1 < (freN ns).2.length ∧ nth (freN ns).2 0 = nth ns 0 := ⟨freN_ne h0 hu, freN_lt ns, freN_nth h0 hu⟩
end Gx
namespace Gx
open Go Go.RowKit
set_option linter.unusedVariables false
def HA.obj (b : Nat) (o : Obj) : HA := ⟨[b], fun w => w.heap[b]? = some o, fun w w' h hk => (h b (List.mem_singleton.2 rfl)).trans hk⟩
section
variable {w0 w : World} {M : List Nat} {As As' : List HA}
theorem HS.allocObj (h : HS w0 M As w) (o : Obj) : HS w0 M (.obj w.heap.size o :: As) (w.alloc o) := h.alloc o _ rfl (World.alloc_heap_new w o)
theorem HS.obj_get {b : Nat} {o : Obj} (h : HS w0 M As w) (hp : Pick As (.obj b o) As') : w.heap[b]? = some o := h.ok _ hp.mem
theorem HS.putObj {b : Nat} {o : Obj} (h : HS w0 M As w) (hp : Pick As (.obj b o) As') (o' : Obj) : HS w0 M (.obj b o' :: As') (w.putObj b o') := by
  have h1 := h.pick hp
  have hb : w.heap[b]? = some o := h1.head
  have hlt : b < w.heap.size := (Array.getElem?_eq_some_iff.1 hb).1
  refine h1.swap (fun _ hx => hx) rfl rfl rfl (by simp [World.putObj]) (fun c hc => World.putObj_heap_other (fun e => hc (by subst e; exact List.mem_singleton.2 rfl))) (World.putObj_heap_same hlt)
end
def YieldTo (P : Program) (l : Nat) (args : Array Value) (w : World) (R : Ending → World → Prop) : Prop :=
  ∃ f tmps assign body, (Instr.yield l args).run P w = .ok (.round l f tmps assign body) w ∧ RoundIn Fence.wide 0 P l f tmps assign body w R
section
variable {P : Program} {o : Oper} {L : Slots}
theorem h_yield {C : World → Prop} {G : Type} {V : G → Value} {F : G → Prop} {C' : G → World → Prop} {x : Operand} {args : Array Operand} {vs : List Value} {ts : Array TypeId} {l : Nat} (ho : o.op = .call { callee := .value x, args := args, argTypes := ts }) (hx : ev L x = some (.func (.yield l) #[] #[]))
    (ha : evs L args.toList = some vs) (hy : ∀ w, C w → YieldTo P l vs.toArray w fun e w' => ∃ g, e = .returned (V g) ∧ F g ∧ C' g w') : OpH P o L C V F C' := by
  intro ρ w hρ hw
  obtain ⟨f, tmps, assign, body, hr, hR⟩ := hy w hw
  have e1 : args.map ρ = vs.toArray := by rw [← evs_map hρ ha, ← List.map_toArray]
  unfold execOp
  simp only [ho, resolve, Sem.run_bind, hρ _ _ hx, Deferred.ofValue, e1, Sem.run_pure, Result.andThen_ok, invoke, Array.empty_append, hr]
  exact RoundIn.mono hR fun e w' ⟨g, he, hf, hc⟩ => ⟨V g, he, g, rfl, hf, hc⟩
end
def rdy (fid : FuncId) (tmps : Array Value) (ps : Array Tmp) (assign body : Code) (D : Nat) : Loop := { state := .ready, pending := none, fn := fid, tmps := tmps, params := ps, assign := assign, body := body, defers := D }
theorem y_round {P : Program} {fn : Func} {n l D : Nat} {fid : FuncId} {tmps : Array Value} {ps : Array Tmp} {assign body : Code} {args : Array Value} {L0 L1 : Slots} {w0 W : World} {M : List Nat} {As As1 : List HA} {Rr : Ending → World → Prop}
    (hC : HS w0 M (.obj l (.loop (rdy fid tmps ps assign body D)) :: As) W) (hps : args.size = ps.size) (hf : FR n [] L0 { tmps := (ps.zip args).foldl (fun t (p, v) => t.setIfInBounds p v) tmps, defers := [] })
    (h1 : S { P := P, fn := fn, n := n, R := fun _ _ => False, rd := some l } [.c assign, .join (At n [] (fun _ : Unit => L1) (fun _ => HS w0 M (.obj l (.loop (rdy fid tmps ps assign body D)) :: As1)))] L0 (HS w0 M (.obj l (.loop (rdy fid tmps ps assign body D)) :: As)))
    (h2 : S { P := P, fn := fn, n := n, R := Rr, rd := some l } [.c body] L1 (HS w0 M (.obj l (.loop { rdy fid tmps ps assign body D with state := .busy }) :: As1))) : YieldTo P l args W Rr := by
  refine ⟨fid, _, assign, body, run_yield (hC.obj_get .here) hps, roundIn_of_wpIn trivial ?_⟩
  refine wpIn_mono (h1 _ W hf hC) fun e a w he => ?_
  cases e with
  | normal =>
    obtain ⟨_, hfr, hc⟩ := he
    exact ⟨_, run_beginRound (hc.obj_get .here) rfl, h2 _ _ hfr (hc.putObj .here _)⟩
  | ret => obtain ⟨v, w', _, hx⟩ := he; exact hx
  | exit id => obtain ⟨v, w', _, hx⟩ := he; exact hx
  | goto t => obtain ⟨v, w', _, hx⟩ := he; exact hx
  | panic ch => exact he
  | outgrown => exact he
theorem FR.round1 {n : Nat} {L : Slots} {a : Act} (h : FR n [] L a) (d : Nat) (v : Value) (hd : Nat.blt d n = true) : FR n [] ((d, v) :: L) { tmps := ((#[d] : Array Tmp).zip #[v]).foldl (fun t (p, v) => t.setIfInBounds p v) a.tmps, defers := [] } := by
  have h1 := h.put d v hd
  have e : ((#[d] : Array Tmp).zip #[v]).foldl (fun t (p, v) => t.setIfInBounds p v) a.tmps = a.tmps.setIfInBounds d v := by simp
  rw [e]
  exact ⟨rfl, h1.size, h1.slot⟩
section
variable {X : Ctx} {k : List KI} {L : Slots} {w0 : World} {M : List Nat} {As As' : List HA}
theorem s_end_round {C : World → Prop} {l : Nat} (hrd : X.rd = some l) (h : ∀ w, C w → ∃ r, w.heap[l]? = some (.loop r) ∧ X.R (.returned (.bool true)) (w.putObj l (.loop { r with state := .ready, pending := none }))) : S X [] L C := by
  intro a w ha hw
  show (match X.rd with | none => bodyPostM X.F 0 X.P X.fn X.R .normal a w | some l => roundPost X.P l X.R .normal a w)
  rw [hrd]
  obtain ⟨r, h1, h2⟩ := h w hw
  exact ⟨_, _, run_endRound none h1, h2⟩
theorem s_end_rd {l D : Nat} {fid : FuncId} {tmps : Array Value} {ps : Array Tmp} {assign body : Code} (hrd : X.rd = some l) (hp : Pick As (.obj l (.loop { rdy fid tmps ps assign body D with state := .busy })) As') (h : ∀ w, HS w0 M (.obj l (.loop (rdy fid tmps ps assign body D)) :: As') w → X.R (.returned (.bool true)) w) : S X [] L (HS w0 M As) :=
  s_end_round hrd fun w hw => ⟨_, hw.obj_get hp, h _ (hw.putObj hp _)⟩
theorem post_df (d : List Nat) : ∀ k, post { X with df := d } k = post X k
  | [] => by funext e a w; rfl
  | Sum.inl c :: k => by funext e a w; cases e <;> simp only [post, post_df d k]
  | Sum.inr (Sum.inl id) :: k => by funext e a w; cases e <;> simp only [post, post_df d k]
  | Sum.inr (Sum.inr J) :: k => by funext e a w; cases e <;> simp only [post, post_df d k]
theorem s_range {g : Operand} {ps : Array Tmp} {assign body : Code} {gf : FuncId} {lb : Array Value} {G : Type} {Bs : G → List HA} (hrd : X.rd = none) (hdf : X.df = []) (hg : ev L g = some (.func (.func gf) #[] lb)) (hfn : isFn X.P gf = true)
    (hit : ∀ (fid : FuncId) (D l : Nat) (a : Act) (w1 : World) (ob : Obj), ob = .loop (rdy fid a.tmps ps assign body D) → FR X.n [] L a → HS w0 M (.obj l ob :: .obj D (.deferred (some [])) :: As) w1 →
      Calls X.P gf (#[.func (.yield l) #[] #[]] ++ lb) w1 fun e w2 => (∃ v, e = .returned v) ∧ ∃ x, HS w0 M (.obj l ob :: .obj D (.deferred (some [])) :: Bs x) w2)
    (next : ∀ D x, S { X with df := [D] } k L (HS w0 M (.obj D (.deferred (some [])) :: Bs x))) : S X (.c (.rangeFunc g ps assign body) :: k) L (HS w0 M As) := by
  intro a w ha hw
  have ha0 : FR X.n [] L a := by rw [← hdf]; exact ha
  refine wpIn_rangeFunc (F := X.F) (n := 0) fun fid _ => ?_
  have hro : X.F.round = none := hrd
  rw [hro]
  have hw1 := (hw.allocObj (.deferred (some []))).allocObj (.loop (rdy fid a.tmps ps assign body w.heap.size))
  rw [World.size_alloc] at hw1
  have hen := run_enterLoop_outer (P := X.P) (w := w) fid a.tmps ps assign body
  obtain ⟨W1, hW1⟩ : ∃ W1, (w.alloc (.deferred (some []))).alloc (.loop (rdy fid a.tmps ps assign body w.heap.size)) = W1 := ⟨_, rfl⟩
  rw [hW1] at hw1
  rw [show (Loop.mk .ready none fid a.tmps ps assign body w.heap.size) = rdy fid a.tmps ps assign body w.heap.size from rfl, hW1] at hen
  refine ⟨w.heap.size + 1, [{ target := .collected w.heap.size, args := #[] }], W1, { target := .fn (.func gf) lb, args := #[.func (.yield (w.heap.size + 1)) #[] #[]] }, W1, gf,
    #[.func (.yield (w.heap.size + 1)) #[] #[]] ++ lb, W1, hen, ?_, fun _ _ => trivial, ?_, fun h => (by cases h), ?_⟩
  · simp only [resolve, ha.evl hg]
    simp [go_sem]
  · simp [invoke, go_sem, callFunc_run hfn]
  · refine CallsIn.mono (X.callsIn (hit fid _ _ a _ _ rfl ha0 hw1)) fun e w2 he => ?_
    obtain ⟨⟨v, rfl⟩, x, hx⟩ := he
    refine ⟨none, _, run_endLoop (hx.obj_get .here) (by simp [rdy]), ?_⟩
    have h3 := next w.heap.size x { a with defers := [{ target := .collected w.heap.size, args := #[] }] ++ a.defers } _ ⟨by show _ ++ a.defers = _; rw [ha0.defers]; rfl, ha0.size, ha0.slot⟩ (hx.putObj .here (.loop { rdy fid a.tmps ps assign body w.heap.size with state := .exhausted })).tail
    rw [post_df] at h3
    exact h3
theorem s_retm {D : Nat} {rs : List ResultVar} {vs : List Value} (hr : X.fn.results = rs.toArray) (hp : Pick As (.obj D (.deferred (some []))) As') (hv : RV X.P L As' rs vs) (h : ∀ w, HS w0 M As' w → X.R (.returned (retV vs)) w) (hrd : X.rd = none := by rfl) (hdf : X.df = [D] := by rfl) : S X (.c .ret :: k) L (HS w0 M As) := by
  refine s_ret (se_ret_pop fun a w ha hw => ?_)
  show (match X.rd with | none => bodyPostM X.F 0 X.P X.fn X.R .ret a w | some l => roundPost X.P l X.R .ret a w)
  rw [hrd]
  show LeavesInM X.F 0 X.P X.fn a.tmps X.R a.defers .returning w
  rw [ha.defers, hdf]
  have h1 := (hw.putObj hp (.deferred none)).tail
  refine ⟨by simp, .inl ⟨D, _, rfl, run_takeDeferred (hw.obj_get hp), retV vs, ?_, h _ h1⟩⟩
  have hm := hv.run ha h1
  rw [results_eq hr, Array.mapM_eq_mapM_toList]
  simp only [Sem.run_bind, Sem.run_map, hm, Result.andThen_ok, Sem.run_pure]
  match vs with
  | [] => rfl
  | [v] => rfl
  | u :: v :: vs => simp [retV]
end
end Gx
namespace Gx
open Go Go.RowKit
set_option linter.unusedVariables false
set_option linter.unusedSectionVars false
theorem FR.round2 {n : Nat} {L : Slots} {a : Act} (h : FR n [] L a) (d d' : Nat) (v v' : Value) (hd : Nat.blt d n = true) (hd' : Nat.blt d' n = true) : FR n [] ((d', v') :: (d, v) :: L) { tmps := ((#[d, d'] : Array Tmp).zip #[v, v']).foldl (fun t (p, v) => t.setIfInBounds p v) a.tmps, defers := [] } := by
  have h1 := (h.put d v hd).put d' v' hd'
  have e : ((#[d, d'] : Array Tmp).zip #[v, v']).foldl (fun t (p, v) => t.setIfInBounds p v) a.tmps = (a.tmps.setIfInBounds d v).setIfInBounds d' v' := by simp
  rw [e]
  exact ⟨rfl, h1.size, h1.slot⟩
def HA.pure (p : Prop) : HA := ⟨[], fun _ => p, fun _ _ _ h => h⟩
section
variable {w0 w : World} {M : List Nat} {As As' : List HA} {p : Prop}
theorem HS.add_pure (hp : p) (h : HS w0 M As w) : HS w0 M (.pure p :: As) w :=
  ⟨h.os, h.tape, h.output, h.size, h.old, fun A hA => by
    rcases List.mem_cons.1 hA with rfl | hA
    · exact hp
    · exact h.ok A hA, fun A hA b hb => by
    rcases List.mem_cons.1 hA with rfl | hA
    · cases hb
    · exact h.lt A hA b hb, List.pairwise_cons.2 ⟨fun A _ b hb => (nomatch hb), h.sep⟩⟩
theorem HS.get_pure (h : HS w0 M As w) (hp : Pick As (.pure p) As') : p := (h.pick hp).head
theorem HS.rw_ownF {α : Type} [Inhabited α] {vals : α → List Value} {sz : Nat} (hv : ∀ x, (vals x).length = sz) {Cs Ds Es : List HA} {a : Option Addr} {cap n t : Nat} {l : List α} (h : HS w0 M As w) (hp : Picks As Cs Ds) (hp2 : Pick Ds (.own (.slice a n cap) t sz n (l.flatMap vals)) Es) (hn : n = l.length) : Rw vals sz w (fps Cs) a l := by
  subst hn
  refine ⟨fun hn => ?_⟩
  have h1 : HS w0 M (.own (.slice a l.length cap) t sz l.length (l.flatMap vals) :: (Cs ++ Es)) w := h.perm (hp.trans ((hp2.perm.append_left Cs).trans List.perm_middle))
  obtain ⟨g, cap', e, _, _, _, h2⟩ := h1.own_open' hn
  injection e with e1 e2 e3
  subst e1
  have h3 : HS w0 M (Cs ++ .blk g t (cap' * sz) (l.flatMap vals) :: Es) w := h2.perm List.perm_middle.symm
  refine ⟨g, 0, rfl, fun i hi => ⟨hv _, fun j v hjv => ?_⟩⟩
  have hj : j < sz := by
    rw [← hv (nth l i)]
    exact (List.getElem?_eq_some_iff.1 hjv).1
  have := HS.rd_blkF (i := i * sz + j) h3 (.refl _) .here (v := v) (by rw [flat_get hv l i j _ (nth_get hi) hj]; exact hjv)
  rw [Nat.zero_add]
  exact this
theorem s_endm {X : Ctx} {L : Slots} {D : Nat} (hr : X.fn.results = #[]) (hp : Pick As (.obj D (.deferred (some []))) As') (h : ∀ w, HS w0 M As' w → X.R (.returned (.tuple #[])) w) (hrd : X.rd = none := by rfl) (hdf : X.df = [D] := by rfl) : S X [] L (HS w0 M As) := by
  intro a w ha hw
  show (match X.rd with | none => bodyPostM X.F 0 X.P X.fn X.R .normal a w | some l => roundPost X.P l X.R .normal a w)
  rw [hrd]
  show LeavesInM X.F 0 X.P X.fn a.tmps X.R a.defers .returning w
  rw [ha.defers, hdf]
  have h1 := (hw.putObj hp (.deferred none)).tail
  exact ⟨by simp, .inl ⟨D, _, rfl, run_takeDeferred (hw.obj_get hp), .tuple #[], results_none hr _ _ _, h _ h1⟩⟩
end
theorem s_cutS {X : Ctx} {k : List KI} {L : Slots} {C : World → Prop} {α : Type} {c : Code} (md : List Nat) (Lm : α → Slots) (I : α → Prop) (h1 : S X (.c c :: .join (AtI X.n X.df (fun x => Lm x ++ dropL md L) (fun _ => C) I) :: k) L C) (h2 : ∀ x, I x → S X k (Lm x ++ dropL md L) C) : S X (.c c :: k) L C :=
  s_cutI md Lm (fun _ => C) I h1 h2
end Gx
namespace Gx
set_option linter.unusedSimpArgs false
set_option linter.unusedVariables false
set_option linter.unusedSectionVars false
open Go Go.RowKit
abbrev iN (P : List Nat) : List Int := P.map fun i : Nat => (i : Int)
theorem iN_get {P : List Nat} {k : Nat} (h : k < P.length) : (iN P).getD k 0 = ((nth P k : Nat) : Int) := by
  rw [getD_map (d := 0) h]
  rfl
theorem iN_nth {P : List Nat} {k : Nat} (h : k < P.length) : nth (iN P) k = ((nth P k : Nat) : Int) := iN_get h
theorem iN_len (P : List Nat) : (iN P).length = P.length := by simp
def GrwOk (mo : Int) : List Nd → List Nat → Prop
  | _, [] => True
  | ns, i :: P => (i < ns.length ∧ (0 < i → mo < ((nth ns i).es.length : Int) → SpOk mo ns i)) ∧ GrwOk mo (grw1 mo ns i) P
structure RootOk (mo rm : Int) (ns : List Nd) : Prop where
  lt : 0 < ns.length
  len : ns.length ≤ 900
  us : (nth ns 0).us = true
  spl : rm < ((nth ns 0).es.length : Int) → mo < ((nth (lowN ns).2 (lowN ns).1).es.length : Int) → SpOk mo (lowN ns).2 (lowN ns).1
theorem lowN_lt (ns : List Nd) : (lowN ns).1 < (lowN ns).2.length := Nat.lt_of_lt_of_le (freN_lt ns) (by unfold lowN; simp only [csN_len, esN_len]; exact Nat.le_refl _)
theorem rev_get {P : List Nat} {k : Nat} (h : k < P.length) : P.reverse[k]? = some (nth P (P.length - 1 - k)) := by
  rw [List.getElem?_reverse h]
  exact nth_get (by omega)
theorem rev_drop {P : List Nat} {k : Nat} (h : k < P.length) : P.reverse.drop k = nth P (P.length - 1 - k) :: P.reverse.drop (k + 1) := by
  have h1 : k < P.reverse.length := by rw [List.length_reverse]; exact h
  rw [List.drop_eq_getElem_cons h1]
  congr 1
  have := rev_get h
  rw [List.getElem?_eq_getElem h1] at this
  exact Option.some.inj this
theorem rev_take {P : List Nat} {k : Nat} (h : k < P.length) : P.reverse.take (k + 1) = P.reverse.take k ++ [nth P (P.length - 1 - k)] := by
  rw [List.take_add_one, rev_get h]
  rfl
theorem grwW_snoc (mo : Int) (ns : List Nd) (P : List Nat) (i : Nat) : grwW mo ns (P ++ [i]) = grw1 mo (grwW mo ns P) i := by
  unfold grwW
  rw [List.foldl_append]
  rfl
def leafN (co : Int) (ns : List Nd) (key : List UInt8) : Nat := nth (pathN co ns key).1 ((pathN co ns key).1.length - 1)
def insB (co : Int) (ns : List Nd) (x : TEnt) : List Nd := esN ns (leafN co ns x.key) (insAt (nth ns (leafN co ns x.key)).es (pathN co ns x.key).2.1 x)
def insT (co mo rm : Int) (ns : List Nd) (x : TEnt) : List Nd := if (pathN co ns x.key).2.2 = true then ns else grwN mo rm (insB co ns x) (pathN co ns x.key).1.reverse
def insE (co mo rm : Int) (ns : List Nd) (x : TEnt) : Int := if (pathN co ns x.key).2.2 = true then 5 else if (insT co mo rm ns x).length ≤ 120 then 0 else 16
structure InsOk (co mo rm : Int) (ns : List Nd) (x : TEnt) : Prop where
  ne : 0 < (pathN co ns x.key).1.length
  len : (pathN co ns x.key).1.length ≤ 900
  lf : leafN co ns x.key < ns.length
  es : (nth ns (leafN co ns x.key)).es.length ≤ 900
  pl : (pathN co ns x.key).2.1 ≤ (nth ns (leafN co ns x.key)).es.length
  grw : GrwOk mo (insB co ns x) (pathN co ns x.key).1.reverse
  root : RootOk mo rm (grwW mo (insB co ns x) (pathN co ns x.key).1.reverse)
section
variable {w0 w : World} {M : List Nat} {As As' : List HA} {a : Option Addr} {cap : Nat} {P : List Nat}
theorem HS.kids_some {l : List Int} (hn : 0 < l.length) (h : HS w0 M As w) (hp : Pick As (.kids a cap l) As') : ∃ g, a = some ⟨g, 0, none⟩ := by
  obtain ⟨g, e, _⟩ := HS.own_blk hn hp h
  exact ⟨g, e⟩
theorem HS.path_rd {k g : Nat} (hk : k < P.length) (hg : a = some ⟨g, 0, none⟩) (h : HS w0 M As w) (hp : Pick As (.kids a cap (iN P)) As') : Rd w [] g (0 + k * 1) (.int .i64 ((nth P k : Nat) : Int)) := by
  have h1 := Rw.rd (h.rw_own (vals := inV) (l := iN P) iv1 hp rfl) (i := k) (by rw [iN_len]; exact hk) 0 (.int .i64 ((nth P k : Nat) : Int)) (by rw [iN_nth hk]; rfl)
  rw [hg] at h1
  exact h1
end
theorem tok_key {co : Int} {ns : List Nd} (h : TOk co ns) : ∀ i, i < ns.length → ∀ x ∈ (nth ns i).es, keyOk co x.key = true ∧ x.key.length ≤ 1000000 := fun i hi x hx => by
  have h1 := entE_key (h.ents i hi x hx)
  have h2 := keyOk_len h1
  exact ⟨h1, by omega⟩
theorem set_nth_id {L : List LNd} {i : Nat} (hi : i < L.length) : L.set i (nth L i) = L := by
  apply List.ext_getElem?
  intro j
  rw [List.getElem?_set]
  split
  · rename_i h
    subst h
    rw [nth_get hi]
  · rfl
section
variable {w0 w : World} {M : List Nat} {As A1 A2 A3 : List HA} {et : Nat} {L : List LNd} {i t gn cap nt' : Nat} {y : LNd}
theorem HS.es_rdB {k g : Nat} (hi : i < L.length) (hne : t ≠ i) (hk : k < (nth L i).es.length) (hg : (nth L i).ea = some ⟨g, 0, none⟩) (h : HS w0 M As w) (hp : Pick As (.star ((L.set t y).map (subN et))) A1) : ∀ j v, (TEnt.vals (nth (nth L i).es k))[j]? = some v → Rd w [] g (0 + k * 2 + j) v := by
  have e := nth_set_other (L := L) hi hne y
  have h1 := HS.es_rd (L := L.set t y) (i := i) (k := k) (g := g) (by rw [List.length_set]; exact hi) (by rw [e]; exact hk) (by rw [e]; exact hg) h hp
  rw [e] at h1
  exact h1
theorem HS.cs_rdB {k g : Nat} (hi : i < L.length) (hne : t ≠ i) (hk : k < (nth L i).cs.length) (hg : (nth L i).ca = some ⟨g, 0, none⟩) (h : HS w0 M As w) (hp : Pick As (.star ((L.set t y).map (subN et))) A1) : Rd w [] g (0 + k * 1) (.int .i64 ((nth L i).cs.getD k 0)) := by
  have e := nth_set_other (L := L) hi hne y
  have h1 := HS.cs_rd (L := L.set t y) (i := i) (k := k) (g := g) (by rw [List.length_set]; exact hi) (by rw [e]; exact hk) (by rw [e]; exact hg) h hp
  rw [e] at h1
  exact h1
theorem HS.es_open {g : Nat} (hi : i < L.length) (hn : 0 < (nth L i).es.length) (hg : (nth L i).ea = some ⟨g, 0, none⟩) (h : HS w0 M As w) (hp : Pick As (.star (L.map (subN et))) A1) : HS w0 M (.blk g et ((nth L i).ec * 2) ((nth L i).es.flatMap TEnt.vals) :: .star ((L.set i (nth L i).noE).map (subN et)) :: A1) w := by
  obtain ⟨g', e, _, _, _, _, h1⟩ := HS.own_blk hn .here (HS.es_take hi h hp)
  rw [hg] at e
  injection e with e
  injection e with e
  subst e
  exact h1
theorem set_flat {es : List TEnt} {k : Nat} (hk : k < es.length) (x : TEnt) : setMany (es.flatMap TEnt.vals) (k * 2) (TEnt.vals x) = (es.set k x).flatMap TEnt.vals := by
  have h := flat_set ev2 es k 0 (TEnt.vals x) (nth es k) x (nth_get hk) rfl (by simp [TEnt.vals])
  rw [Nat.add_zero] at h
  exact h
theorem HS.es_upd {g k : Nat} {x : TEnt} (hi : i < L.length) (hk : k < (nth L i).es.length) (hg : (nth L i).ea = some ⟨g, 0, none⟩) (h : HS w0 M As w)
    (hp : Pick As (.blk g et ((nth L i).ec * 2) (setMany ((nth L i).es.flatMap TEnt.vals) (k * 2) (TEnt.vals x))) A1) (hp2 : Pick A1 (.star ((L.set i (nth L i).noE).map (subN et))) A2) (hp3 : Pick A2 (.blk gn nt' (cap * 3) (L.flatMap LNd.vals)) A3) (hc : (nth L i).es.length ≤ (nth L i).ec ∧ (nth L i).ec ≤ maxLen) :
    ∃ L', NdSet L L' i { nth L i with es := (nth L i).es.set k x } ∧ HS w0 M (.blk gn nt' (cap * 3) (L'.flatMap LNd.vals) :: .star (L'.map (subN et)) :: A3) w := by
  refine ⟨_, ⟨hi, rfl⟩, ?_⟩
  have h1 := h.pick hp
  rw [set_flat hk] at h1
  have e1 : ((nth L i).es.set k x).length = (nth L i).es.length := List.length_set
  have h2 := HS.own_shut (n := ((nth L i).es.set k x).length) h1 (flat_length ev2 _) (by rw [e1]; exact hc.1) hc.2
  have h3 := HS.es_back hi (es := (nth L i).es.set k x) h2 .here hp2
  have h4 := h3.pick (.there hp3)
  have e : (L.set i { nth L i with es := (nth L i).es.set k x }).flatMap LNd.vals = L.flatMap LNd.vals := by
    have e2 := node_es hi (nth L i).ea (nth L i).ec ((nth L i).es.set k x)
    rw [e1] at e2
    have e3 := node_es hi (nth L i).ea (nth L i).ec (nth L i).es
    have e4 : L.set i { nth L i with ea := (nth L i).ea, ec := (nth L i).ec, es := (nth L i).es } = L := set_nth_id hi
    rw [e4] at e3
    rw [← e2, e3]
  rw [e]
  have e5 : ({ nth L i with ea := some ⟨g, 0, none⟩, ec := (nth L i).ec, es := (nth L i).es.set k x } : LNd) = { nth L i with es := (nth L i).es.set k x } := by
    show LNd.mk _ _ _ _ _ _ _ = LNd.mk _ _ _ _ _ _ _
    rw [← hg]
  rw [e5] at h4
  exact h4
end
section
variable {w0 w : World} {M : List Nat} {As A1 A2 A3 : List HA} {et : Nat} {L : List LNd} {i gn cap nt' : Nat}
theorem HS.es_setA (hi : i < L.length) {ea : Option Addr} {ec : Nat} {x : TEnt} (h : HS w0 M As w) (hp : Pick As (.blk gn nt' (cap * 3) (setMany (L.flatMap LNd.vals) (i * 3 + 1) [.slice ea ((nth L i).es.length + 1) ec])) A1) (hp2 : Pick A1 (.own (.slice ea ((nth L i).es.length + 1) ec) et 2 ((nth L i).es.length + 1) ((nth L i).es.flatMap TEnt.vals ++ TEnt.vals x)) A2) (hp3 : Pick A2 (.star ((L.set i (nth L i).noE).map (subN et))) A3) :
    ∃ L', NdSet L L' i { nth L i with ea := ea, ec := ec, es := (nth L i).es ++ [x] } ∧ HS w0 M (.blk gn nt' (cap * 3) (L'.flatMap LNd.vals) :: .star (L'.map (subN et)) :: A3) w := by
  have e1 : ((nth L i).es ++ [x]).length = (nth L i).es.length + 1 := by simp
  have e2 : ((nth L i).es ++ [x]).flatMap TEnt.vals = (nth L i).es.flatMap TEnt.vals ++ TEnt.vals x := by simp
  have h1 := h.pick hp
  have h2 := h1.perm (List.Perm.cons _ hp2.perm)
  rw [← e1, ← e2] at h2
  exact HS.es_setB hi (es := (nth L i).es ++ [x]) h2 .here .here hp3
theorem HS.cs_setA (hi : i < L.length) {ca : Option Addr} {cc : Nat} {x : Int} (h : HS w0 M As w) (hp : Pick As (.blk gn nt' (cap * 3) (setMany (L.flatMap LNd.vals) (i * 3 + 2) [.slice ca ((nth L i).cs.length + 1) cc])) A1) (hp2 : Pick A1 (.own (.slice ca ((nth L i).cs.length + 1) cc) 3 1 ((nth L i).cs.length + 1) ((nth L i).cs.flatMap inV ++ inV x)) A2) (hp3 : Pick A2 (.star ((L.set i (nth L i).noC).map (subN et))) A3) :
    ∃ L', NdSet L L' i { nth L i with ca := ca, cc := cc, cs := (nth L i).cs ++ [x] } ∧ HS w0 M (.blk gn nt' (cap * 3) (L'.flatMap LNd.vals) :: .star (L'.map (subN et)) :: A3) w := by
  have e1 : ((nth L i).cs ++ [x]).length = (nth L i).cs.length + 1 := by simp
  have e2 : ((nth L i).cs ++ [x]).flatMap inV = (nth L i).cs.flatMap inV ++ inV x := by simp
  have h1 := h.pick hp
  have h2 := h1.perm (List.Perm.cons _ hp2.perm)
  rw [← e1, ← e2] at h2
  exact HS.cs_setB hi (cs := (nth L i).cs ++ [x]) h2 .here .here hp3
end
def givF (ns : List Nd) (p k f t : Nat) : List Nd :=
  let P := nth ns p; let F := nth ns f; let T := nth ns t
  let n := esN (esN (esN ns t (insAt T.es 0 (nth P.es k))) p (P.es.set k (nth F.es (F.es.length - 1)))) f (F.es.take (F.es.length - 1))
  if F.cs.length = 0 then n else csN (csN n t (insAt T.cs 0 (F.cs.getD (F.cs.length - 1) 0))) f (F.cs.take (F.cs.length - 1))
def givB (ns : List Nd) (p k f t : Nat) : List Nd :=
  let P := nth ns p; let F := nth ns f; let T := nth ns t
  let n := esN (esN (esN ns t (T.es ++ [nth P.es k])) p (P.es.set k (nth F.es 0))) f (others F.es 0)
  if F.cs.length = 0 then n else csN (csN n t (T.cs ++ [F.cs.getD 0 0])) f (others F.cs 0)
theorem givF_0 {ns : List Nd} {p k f t : Nat} {P F T : Nd} (hP : nth ns p = P) (hF : nth ns f = F) (hT : nth ns t = T) (h : F.cs.length = 0) : givF ns p k f t = esN (esN (esN ns t (insAt T.es 0 (nth P.es k))) p (P.es.set k (nth F.es (F.es.length - 1)))) f (F.es.take (F.es.length - 1)) := by
  subst hP hF hT
  exact if_pos h
theorem givF_1 {ns : List Nd} {p k f t : Nat} {P F T : Nd} (hP : nth ns p = P) (hF : nth ns f = F) (hT : nth ns t = T) (h : 0 < F.cs.length) : givF ns p k f t = csN (csN (esN (esN (esN ns t (insAt T.es 0 (nth P.es k))) p (P.es.set k (nth F.es (F.es.length - 1)))) f (F.es.take (F.es.length - 1))) t (insAt T.cs 0 (F.cs.getD (F.cs.length - 1) 0))) f (F.cs.take (F.cs.length - 1)) := by
  subst hP hF hT
  exact if_neg (by omega)
theorem givB_0 {ns : List Nd} {p k f t : Nat} {P F T : Nd} (hP : nth ns p = P) (hF : nth ns f = F) (hT : nth ns t = T) (h : F.cs.length = 0) : givB ns p k f t = esN (esN (esN ns t (T.es ++ [nth P.es k])) p (P.es.set k (nth F.es 0))) f (others F.es 0) := by
  subst hP hF hT
  exact if_pos h
theorem givB_1 {ns : List Nd} {p k f t : Nat} {P F T : Nd} (hP : nth ns p = P) (hF : nth ns f = F) (hT : nth ns t = T) (h : 0 < F.cs.length) : givB ns p k f t = csN (csN (esN (esN (esN ns t (T.es ++ [nth P.es k])) p (P.es.set k (nth F.es 0))) f (others F.es 0)) t (T.cs ++ [F.cs.getD 0 0])) f (others F.cs 0) := by
  subst hP hF hT
  exact if_neg (by omega)
structure GivOk (ns : List Nd) (p k f t : Nat) : Prop where
  pl : p < ns.length
  fl : f < ns.length
  tl : t < ns.length
  pf : p ≠ f
  pt : p ≠ t
  ft : f ≠ t
  ke : k < (nth ns p).es.length
  kc : k + 1 < (nth ns p).cs.length
  fe : 0 < (nth ns f).es.length
  len : ns.length ≤ 900
  sm : Sm 900 ns
abbrev LNd.gone : LNd := ⟨false, none, 0, [], none, 0, []⟩
theorem node_set3 {l : List LNd} {k : Nat} (hk : k < l.length) (x : LNd) : setMany (l.flatMap LNd.vals) (k * 3) (LNd.vals x) = (l.set k x).flatMap LNd.vals := by
  have h := flat_set nv3 l k 0 (LNd.vals x) (nth l k) x (nth_get hk) rfl (by simp [LNd.vals])
  rw [Nat.add_zero] at h
  exact h
section
variable {w0 w : World} {M : List Nat} {As A1 A2 A3 : List HA} {et : Nat} {L : List LNd} {i j gn cap nt' : Nat}
theorem HS.star_gone (hi : i < L.length) (h : HS w0 M As w) (hp : Pick As (.star (L.map (subN et))) A1) : HS w0 M (.star ((L.set i LNd.gone).map (subN et)) :: A1) w := by
  have h1 := ((h.node_out hi hp).tail.tail.own_nil 3 1).own_nil et 2
  exact HS.node_in hi LNd.gone h1
theorem HS.node_gone (hi : i < L.length) (h : HS w0 M As w)
    (hp : Pick As (.blk gn nt' (cap * 3) (setMany (L.flatMap LNd.vals) (i * 3) [.bool false, .slice none 0 0, .slice none 0 0])) A1) (hp3 : Pick A1 (.star (L.map (subN et))) A3) :
    ∃ L', NdSet L L' i LNd.gone ∧ HS w0 M (.blk gn nt' (cap * 3) (L'.flatMap LNd.vals) :: .star (L'.map (subN et)) :: A3) w := by
  refine ⟨_, ⟨hi, rfl⟩, ?_⟩
  rw [← node_set3 hi]
  exact (HS.star_gone hi (h.pick hp) (.there hp3)).perm (List.Perm.swap ..)
end
def mrgN (ns : List Nd) (p k t f : Nat) : List Nd :=
  (csN (esN (csN (esN ns t ((nth ns t).es ++ nth (nth ns p).es k :: (nth ns f).es)) t ((nth ns t).cs ++ (nth ns f).cs)) p (others (nth ns p).es k)) p (others (nth ns p).cs (k + 1))).set f ⟨false, [], []⟩
structure MrgOk (ns : List Nd) (p k f t : Nat) : Prop where
  pl : p < ns.length
  fl : f < ns.length
  tl : t < ns.length
  pf : p ≠ f
  pt : p ≠ t
  ft : f ≠ t
  ke : k < (nth ns p).es.length
  kc : k + 1 < (nth ns p).cs.length
  len : ns.length ≤ 900
  sm : Sm 900 ns
theorem cat3 {α : Type} (a b c : RowV α) : [a, b, c].flatMap RowV.l = a.l ++ (b.l ++ c.l) := by simp
theorem cat2 {α : Type} (a b : RowV α) : [a, b].flatMap RowV.l = a.l ++ b.l := by simp
def kdN (ns : List Nd) (p k : Nat) : Nat := ((nth ns p).cs.getD k 0).toNat
def richN (mo : Int) (ns : List Nd) (p : Nat) (x : Int) : Bool := (decide (0 ≤ x) && decide (x ≤ ((nth ns p).cs.length : Int) - 1)) && decide (mo / 2 < ((nth ns (kdN ns p x.toNat)).es.length : Int))
def filP (mo : Int) (ns : List Nd) (p k : Nat) : List Nd :=
  if richN mo ns p ((k : Int) - 1) = true then givF ns p (k - 1) (kdN ns p (k - 1)) (kdN ns p k)
  else if richN mo ns p ((k : Int) + 1) = true then givB ns p k (kdN ns p (k + 1)) (kdN ns p k)
  else if 0 < k then mrgN ns p (k - 1) (kdN ns p (k - 1)) (kdN ns p k)
  else if 1 < (nth ns p).cs.length then mrgN ns p k (kdN ns p k) (kdN ns p (k + 1))
  else ns
def filN (mo : Int) (ns : List Nd) (i : Nat) : List Nd := filP mo ns (parN (i : Int) ns 0).1 (parN (i : Int) ns 0).2
structure FilOk (mo : Int) (ns : List Nd) (p k : Nat) : Prop where
  mo0 : 0 ≤ mo ∧ mo ≤ 1000
  pl : p < ns.length
  kl : k < (nth ns p).cs.length
  sh : (nth ns p).cs.length = (nth ns p).es.length + 1
  kid : ∀ x, x < (nth ns p).cs.length → 0 ≤ (nth ns p).cs.getD x 0 ∧ kdN ns p x < ns.length ∧ p ≠ kdN ns p x
  dis : ∀ x y, x < (nth ns p).cs.length → y < (nth ns p).cs.length → x ≠ y → kdN ns p x ≠ kdN ns p y
  len : ns.length ≤ 900
  sm : Sm 900 ns
section
variable {mo : Int} {ns : List Nd} {p k : Nat}
theorem FilOk.kd (h : FilOk mo ns p k) {x : Nat} (hx : x < (nth ns p).cs.length) : (nth ns p).cs.getD x 0 = (kdN ns p x : Int) := (Int.toNat_of_nonneg (h.kid x hx).1).symm
theorem FilOk.giv (h : FilOk mo ns p k) {e x y : Nat} (hx : x < (nth ns p).cs.length) (hy : y < (nth ns p).cs.length) (hxy : x ≠ y) (he : e + 1 < (nth ns p).cs.length) (hf : 0 < (nth ns (kdN ns p x)).es.length) : GivOk ns p e (kdN ns p x) (kdN ns p y) :=
  ⟨h.pl, (h.kid x hx).2.1, (h.kid y hy).2.1, (h.kid x hx).2.2, (h.kid y hy).2.2, h.dis x y hx hy hxy, by have := h.sh; omega, he, hf, h.len, h.sm⟩
theorem FilOk.mrg (h : FilOk mo ns p k) {e x y : Nat} (hx : x < (nth ns p).cs.length) (hy : y < (nth ns p).cs.length) (hxy : x ≠ y) (he : e + 1 < (nth ns p).cs.length) : MrgOk ns p e (kdN ns p x) (kdN ns p y) :=
  ⟨h.pl, (h.kid x hx).2.1, (h.kid y hy).2.1, (h.kid x hx).2.2, (h.kid y hy).2.2, h.dis x y hx hy hxy, by have := h.sh; omega, he, h.len, h.sm⟩
theorem rich_in {x : Int} (h : richN mo ns p x = true) : 0 ≤ x ∧ x ≤ ((nth ns p).cs.length : Int) - 1 ∧ mo / 2 < ((nth ns (kdN ns p x.toNat)).es.length : Int) := by
  unfold richN at h
  simp only [Bool.and_eq_true, decide_eq_true_eq] at h
  exact ⟨h.1.1, h.1.2, h.2⟩
theorem rich_t {P : Nd} {x : Int} (hP : nth ns p = P) (h : 0 ≤ x ∧ x ≤ (P.cs.length : Int) - 1) : richN mo ns p x = decide (mo / 2 < ((nth ns (kdN ns p x.toNat)).es.length : Int)) := by
  subst hP
  unfold richN
  rw [decide_eq_true h.1, decide_eq_true h.2]
  rfl
theorem rich_f {P : Nd} {x : Int} (hP : nth ns p = P) (h : (decide (0 ≤ x) && decide (x ≤ (P.cs.length : Int) - 1)) = false) : richN mo ns p x = false := by
  subst hP
  unfold richN
  rw [h]
  rfl
end
def tln (ns : List Nd) : Nat → Nat
  | 0 => 0
  | n + 1 => if (nth ns n).us = true then n + 1 else tln ns n
def trmN (ns : List Nd) : List Nd := ns.take (tln ns ns.length)
theorem tln_stop {ns : List Nd} {m : Nat} (h0 : 0 < m) (h : (nth ns (m - 1)).us = true) : tln ns m = m := by
  obtain ⟨n, rfl⟩ : ∃ n, m = n + 1 := ⟨m - 1, by omega⟩
  exact if_pos h
theorem tln_step {ns : List Nd} {m : Nat} (h0 : 0 < m) (h : ¬ (nth ns (m - 1)).us = true) : tln ns m = tln ns (m - 1) := by
  obtain ⟨n, rfl⟩ : ∃ n, m = n + 1 := ⟨m - 1, by omega⟩
  exact if_neg h
theorem tln_le (ns : List Nd) : ∀ m, tln ns m ≤ m
  | 0 => Nat.le_refl _
  | m + 1 => by
    rw [tln]
    split
    · exact Nat.le_refl _
    · exact Nat.le_succ_of_le (tln_le ns m)
section
variable {w0 w : World} {M : List Nat} {As As' : List HA} {et : Nat} {L : List LNd}
theorem HS.drop_all : ∀ (Bs : List HA), HS w0 M (Bs ++ As) w → HS w0 M As w
  | [], h => h
  | B :: Bs, h => HS.drop_all Bs h.tail
theorem HS.star_take (m : Nat) (h : HS w0 M As w) (hp : Pick As (.star (L.map (subN et))) As') : HS w0 M (.star ((L.take m).map (subN et)) :: As') w := by
  have h1 := h.pick hp
  rw [← List.take_append_drop m L, List.map_append] at h1
  have h2 := h1.star_open
  rw [List.append_assoc] at h2
  have h3 := h2.perm (As' := (L.drop m).map (subN et) ++ ((L.take m).map (subN et) ++ As')) (by rw [← List.append_assoc, ← List.append_assoc]; exact List.perm_append_comm.append_right _)
  have h4 := HS.star_close (HS.drop_all _ h3)
  exact h4
end
theorem take_flat {L : List LNd} {m : Nat} : L.flatMap LNd.vals = (L.take m).flatMap LNd.vals ++ (L.drop m).flatMap LNd.vals := by
  rw [← List.flatMap_append, List.take_append_drop]
def rgtN (ns : List Nd) : Nat → Nat → List Nat
  | 0, i => [i]
  | f + 1, i => if (nth ns i).cs.length = 0 then [i] else i :: rgtN ns f (kdN ns i ((nth ns i).cs.length - 1))
def RgtOk (ns : List Nd) : Nat → Nat → Prop
  | 0, _ => False
  | f + 1, i => i < ns.length ∧ ((nth ns i).cs.length = 0 ∨ (0 ≤ (nth ns i).cs.getD ((nth ns i).cs.length - 1) 0 ∧ RgtOk ns f (kdN ns i ((nth ns i).cs.length - 1))))
def lastN (P : List Nat) : Nat := nth P (P.length - 1)
def remQ (ns : List Nd) (P : List Nat) (at' : Nat) : List Nat := if (nth ns (lastN P)).cs.length = 0 then P else P ++ rgtN ns ns.length (kdN ns (lastN P) at')
def remK (ns : List Nd) (P : List Nat) (at' : Nat) : Nat := if (nth ns (lastN P)).cs.length = 0 then at' else (nth ns (lastN (remQ ns P at'))).es.length - 1
def rem1 (ns : List Nd) (P : List Nat) (at' : Nat) : List Nd := if (nth ns (lastN P)).cs.length = 0 then ns else esN ns (lastN P) ((nth ns (lastN P)).es.set at' (nth (nth ns (lastN (remQ ns P at'))).es ((nth ns (lastN (remQ ns P at'))).es.length - 1)))
def rem2 (ns : List Nd) (P : List Nat) (at' : Nat) : List Nd := esN (rem1 ns P at') (lastN (remQ ns P at')) (others (nth (rem1 ns P at') (lastN (remQ ns P at'))).es (remK ns P at'))
def fil1 (mo : Int) (ns : List Nd) (i : Nat) : List Nd := if 0 < i ∧ ((nth ns i).es.length : Int) < mo / 2 then filN mo ns i else ns
def filW (mo : Int) (ns : List Nd) (P : List Nat) : List Nd := P.foldl (fil1 mo) ns
def rotN (rm : Int) (ns : List Nd) : List Nd :=
  if (nth ns 0).es.length = 0 ∧ (nth ns 0).cs.length = 1 then
    if ((nth ns (kdN ns 0 0)).es.length : Int) ≤ rm then (ns.set 0 (nth ns (kdN ns 0 0))).set (kdN ns 0 0) ⟨false, [], []⟩ else ns
  else ns
def remN (mo rm : Int) (ns : List Nd) (P : List Nat) (at' : Nat) : List Nd := trmN (rotN rm (filW mo (rem2 ns P at') (remQ ns P at').reverse))
theorem filW_snoc (mo : Int) (ns : List Nd) (P : List Nat) (i : Nat) : filW mo ns (P ++ [i]) = fil1 mo (filW mo ns P) i := by
  unfold filW
  rw [List.foldl_append]
  rfl
def FilsOk (mo : Int) : List Nd → List Nat → Prop
  | _, [] => True
  | ns, i :: P => (i < ns.length ∧ (0 < i → ((nth ns i).es.length : Int) < mo / 2 → FilOk mo ns (parN (i : Int) ns 0).1 (parN (i : Int) ns 0).2)) ∧ FilsOk mo (fil1 mo ns i) P
structure RotOk (rm : Int) (ns : List Nd) : Prop where
  lt : 0 < ns.length
  len : ns.length ≤ 900
  us : (nth ns 0).us = true
  kid : (nth ns 0).cs.length = 1 → 0 < (nth ns 0).cs.getD 0 0 ∧ kdN ns 0 0 < ns.length ∧ (nth ns (kdN ns 0 0)).us = true
structure RemOk (mo rm : Int) (ns : List Nd) (P : List Nat) (at' : Nat) : Prop where
  mo0 : 0 ≤ mo ∧ mo ≤ 1000
  ne : 0 < P.length
  len : P.length ≤ 900
  nl : ns.length ≤ 900
  sm : Sm 900 ns
  lst : lastN P < ns.length
  atk : at' < (nth ns (lastN P)).es.length
  rgt : 0 < (nth ns (lastN P)).cs.length → at' < (nth ns (lastN P)).cs.length ∧ 0 ≤ (nth ns (lastN P)).cs.getD at' 0 ∧ RgtOk ns ns.length (kdN ns (lastN P) at') ∧ lastN P ≠ lastN (remQ ns P at') ∧ 0 < (nth ns (lastN (remQ ns P at'))).es.length ∧ lastN (remQ ns P at') < ns.length
  qn : 0 < (remQ ns P at').length ∧ (remQ ns P at').length ≤ 1900
  ql : lastN (remQ ns P at') < ns.length
  dl : remK ns P at' < (nth (rem1 ns P at') (lastN (remQ ns P at'))).es.length
  sm1 : Sm 900 (rem1 ns P at')
  fil : FilsOk mo (rem2 ns P at') (remQ ns P at').reverse
  rot : RotOk rm (filW mo (rem2 ns P at') (remQ ns P at').reverse)
abbrev ownP (a : Option Addr) (c : Nat) (P : List Nat) : HA := .own (.slice a P.length c) 3 1 P.length (P.map fun i : Nat => Value.int .i64 (i : Int))
theorem iN_flat (l : List Nat) : (iN l).flatMap inV = l.map fun i : Nat => Value.int .i64 (i : Int) := by
  induction l with
  | nil => rfl
  | cons x l ih =>
    rw [iN, List.map_cons, List.flatMap_cons, List.map_cons, ← ih]
    rfl
theorem kids_ownP (a : Option Addr) (c : Nat) (P : List Nat) : HA.kids a c (iN P) = ownP a c P := by
  unfold HA.kids
  rw [iN_flat, iN_len]
section
variable {w0 w : World} {M : List Nat} {As A1 A2 A3 : List HA} {a : Option Addr} {c : Nat} {P : List Nat}
theorem HS.of_kids (h : HS w0 M As w) (hp : Pick As (.kids a c (iN P)) A1) : HS w0 M (ownP a c P :: A1) w := by
  rw [← kids_ownP]
  exact h.pick hp
theorem HS.pown_some (hn : 0 < P.length) (h : HS w0 M As w) (hp : Pick As (ownP a c P) A1) : ∃ g, a = some ⟨g, 0, none⟩ := by
  obtain ⟨g, e, _⟩ := HS.own_blk hn hp h
  exact ⟨g, e⟩
theorem HS.pown_row (h : HS w0 M As w) (hp : Pick As (ownP a c P) A1) : Rw inV 1 w [] a (iN P) := by
  have h1 := h.pick hp
  rw [← kids_ownP] at h1
  exact h1.rw_own (l := iN P) iv1 .here rfl
theorem HS.pown_rd {k g : Nat} (hk : k < P.length) (hg : a = some ⟨g, 0, none⟩) (h : HS w0 M As w) (hp : Pick As (ownP a c P) A1) : Rd w [] g (0 + k * 1) (.int .i64 ((nth P k : Nat) : Int)) := by
  have h1 := Rw.rd (h.pown_row hp) (i := k) (by rw [iN_len]; exact hk) 0 (.int .i64 ((nth P k : Nat) : Int)) (by rw [iN_nth hk]; rfl)
  rw [hg] at h1
  exact h1
end
section
variable {w0 w : World} {M : List Nat} {As A1 A2 A3 : List HA} {et : Nat} {L : List LNd} {i j gn cap nt' : Nat}
theorem HS.node_rot (hi : i < L.length) (hj : j < L.length) (hne : i ≠ j) (h : HS w0 M As w)
    (hp : Pick As (.blk gn nt' (cap * 3) (setMany (setMany (L.flatMap LNd.vals) (j * 3) (LNd.vals (nth L i))) (i * 3) [.bool false, .slice none 0 0, .slice none 0 0])) A1) (hp3 : Pick A1 (.star (L.map (subN et))) A3) :
    ∃ L', (pln L' = ((pln L).set j (nth (pln L) i)).set i ⟨false, [], []⟩ ∧ L'.length = L.length) ∧ HS w0 M (.blk gn nt' (cap * 3) (L'.flatMap LNd.vals) :: .star (L'.map (subN et)) :: A3) w := by
  refine ⟨(L.set j (nth L i)).set i LNd.gone, ⟨by rw [pln_set, pln_set, pln_nth hi]; rfl, by rw [List.length_set, List.length_set]⟩, ?_⟩
  have e1 := node_set3 hj (nth L i)
  have e2 := node_set3 (l := L.set j (nth L i)) (k := i) (by rw [List.length_set]; exact hi) LNd.gone
  rw [← e2, ← e1]
  have h1 := HS.star_move hi hj hne (nth L i).us (h.pick hp) (.there hp3)
  have h2 := HS.star_gone (L := (L.set j (nth L i)).set i (nth L i).non) (i := i) (by rw [List.length_set, List.length_set]; exact hi) h1 .here
  rw [List.set_set] at h2
  exact h2.perm (List.Perm.swap ..)
end
theorem HS.nd_cells {w0 w : World} {M : List Nat} {As A1 : List HA} {L : List LNd} {i gn cap nt' : Nat} (hi : i < L.length) (h : HS w0 M As w) (hp : Pick As (.blk gn nt' (cap * 3) (L.flatMap LNd.vals)) A1) : ∀ j v, (LNd.vals (nth L i))[j]? = some v → Rd w [] gn (i * 3 + j) v := fun j v hv => by
  have hj : j < 3 := by
    have := (List.getElem?_eq_some_iff.1 hv).1
    exact this
  exact HS.nd_cell hi h hp j hv hj
theorem rgt_stop {ns : List Nd} {f i : Nat} (h : (nth ns i).cs.length = 0) : rgtN ns (f + 1) i = [i] := if_pos h
theorem rgt_step {ns : List Nd} {f i : Nat} (h : ¬ (nth ns i).cs.length = 0) : rgtN ns (f + 1) i = i :: rgtN ns f (kdN ns i ((nth ns i).cs.length - 1)) := if_neg h
theorem last_snoc (E : List Nat) (i : Nat) : lastN (E ++ [i]) = i := by
  unfold lastN
  rw [List.length_append, List.length_singleton, Nat.add_sub_cancel]
  exact nth_eq (by simp)
theorem kd_eq {ns : List Nd} {p x : Nat} {P : Nd} (hP : nth ns p = P) (h : 0 ≤ P.cs.getD x 0) : P.cs.getD x 0 = ((kdN ns p x : Nat) : Int) := by
  subst hP
  exact (Int.toNat_of_nonneg h).symm
section
variable {ns : List Nd} {P : List Nat} {k : Nat} {I F : Nd} {rm : Int}
theorem rem1_0 (hI : nth ns (lastN P) = I) (h : I.cs.length = 0) : rem1 ns P k = ns := by
  subst hI
  exact if_pos h
theorem rem1_1 (hI : nth ns (lastN P) = I) (hF : nth ns (lastN (remQ ns P k)) = F) (h : 0 < I.cs.length) : rem1 ns P k = esN ns (lastN P) (I.es.set k (nth F.es (F.es.length - 1))) := by
  subst hI hF
  exact if_neg (by omega)
theorem remK_0 (hI : nth ns (lastN P) = I) (h : I.cs.length = 0) : remK ns P k = k := by
  subst hI
  exact if_pos h
theorem remK_1 (hI : nth ns (lastN P) = I) (hF : nth ns (lastN (remQ ns P k)) = F) (h : 0 < I.cs.length) : remK ns P k = F.es.length - 1 := by
  subst hI hF
  exact if_neg (by omega)
theorem rotN_1 (hI : nth ns 0 = I) (h : I.es.length = 0 ∧ I.cs.length = 1) (hF : nth ns (kdN ns 0 0) = F) (h2 : (F.es.length : Int) ≤ rm) : rotN rm ns = (ns.set 0 (nth ns (kdN ns 0 0))).set (kdN ns 0 0) ⟨false, [], []⟩ := by
  subst hI hF
  unfold rotN
  rw [if_pos h, if_pos h2]
theorem rotN_2 (hI : nth ns 0 = I) (h : I.es.length = 0 ∧ I.cs.length = 1) (hF : nth ns (kdN ns 0 0) = F) (h2 : ¬ (F.es.length : Int) ≤ rm) : rotN rm ns = ns := by
  subst hI hF
  unfold rotN
  rw [if_pos h, if_neg h2]
theorem rotN_3 (hI : nth ns 0 = I) (h : ¬ (I.es.length = 0 ∧ I.cs.length = 1)) : rotN rm ns = ns := by
  subst hI
  unfold rotN
  rw [if_neg h]
theorem rot_us (h : RotOk rm ns) : (nth (rotN rm ns) 0).us = true := by
  unfold rotN
  split
  · rename_i h1
    split
    · obtain ⟨h2, h3, h4⟩ := h.kid h1.2
      have hne : kdN ns 0 0 ≠ 0 := by
        unfold kdN
        omega
      rw [nth_set_nd, if_neg (fun e => hne e.1), nth_set_nd, if_pos ⟨rfl, h.lt⟩]
      exact h4
    · exact h.us
  · exact h.us
end
theorem list_ext_nth {α : Type} [Inhabited α] {l m : List α} (hl : l.length = m.length) (h : ∀ j, j < l.length → nth l j = nth m j) : l = m := by
  apply List.ext_getElem?
  intro j
  rcases Nat.lt_or_ge j l.length with hj | hj
  · rw [nth_get hj, nth_get (by omega), h j hj]
  · rw [List.getElem?_eq_none hj, List.getElem?_eq_none (by omega)]
def chgK (a b : List Nd) (k : Nat) : List Nat := (List.range k).filter fun i => decide (nth a i ≠ nth b i)
def chgN (a b : List Nd) : List Nat := chgK a b (max a.length b.length)
theorem chgK_eq {a b : List Nd} {k : Nat} (h : nth a k = nth b k) : chgK a b (k + 1) = chgK a b k := by
  unfold chgK
  rw [List.range_succ, List.filter_append]
  simp [h]
theorem chgK_ne {a b : List Nd} {k : Nat} (h : nth a k ≠ nth b k) : chgK a b (k + 1) = chgK a b k ++ [k] := by
  unfold chgK
  rw [List.range_succ, List.filter_append]
  simp [h]
theorem chgK_len (a b : List Nd) (k : Nat) : (chgK a b k).length ≤ k := by
  have := List.length_filter_le (fun i => decide (nth a i ≠ nth b i)) (List.range k)
  rw [List.length_range] at this
  exact this
theorem ent_ext {x y : TEnt} (h1 : (bs x.key).data.toList = (bs y.key).data.toList) (h2 : (bs x.val).data.toList = (bs y.val).data.toList) : x = y := by
  cases x
  cases y
  simp [bs] at h1 h2
  rw [h1, h2]
theorem pln_nth' (L : List LNd) (k : Nat) : nth (pln L) k = (nth L k).pl := by
  rcases Nat.lt_or_ge k L.length with h | h
  · exact pln_nth h
  · rw [nth_out (by rw [pln_len]; exact h), nth_out h]
    rfl
theorem Rw.nilR {α : Type} [Inhabited α] {vals : α → List Value} {sz : Nat} {w : World} {M : List Nat} {a : Option Addr} : Rw vals sz w M a ([] : List α) := ⟨fun h => absurd h (Nat.lt_irrefl _)⟩
theorem Nt.esA {w : World} {M : List Nat} {a : Option Addr} {L : List LNd} (h : Nt w M a L) (k : Nat) : Rw TEnt.vals 2 w M (nth L k).ea (nth L k).es := by
  rcases Nat.lt_or_ge k L.length with hk | hk
  · exact h.es hk
  · rw [nth_out hk]
    exact Rw.nilR
theorem Nt.csA {w : World} {M : List Nat} {a : Option Addr} {L : List LNd} (h : Nt w M a L) (k : Nat) : Rw inV 1 w M (nth L k).ca (nth L k).cs := by
  rcases Nat.lt_or_ge k L.length with hk | hk
  · exact h.cs hk
  · rw [nth_out hk]
    exact Rw.nilR
theorem nd_eq (n m : Nd) : decide (n = m) = (decide (n.us = m.us) && (decide (n.es = m.es) && decide (n.cs = m.cs))) := by
  cases n
  cases m
  simp only [Nd.mk.injEq]
  rw [Bool.decide_and, Bool.decide_and]
theorem alike_eq (n m : LNd) : ((n.us == m.us && decide (n.es = m.es)) && decide (n.cs = m.cs)) = decide (n.pl = m.pl) := by
  rw [nd_eq, Bool.and_assoc]
  rfl
theorem keyE_ok {co : Int} {k : List UInt8} (h : keyE co k = 0) : keyOk co k = true := by
  unfold keyE at h
  split at h
  · assumption
  · cases h
theorem sm_bd {ns : List Nd} (h : Bd ns) : Sm 100000 ns := fun k => by
  rcases Nat.lt_or_ge k ns.length with hk | hk
  · have h1 := h.es k hk
    have h2 := h.cs k hk
    omega
  · rw [nth_out hk]
    exact ⟨Nat.zero_le _, Nat.zero_le _⟩
theorem insE_0 {co mo rm : Int} {ns : List Nd} {x : TEnt} (h : insE co mo rm ns x = 0) : ¬ (pathN co ns x.key).2.2 = true ∧ (insT co mo rm ns x).length ≤ 120 := by
  unfold insE at h
  split at h
  · cases h
  · rename_i h1
    split at h
    · rename_i h2
      exact ⟨h1, h2⟩
    · cases h
theorem rw_take {α : Type} [Inhabited α] {vals : α → List Value} {sz : Nat} {w : World} {M : List Nat} {a : Option Addr} {l : List α} (h : Rw vals sz w M a l) (i : Nat) : Rw vals sz w M a (l.take i) :=
  ⟨fun hn => by
    rw [List.length_take] at hn
    obtain ⟨b, o, rfl, h2⟩ := h.at_ (by omega)
    refine ⟨b, o, rfl, fun j hj => ?_⟩
    rw [List.length_take] at hj
    have e : nth (l.take i) j = nth l j := nth_take (by omega)
    have h3 := h2 j (by omega)
    simp only [e]
    exact h3⟩
theorem plc_is {co : Int} {key : List UInt8} : ∀ {es : List TEnt} {k : Nat}, k ≤ es.length → (∀ q, q < k → cmpK co (nth es q).key key < 0) → ¬ (k < es.length ∧ cmpK co (nth es k).key key < 0) → plc co es key = k := by
  intro es k hk h1 h2
  have h3 := plc_le co key es
  rcases Nat.lt_trichotomy (plc co es key) k with h | h | h
  · exact absurd (h1 _ h) (plc_at co key es (by omega))
  · exact h
  · exact absurd ⟨by omega, plc_before co key es k h⟩ h2
abbrev LNd.fre : LNd := ⟨true, none, 0, [], none, 0, []⟩
section
variable {w0 w : World} {M : List Nat} {As A1 A2 A3 : List HA} {et : Nat} {L : List LNd} {i j gn cap nt' : Nat}
theorem HS.node_fre (hi : i < L.length) (h : HS w0 M As w)
    (hp : Pick As (.blk gn nt' (cap * 3) (setMany (L.flatMap LNd.vals) (i * 3) [.bool true, .slice none 0 0, .slice none 0 0])) A1) (hp3 : Pick A1 (.star (L.map (subN et))) A3) :
    ∃ L', NdSet L L' i LNd.fre ∧ HS w0 M (.blk gn nt' (cap * 3) (L'.flatMap LNd.vals) :: .star (L'.map (subN et)) :: A3) w := by
  refine ⟨_, ⟨hi, rfl⟩, ?_⟩
  rw [← node_set3 hi]
  have h1 := (((h.pick hp).node_out hi (.there hp3)).tail.tail.own_nil 3 1).own_nil et 2
  exact (HS.node_in hi LNd.fre h1).perm (List.Perm.swap ..)
end
section
variable {w0 w : World} {M : List Nat} {As A1 A2 A3 : List HA} {et : Nat} {L : List LNd} {i gn cap nt' : Nat}
theorem HS.es_setN (hi : i < L.length) {ea : Option Addr} {ec n : Nat} {es : List TEnt} {xs : List Value} (hn : n = es.length) (hx : xs = es.flatMap TEnt.vals) (h : HS w0 M As w) (hp : Pick As (.blk gn nt' (cap * 3) (setMany (L.flatMap LNd.vals) (i * 3 + 1) [.slice ea n ec])) A1) (hp2 : Pick A1 (.own (.slice ea n ec) et 2 n xs) A2) (hp3 : Pick A2 (.star (L.map (subN et))) A3) :
    ∃ L', NdSet L L' i { nth L i with ea := ea, ec := ec, es := es } ∧ HS w0 M (.blk gn nt' (cap * 3) (L'.flatMap LNd.vals) :: .star (L'.map (subN et)) :: A3) w := by
  subst hn hx
  exact HS.es_set hi h hp hp2 hp3
theorem HS.cs_setN (hi : i < L.length) {ca : Option Addr} {cc n : Nat} {cs : List Int} {xs : List Value} (hn : n = cs.length) (hx : xs = cs.flatMap inV) (h : HS w0 M As w) (hp : Pick As (.blk gn nt' (cap * 3) (setMany (L.flatMap LNd.vals) (i * 3 + 2) [.slice ca n cc])) A1) (hp2 : Pick A1 (.own (.slice ca n cc) 3 1 n xs) A2) (hp3 : Pick A2 (.star (L.map (subN et))) A3) :
    ∃ L', NdSet L L' i { nth L i with ca := ca, cc := cc, cs := cs } ∧ HS w0 M (.blk gn nt' (cap * 3) (L'.flatMap LNd.vals) :: .star (L'.map (subN et)) :: A3) w := by
  subst hn hx
  exact HS.cs_set hi h hp hp2 hp3
end
theorem cs_rowE {w : World} {n m : LNd} (he : n.ca = m.ca ∧ n.cc = m.cc ∧ n.cs = m.cs) (h : Rw inV 1 w [] n.ca n.cs) : Rw inV 1 w [] m.ca m.cs := by
  rw [← he.1, ← he.2.2]
  exact h
def frsI (ns : List Nd) : Nat → Nat → Nat
  | 0, i => i
  | f + 1, i => if i < ns.length then if (nth ns i).us = true then frsI ns f (i + 1) else i else i
def frsX (ns : List Nd) : Nat := frsI ns ns.length 1
def frsN (ns : List Nd) : Nat × List Nd := if frsX ns < ns.length then (frsX ns, ns.set (frsX ns) ⟨true, [], []⟩) else (ns.length, ns ++ [⟨true, [], []⟩])
theorem frsI_le (ns : List Nd) : ∀ f i, i ≤ ns.length → frsI ns f i ≤ ns.length
  | 0, i, h => h
  | f + 1, i, h => by
    rw [frsI]
    split
    · split
      · exact frsI_le ns f (i + 1) (by omega)
      · exact h
    · exact h
theorem frsI_ge (ns : List Nd) : ∀ f i, i ≤ frsI ns f i
  | 0, i => Nat.le_refl _
  | f + 1, i => by
    rw [frsI]
    split
    · split
      · exact Nat.le_of_succ_le (frsI_ge ns f (i + 1))
      · exact Nat.le_refl _
    · exact Nat.le_refl _
theorem frsN_ge {ns : List Nd} (h0 : 0 < ns.length) : 1 ≤ (frsN ns).1 := by
  unfold frsN
  split
  · exact frsI_ge ns _ 1
  · exact h0
theorem frsN_lt (ns : List Nd) : (frsN ns).1 < (frsN ns).2.length := by
  unfold frsN
  split
  · simpa using ‹_›
  · simp
theorem frsN_len (ns : List Nd) : ns.length ≤ (frsN ns).2.length ∧ (frsN ns).2.length ≤ ns.length + 1 := by
  unfold frsN
  split
  · simp
  · simp
theorem frsI_us (ns : List Nd) : ∀ f i, frsI ns f i < ns.length → ns.length < i + f → (nth ns (frsI ns f i)).us = false
  | 0, i, h, hf => by
    rw [frsI] at h
    omega
  | f + 1, i, h, hf => by
    rw [frsI] at h ⊢
    split
    · rename_i h1
      rw [if_pos h1] at h
      split
      · rename_i h2
        rw [if_pos h2] at h
        exact frsI_us ns f (i + 1) h (by omega)
      · rename_i h2
        simpa using h2
    · rename_i h1
      rw [if_neg h1] at h
      omega
theorem frsN_ne {ns : List Nd} {i : Nat} (hi : i < ns.length) (hu : (nth ns i).us = true) : (frsN ns).1 ≠ i := by
  unfold frsN
  split
  · rename_i h
    intro e
    have h2 := frsI_us ns ns.length 1 h (by omega)
    rw [show frsI ns ns.length 1 = i from e, hu] at h2
    cases h2
  · simp only []
    omega
theorem frsN_nth {ns : List Nd} {i : Nat} (hi : i < ns.length) (hne : (frsN ns).1 ≠ i) : nth (frsN ns).2 i = nth ns i := by
  unfold frsN at hne ⊢
  split
  · rename_i h
    rw [if_pos h] at hne
    rw [nth_set_nd, if_neg (fun e => hne e.1)]
  · apply nth_eq
    simp only []
    rw [List.getElem?_append_left hi]
    exact nth_get hi
def ixR (cs : List Int) (c : Int) : Nat := if ixB (hasC cs c) < cs.length then ixB (hasC cs c) else 0
def splRA (mo : Int) (ns : List Nd) (i : Nat) : List Nd :=
  let F := (frsN ns).2; let o := (frsN ns).1; let x := nth F i
  let n := esN (esN F o (x.es.drop (splM mo + 1))) i (x.es.take (splM mo))
  if x.cs.length = 0 then n else csN (csN n o (x.cs.drop (splM mo + 1))) i (x.cs.take (splM mo + 1))
def splR (mo : Int) (ns : List Nd) (p i : Nat) : List Nd := addP (splRA mo ns i) p (ixR (nth (splRA mo ns i) p).cs (i : Int)) (nth (nth (frsN ns).2 i).es (splM mo)) (frsN ns).1
def lowR (ns : List Nd) : Nat × List Nd := ((frsN ns).1, csN (esN (csN (esN (frsN ns).2 (frsN ns).1 (nth (frsN ns).2 0).es) (frsN ns).1 (nth (frsN ns).2 0).cs) 0 []) 0 [((frsN ns).1 : Int)])
def grwRW (mo : Int) (P : List Nat) : Nat → List Nd → List Nd
  | 0, ns => ns
  | k + 1, ns => grwRW mo P k (if mo < ((nth ns (nth P (k + 1))).es.length : Int) then splR mo ns (nth P k) (nth P (k + 1)) else ns)
def grwRR (mo rm : Int) (ns : List Nd) : List Nd := if rm < ((nth ns 0).es.length : Int) then if mo < ((nth (lowR ns).2 (lowR ns).1).es.length : Int) then splR mo (lowR ns).2 0 (lowR ns).1 else (lowR ns).2 else ns
def insR (co mo rm : Int) (ns : List Nd) (x : TEnt) : List Nd :=
  let P := (pathN co ns x.key).1; let lf := lastN P
  grwRR mo rm (grwRW mo P (P.length - 1) (esN ns lf (insAt (nth ns lf).es (plc co (nth ns lf).es x.key) x)))
structure SpROk (mo : Int) (ns : List Nd) (p i : Nat) : Prop where
  mo0 : 0 ≤ mo ∧ mo ≤ 1000
  len : ns.length ≤ 900
  sm : Sm 900 ns
  lt : i < ns.length
  us : (nth ns i).us = true
  es : splM mo < (nth ns i).es.length
  cs : (nth ns i).cs.length = 0 ∨ splM mo + 1 ≤ (nth ns i).cs.length
  par : p < ns.length
  parE : ixR (nth (splRA mo ns i) p).cs (i : Int) ≤ (nth (splRA mo ns i) p).es.length
  parC : ixR (nth (splRA mo ns i) p).cs (i : Int) + 1 ≤ (nth (splRA mo ns i) p).cs.length
def GrwROk (mo : Int) (P : List Nat) : Nat → List Nd → Prop
  | 0, _ => True
  | k + 1, ns => (nth P (k + 1) < ns.length ∧ (mo < ((nth ns (nth P (k + 1))).es.length : Int) → SpROk mo ns (nth P k) (nth P (k + 1)))) ∧ GrwROk mo P k (if mo < ((nth ns (nth P (k + 1))).es.length : Int) then splR mo ns (nth P k) (nth P (k + 1)) else ns)
structure RootROk (mo rm : Int) (ns : List Nd) : Prop where
  lt : 0 < ns.length
  len : ns.length ≤ 900
  us : (nth ns 0).us = true
  spl : rm < ((nth ns 0).es.length : Int) → mo < ((nth (lowR ns).2 (lowR ns).1).es.length : Int) → SpROk mo (lowR ns).2 0 (lowR ns).1
structure InsROk (co mo rm : Int) (ns : List Nd) (x : TEnt) : Prop where
  ne : 0 < (pathN co ns x.key).1.length
  len : (pathN co ns x.key).1.length ≤ 900
  lf : lastN (pathN co ns x.key).1 < ns.length
  grw : GrwROk mo (pathN co ns x.key).1 ((pathN co ns x.key).1.length - 1) (esN ns (lastN (pathN co ns x.key).1) (insAt (nth ns (lastN (pathN co ns x.key).1)).es (plc co (nth ns (lastN (pathN co ns x.key).1)).es x.key) x))
  root : RootROk mo rm (grwRW mo (pathN co ns x.key).1 ((pathN co ns x.key).1.length - 1) (esN ns (lastN (pathN co ns x.key).1) (insAt (nth ns (lastN (pathN co ns x.key).1)).es (plc co (nth ns (lastN (pathN co ns x.key).1)).es x.key) x)))
theorem Sm.frs {m : Nat} {ns : List Nd} (h : Sm m ns) : Sm m (frsN ns).2 := by
  unfold frsN
  split
  · exact h.set _ _ ⟨Nat.zero_le _, Nat.zero_le _⟩
  · exact h.app _ ⟨Nat.zero_le _, Nat.zero_le _⟩
theorem Sm.splRA {m : Nat} {ns : List Nd} (h : Sm m ns) (mo : Int) (i : Nat) : Sm m (splRA mo ns i) := by
  have h1 := h.frs
  have e1 := (h1 i).1
  have e2 := (h1 i).2
  have h2 := (h1.es (frsN ns).1 (es := (nth (frsN ns).2 i).es.drop (splM mo + 1)) (by rw [List.length_drop]; omega)).es i (es := (nth (frsN ns).2 i).es.take (splM mo)) (by rw [List.length_take]; omega)
  unfold Gx.splRA
  simp only []
  split
  · exact h2
  · exact (h2.cs _ (by rw [List.length_drop]; omega)).cs _ (by rw [List.length_take]; omega)
theorem splRA_0 {mo : Int} {ns F : List Nd} {i : Nat} {x : Nd} (hF : (frsN ns).2 = F) (hx : nth F i = x) (h : x.cs.length = 0) : splRA mo ns i = esN (esN F (frsN ns).1 (x.es.drop (splM mo + 1))) i (x.es.take (splM mo)) := by
  subst hF hx
  exact if_pos h
theorem splRA_1 {mo : Int} {ns F : List Nd} {i : Nat} {x : Nd} (hF : (frsN ns).2 = F) (hx : nth F i = x) (h : ¬ x.cs.length = 0) : splRA mo ns i = csN (csN (esN (esN F (frsN ns).1 (x.es.drop (splM mo + 1))) i (x.es.take (splM mo))) (frsN ns).1 (x.cs.drop (splM mo + 1))) i (x.cs.take (splM mo + 1)) := by
  subst hF hx
  exact if_neg h
def Bal (lo hi : Nat) : Nat → BT → Prop
  | 0, T => T.ks = [] ∧ lo ≤ T.es.length ∧ T.es.length ≤ hi
  | d + 1, T => (T.ks.length = T.es.length + 1 ∧ ∀ k ∈ T.ks, Bal lo hi d k) ∧ lo ≤ T.es.length ∧ T.es.length ≤ hi
def Bel (lo hi : Nat) : Nat → BT → Prop
  | 0, T => T.ks = []
  | d + 1, T => T.ks.length = T.es.length + 1 ∧ ∀ k ∈ T.ks, Bal lo hi d k
theorem bal_iff {lo hi d : Nat} {T : BT} : Bal lo hi d T ↔ Bel lo hi d T ∧ lo ≤ T.es.length ∧ T.es.length ≤ hi := by
  cases d <;> simp only [Bal, Bel]
theorem Bel.cs {lo hi d : Nat} {T : BT} (h : Bel lo hi d T) : T.ks = [] ∨ T.ks.length = T.es.length + 1 := by
  cases d with
  | zero => exact .inl h
  | succ d => exact .inr h.1
theorem Bel.leaf {lo hi d : Nat} {T : BT} (h : Bel lo hi d T) (hk : T.ks = []) : d = 0 := by
  cases d with
  | zero => rfl
  | succ d =>
    have := h.1
    rw [hk] at this
    simp at this
def CtxOk (lo hi rt : Nat) : Nat → List Fr → Prop
  | _, [] => True
  | d, f :: C => ((∀ k ∈ f.l, Bal lo hi d k) ∧ (∀ k ∈ f.r, Bal lo hi d k)) ∧ f.l.length + f.r.length = f.es.length ∧ ((C = [] → f.es.length ≤ rt) ∧ (C ≠ [] → lo ≤ f.es.length ∧ f.es.length ≤ hi)) ∧ CtxOk lo hi rt (d + 1) C
theorem bel_fill {lo hi rt d : Nat} {f : Fr} {C : List Fr} {T : BT} (hC : CtxOk lo hi rt d (f :: C)) (h : Bal lo hi d T) : Bel lo hi (d + 1) (f.fill T) := by
  refine ⟨?_, fun k hk => ?_⟩
  · show (f.l ++ T :: f.r).length = f.es.length + 1
    have := hC.2.1
    simp only [List.length_append, List.length_cons]
    omega
  · rcases List.mem_append.1 hk with hk | hk
    · exact hC.1.1 k hk
    · rcases List.mem_cons.1 hk with rfl | hk
      · exact h
      · exact hC.1.2 k hk
theorem plug_bel {lo hi rt : Nat} : ∀ {C : List Fr} {d : Nat} {T : BT}, CtxOk lo hi rt d C → Bel lo hi d T → (C ≠ [] → lo ≤ T.es.length ∧ T.es.length ≤ hi) → Bel lo hi (d + C.length) (plug C T)
  | [], d, T, _, h, _ => h
  | f :: C, d, T, hC, h, hl => by
    have h1 := plug_bel (C := C) hC.2.2.2 (bel_fill hC (bal_iff.2 ⟨h, hl (by simp)⟩)) fun hne => hC.2.2.1.2 hne
    show Bel lo hi (d + (C.length + 1)) _
    rw [show d + (C.length + 1) = d + 1 + C.length by omega]
    exact h1
theorem flatL_nil (es : List TEnt) : flatL es [] = es := by cases es <;> rfl
theorem flat_leaf (i : Nat) (es : List TEnt) : (BT.nd i es []).flat = es := by rw [BT.flat, flatL_nil]
def flatA : List TEnt → List BT → List TEnt
  | e :: es, k :: ks => k.flat ++ e :: flatA es ks
  | _, _ => []
def flatZ : List TEnt → List BT → List TEnt
  | e :: es, k :: ks => e :: (k.flat ++ flatZ es ks)
  | _, _ => []
theorem flatL_first : ∀ (es : List TEnt) (T : BT) (r : List BT), r.length = es.length → flatL es (T :: r) = T.flat ++ flatZ es r
  | [], T, [], _ => by
    rw [flatL, flatL_nil]
    rfl
  | [], T, k :: r, h => absurd h (by simp)
  | e :: es, T, [], h => absurd h (by simp)
  | e :: es, T, k :: r, h => by
    rw [flatL, flatL_first es k r (by simpa using h)]
    rfl
theorem flatL_mid : ∀ (l : List BT) (es : List TEnt) (T : BT) (r : List BT), l.length + r.length = es.length → flatL es (l ++ T :: r) = flatA es l ++ (T.flat ++ flatZ (es.drop l.length) r)
  | [], es, T, r, h => by
    have e : flatA es [] = [] := by cases es <;> rfl
    rw [e]
    exact flatL_first es T r (by simpa using h)
  | k :: l, [], T, r, h => absurd h (by simp only [List.length_cons, List.length_nil]; omega)
  | k :: l, e :: es, T, r, h => by
    rw [List.cons_append, flatL, flatL_mid l es T r (by simp only [List.length_cons] at h; omega), flatA, List.length_cons, List.drop_succ_cons]
    simp only [List.append_assoc, List.cons_append]
theorem flatA_app : ∀ (a b : List TEnt) (l : List BT), l.length ≤ a.length → flatA (a ++ b) l = flatA a l
  | a, b, [], _ => by
    have e : ∀ c : List TEnt, flatA c [] = [] := fun c => by cases c <;> rfl
    rw [e, e]
  | [], b, k :: l, h => absurd h (by simp)
  | x :: a, b, k :: l, h => by
    rw [List.cons_append, flatA, flatA, flatA_app a b l (by simpa using h)]
theorem flatA_take {es : List TEnt} {l : List BT} (h : l.length ≤ es.length) : flatA (es.take l.length) l = flatA es l := by
  have := flatA_app (es.take l.length) (es.drop l.length) l (by rw [List.length_take]; omega)
  rw [List.take_append_drop] at this
  exact this.symm
theorem flatL_ins {l r : List BT} {es : List TEnt} {A B : BT} {up : TEnt} (h : l.length + r.length = es.length) : flatL (insAt es l.length up) (l ++ A :: B :: r) = flatA es l ++ ((A.flat ++ up :: B.flat) ++ flatZ (es.drop l.length) r) := by
  have hl : (es.take l.length).length = l.length := by rw [List.length_take]; omega
  rw [flatL_mid l _ A (B :: r) (by rw [ins_len (by omega), List.length_cons]; omega)]
  unfold insAt
  rw [flatA_app _ _ _ (by omega), flatA_take (by omega), List.drop_append, List.drop_of_length_le (by omega : (es.take l.length).length ≤ l.length), hl, Nat.sub_self, List.nil_append, List.drop_zero]
  show flatA es l ++ (A.flat ++ (up :: (B.flat ++ flatZ (es.drop l.length) r))) = _
  simp only [List.append_assoc, List.cons_append]
theorem flatL_split : ∀ (m : Nat) (es : List TEnt) (ks : List BT), m < es.length → (ks = [] ∨ ks.length = es.length + 1) → flatL (es.take m) (ks.take (m + 1)) ++ nth es m :: flatL (es.drop (m + 1)) (ks.drop (m + 1)) = flatL es ks
  | m, es, [], h, _ => by
    rw [List.take_nil, List.drop_nil, flatL_nil, flatL_nil, flatL_nil]
    have e : nth es m = es[m] := nth_eq (List.getElem?_eq_getElem h)
    rw [e, ← List.drop_eq_getElem_cons h, List.take_append_drop]
  | m, [], k :: ks, h, _ => absurd h (by simp)
  | 0, e :: es, k :: ks, h, h2 => by
    rw [List.take_zero, List.take_succ_cons, List.take_zero, flatL, flatL_nil, List.drop_succ_cons, List.drop_zero, List.drop_succ_cons, List.drop_zero, flatL, List.append_nil]
    rfl
  | m + 1, e :: es, k :: ks, h, h2 => by
    have hk : ks.length = es.length + 1 := by
      rcases h2 with h2 | h2
      · cases h2
      · simpa using h2
    rw [List.take_succ_cons, List.take_succ_cons, flatL, List.drop_succ_cons, List.drop_succ_cons, flatL]
    have := flatL_split m es ks (by simpa using h) (.inr hk)
    show k.flat ++ e :: flatL (es.take m) (ks.take (m + 1)) ++ nth es m :: flatL (es.drop (m + 1)) (ks.drop (m + 1)) = _
    rw [← this]
    simp only [List.append_assoc, List.cons_append]
def preC : List Fr → List TEnt
  | [] => []
  | f :: C => preC C ++ flatA f.es f.l
def sufC : List Fr → List TEnt
  | [] => []
  | f :: C => flatZ (f.es.drop f.l.length) f.r ++ sufC C
theorem plug_flat {lo hi rt : Nat} : ∀ {C : List Fr} {d : Nat} {T : BT}, CtxOk lo hi rt d C → (plug C T).flat = preC C ++ (T.flat ++ sufC C)
  | [], d, T, _ => by
    show T.flat = [] ++ (T.flat ++ [])
    simp
  | f :: C, d, T, hC => by
    show (plug C (f.fill T)).flat = _
    rw [plug_flat (C := C) hC.2.2.2]
    show preC C ++ ((BT.nd f.i f.es (f.l ++ T :: f.r)).flat ++ sufC C) = _
    rw [BT.flat, flatL_mid f.l f.es T f.r hC.2.1]
    simp only [preC, sufC, List.append_assoc]
theorem plug_idx : ∀ (C : List Fr) (T T' : BT), T.idx = T'.idx → (plug C T).idx = (plug C T').idx
  | [], T, T', h => h
  | f :: C, T, T', _ => plug_idx C (f.fill T) (f.fill T') rfl
theorem root_in : ∀ (C : List Fr) (T : BT) (h : Nat), C ≠ [] → (plug C T).idx ∈ (ctxNodes C h).map Prod.fst
  | [], T, h, hne => absurd rfl hne
  | [f], T, h, _ => by
    show f.i ∈ _
    simp [ctxNodes, Fr.nodes]
  | f :: g :: C, T, h, _ => by
    have := root_in (g :: C) (f.fill T) f.i (by simp)
    show (plug (g :: C) (f.fill T)).idx ∈ _
    rw [ctxNodes, List.map_append]
    exact List.mem_append_right _ this
theorem BT.idx_mem (T : BT) : T.idx ∈ T.nodes.map Prod.fst := by
  cases T with
  | nd i es ks =>
    rw [BT.nodes]
    exact List.mem_cons_self ..
theorem plug_ne {ns : List Nd} {C : List Fr} {T : BT} (h : RepT ns (plug C T)) (hC : C ≠ []) : T.idx ≠ (plug C T).idx := fun e => by
  have h1 := h.plug.nd
  rw [List.map_append] at h1
  exact (List.nodup_append.1 h1).2.2 _ (e ▸ root_in C T T.idx hC) _ T.idx_mem rfl
theorem rep_es {ns : List Nd} {C : List Fr} {i : Nat} {es : List TEnt} {ks : List BT} (h : RepT ns (plug C (.nd i es ks))) (es' : List TEnt) : RepT (esN ns i es') (plug C (.nd i es' ks)) := by
  refine RepT.of_plug ?_
  have h1 := h.plug
  rw [BT.nodes] at h1 ⊢
  have h2 := (h1.perm List.perm_middle).es es'
  exact h2.perm List.perm_middle.symm
theorem frsI_bel (ns : List Nd) : ∀ f i j, i ≤ j → j < frsI ns f i → (nth ns j).us = true
  | 0, i, j, h, h2 => by
    rw [frsI] at h2
    omega
  | f + 1, i, j, h, h2 => by
    rw [frsI] at h2
    split at h2
    · split at h2
      · rcases Nat.eq_or_lt_of_le h with rfl | h3
        · assumption
        · exact frsI_bel ns f (i + 1) j h3 h2
      · omega
    · omega
theorem ixFree_bel {ns : List Nd} {j : Nat} (h : j < ixFree ns) (hl : j < ns.length) : (nth ns j).us = true := by
  have h1 := ixB_false (l := ns.map fun n => !n.us) h
  rw [getD_map (d := default) hl] at h1
  show (ns.getD j default).us = true
  simpa using h1
theorem frs_fre {ns : List Nd} (h0 : 0 < ns.length) (hu : (nth ns 0).us = true) (hb : ∀ i, i < ns.length → (nth ns i).us = false → nth ns i = ⟨false, [], []⟩) : frsN ns = freN ns := by
  have hle : ixFree ns ≤ ns.length := by
    have := ixB_le (ns.map fun n => !n.us)
    rw [List.length_map] at this
    exact this
  have hfl : frsX ns ≤ ns.length := frsI_le ns _ 1 h0
  have hge : 1 ≤ frsX ns := frsI_ge ns _ 1
  have e : frsX ns = ixFree ns := by
    rcases Nat.lt_trichotomy (frsX ns) (ixFree ns) with h | h | h
    · have h1 := frsI_us ns ns.length 1 (by show frsX ns < _; omega) (by omega)
      have h2 := ixFree_bel (ns := ns) h (by omega)
      rw [show frsI ns ns.length 1 = frsX ns from rfl, h2] at h1
      cases h1
    · exact h
    · have h1 := ixFree_us (ns := ns) (by omega)
      have h2 : 1 ≤ ixFree ns := by
        rcases Nat.eq_zero_or_pos (ixFree ns) with h3 | h3
        · rw [h3, hu] at h1
          cases h1
        · exact h3
      have h3 := frsI_bel ns ns.length 1 (ixFree ns) h2 h
      rw [h3] at h1
      cases h1
  unfold frsN freN
  rw [e]
  split
  · rename_i h
    unfold usN
    rw [hb _ h (ixFree_us h)]
  · rfl
theorem RepT.blank {ns : List Nd} {T : BT} (h : RepT ns T) {i : Nat} (hi : i < ns.length) (hu : (nth ns i).us = false) : nth ns i = ⟨false, [], []⟩ := by
  by_cases hm : i ∈ T.nodes.map Prod.fst
  · obtain ⟨p, hp, rfl⟩ := List.mem_map.1 hm
    have h1 := RepN.at_ (i := p.1) (x := p.2) h hp
    rw [h1.2, nodes_us T p hp] at hu
    cases hu
  · exact h.rest i hi hm
theorem RepT.root {ns : List Nd} {T : BT} (h : RepT ns T) : T.idx < ns.length ∧ nth ns T.idx = ⟨true, T.es, idxs T.ks⟩ := RepT.at_ (C := []) h
theorem RepT.frs {ns : List Nd} {T : BT} (h : RepT ns T) (h0 : T.idx = 0) : frsN ns = freN ns := by
  have h1 := h.root
  rw [h0] at h1
  exact frs_fre h1.1 (by rw [h1.2]) fun i hi hu => h.blank hi hu
def Leads (co : Int) (key : List UInt8) (C : List Fr) : Prop := ∀ f ∈ C, f.l.length = plc co f.es key ∧ ¬ fnd co f.es key = true
theorem nth_mid' {α : Type} [Inhabited α] (l : List α) (x : α) (r : List α) : nth (l ++ x :: r) l.length = x := nth_eq (by simp)
theorem getD_mid {α : Type} (l : List α) (x d : α) (r : List α) : (l ++ x :: r).getD l.length d = x := by simp
theorem BT.eta (T : BT) : T = .nd T.idx T.es T.ks := by cases T; rfl
theorem split_at {α : Type} [Inhabited α] {ks : List α} {p : Nat} (h : p < ks.length) : ks = ks.take p ++ nth ks p :: ks.drop (p + 1) := by
  have e : nth ks p = ks[p] := nth_eq (List.getElem?_eq_getElem h)
  rw [e, ← List.drop_eq_getElem_cons h, List.take_append_drop]
theorem desc {co : Int} {ns : List Nd} {key : List UInt8} {lo hi rt : Nat} : ∀ (f d : Nat) (C : List Fr) (T : BT), RepT ns (plug C T) → CtxOk lo hi rt d C → Bel lo hi d T → ((C = [] → T.es.length ≤ rt) ∧ (C ≠ [] → lo ≤ T.es.length ∧ T.es.length ≤ hi)) → d < f →
    ∃ D T' d', plug D T' = T ∧ CtxOk lo hi rt d' (D ++ C) ∧ Bel lo hi d' T' ∧ ((D ++ C = [] → T'.es.length ≤ rt) ∧ (D ++ C ≠ [] → lo ≤ T'.es.length ∧ T'.es.length ≤ hi)) ∧ d' + D.length = d ∧
      (pthN co ns key f T.idx).1 = (D.map Fr.i).reverse ++ [T'.idx] ∧ (pthN co ns key f T.idx).2 = (plc co T'.es key, fnd co T'.es key) ∧ (fnd co T'.es key = true ∨ T'.ks = []) ∧ Leads co key D
  | 0, d, C, T, _, _, _, _, h => absurd h (Nat.not_lt_zero _)
  | f + 1, d, C, T, hR, hC, hB, hb, hd => by
    have hat := hR.at_
    have hes : (nth ns T.idx).es = T.es := by rw [hat.2]
    have hcs : (nth ns T.idx).cs = idxs T.ks := by rw [hat.2]
    rw [pthN, hes, hcs, idxs_len]
    by_cases h1 : fnd co T.es key = true ∨ T.ks.length = 0
    · rw [if_pos h1]
      exact ⟨[], T, d, rfl, hC, hB, hb, by simp, rfl, rfl, h1.imp id fun h => List.eq_nil_of_length_eq_zero h, fun f hf => (nomatch hf)⟩
    · rw [if_neg h1]
      have hk : ¬ T.ks.length = 0 := fun h => h1 (.inr h)
      obtain ⟨d', rfl⟩ : ∃ d', d = d' + 1 := by
        cases d with
        | zero => exact absurd (show T.ks.length = 0 by rw [show T.ks = [] from hB]; rfl) hk
        | succ d' => exact ⟨d', rfl⟩
      have hp : plc co T.es key < T.ks.length := by
        have := plc_le co key T.es
        have := hB.1
        omega
      have hsp := split_at hp
      generalize hl : T.ks.take (plc co T.es key) = l at hsp
      generalize hr : T.ks.drop (plc co T.es key + 1) = r at hsp
      generalize hK : nth T.ks (plc co T.es key) = K at hsp
      have hll : l.length = plc co T.es key := by rw [← hl, List.length_take]; omega
      have hT : T = Fr.fill ⟨T.idx, T.es, l, r⟩ K := by
        have := T.eta
        rw [hsp] at this
        exact this
      have hbal : ∀ k ∈ T.ks, Bal lo hi d' k := hB.2
      have hBK : Bal lo hi d' K := hbal K (by rw [hsp]; simp)
      have hci : ((idxs T.ks).getD (plc co T.es key) 0).toNat = K.idx := by
        rw [hsp, idxs_app, idxs_cons, ← hll, ← idxs_len l, getD_mid]
        rfl
      rw [hci]
      have hctx : CtxOk lo hi rt d' (⟨T.idx, T.es, l, r⟩ :: C) := ⟨⟨fun k hk => hbal k (by rw [hsp]; simp [hk]), fun k hk => hbal k (by rw [hsp]; simp [hk])⟩, by
        show l.length + r.length = T.es.length
        have h9 := hB.1
        rw [hsp] at h9
        simp only [List.length_append, List.length_cons] at h9
        omega, hb, hC⟩
      have hb2 := bal_iff.1 hBK
      obtain ⟨D, T', d9, e1, e2, e3, e4, e5, e6, e7, e8, e9⟩ := desc f d' (⟨T.idx, T.es, l, r⟩ :: C) K (by
        show RepT ns (plug C (Fr.fill _ K))
        rw [← hT]
        exact hR) hctx hb2.1 ⟨fun h => (nomatch h), fun _ => hb2.2⟩ (by omega)
      refine ⟨D ++ [⟨T.idx, T.es, l, r⟩], T', d9, ?_, ?_, e3, ?_, ?_, ?_, e7, e8, fun g hg => ?_⟩
      · rw [plug_app, e1]
        exact hT.symm
      · rw [List.append_assoc]
        exact e2
      · rw [List.append_assoc]
        exact e4
      · simp only [List.length_append, List.length_singleton]
        omega
      · rw [e6]
        simp
      · rcases List.mem_append.1 hg with hg | hg
        · exact e9 g hg
        · rcases List.mem_singleton.1 hg
          exact ⟨hll, fun h => h1 (.inl h)⟩
theorem nodesL_mem {k : BT} : ∀ {ks : List BT}, k ∈ ks → k.nodes.length ≤ (nodesL ks).length
  | [], h => (nomatch h)
  | x :: ks, h => by
    rw [nodesL, List.length_append]
    rcases List.mem_cons.1 h with rfl | h
    · omega
    · have := nodesL_mem (ks := ks) h
      omega
theorem nodes_len (T : BT) : T.nodes.length = (nodesL T.ks).length + 1 := by
  cases T with
  | nd i es ks => rw [BT.nodes, List.length_cons]; rfl
theorem bel_deep {lo hi : Nat} : ∀ {d : Nat} {T : BT}, Bel lo hi d T → d + 1 ≤ T.nodes.length
  | 0, T, _ => by
    rw [nodes_len]
    omega
  | d + 1, T, h => by
    obtain ⟨k, ks, e⟩ : ∃ k ks, T.ks = k :: ks := by
      cases hk : T.ks with
      | nil =>
        have := h.1
        rw [hk] at this
        simp at this
      | cons k ks => exact ⟨k, ks, rfl⟩
    have hm : k ∈ T.ks := by rw [e]; exact List.mem_cons_self ..
    have h1 := bel_deep (bal_iff.1 (h.2 k hm)).1
    have h2 := nodesL_mem hm
    rw [nodes_len]
    omega
theorem RepT.nlen {ns : List Nd} {T : BT} (h : RepT ns T) : T.nodes.length ≤ ns.length := by
  have := nodup_le ns.length (T.nodes.map Prod.fst) h.nd fun x hx => by
    obtain ⟨p, hp, rfl⟩ := List.mem_map.1 hx
    exact RepN.lt h hp
  rwa [List.length_map] at this
section
variable {ns : List Nd} {mo : Int} {f : Fr} {C : List Fr} {i : Nat} {es : List TEnt} {ks : List BT}
theorem spl_at (h : RepT ns (plug (f :: C) (.nd i es ks))) : f.i < (splA mo ns i).length ∧ nth (splA mo ns i) f.i = ⟨true, f.es, idxs f.l ++ (i : Int) :: idxs f.r⟩ ∧ (i : Int) ∉ idxs f.l := by
  have h1 := (rep_splA (mo := mo) h).2
  have hk := splA_kids (mo := mo) h
  have hm : (f.i, (⟨true, f.es, idxs f.l ++ (i : Int) :: idxs f.r⟩ : Nd)) ∈ ((i, (⟨true, es.take (splM mo), (idxs ks).take (splM mo + 1)⟩ : Nd)) :: ((freN ns).1, ⟨true, es.drop (splM mo + 1), (idxs ks).drop (splM mo + 1)⟩) :: (ctxNodes (f :: C) i ++ nodesL ks)) := by
    refine List.mem_cons_of_mem _ (List.mem_cons_of_mem _ (List.mem_append_left _ ?_))
    rw [ctxNodes, Fr.nodes]
    exact List.mem_cons_self ..
  have h2 := h1.at_ hm
  refine ⟨h2.1, h2.2, fun hi => ?_⟩
  have h3 := (List.pairwise_flatMap.1 hk).1 _ hm
  exact (List.nodup_append.1 h3).2.2 _ hi _ (List.mem_cons_self ..) rfl
theorem splR_eq (h : RepT ns (plug (f :: C) (.nd i es ks))) (h0 : (plug (f :: C) (.nd i es ks)).idx = 0) : splR mo ns f.i i = splN mo ns i := by
  have hA : splRA mo ns i = splA mo ns i := by
    unfold splRA splA
    rw [h.frs h0]
  have h1 := spl_at (mo := mo) h
  have h2 := (rep_split (mo := mo) h).2.1
  unfold splR splN
  rw [hA, h2, h1.2.1, h.frs h0]
  simp only []
  have h3 := ixB_app (B := idxs f.r) h1.2.2
  unfold ixR
  rw [h3, if_pos (by simp), idxs_len]
theorem spl_ok {lo hi rt d : Nat} (h : RepT ns (plug (f :: C) (.nd i es ks))) (hC : CtxOk lo hi rt d (f :: C)) (hB : Bel lo hi d (.nd i es ks)) (hmo : 0 ≤ mo ∧ mo ≤ 1000) (hlen : ns.length ≤ 900) (hsm : Sm 900 ns) (hes : splM mo < es.length) : SpOk mo ns i := by
  have hat : i < ns.length ∧ nth ns i = ⟨true, es, idxs ks⟩ := RepT.at_ (T := .nd i es ks) h
  have h1 := spl_at (mo := mo) h
  have h2 := (rep_split (mo := mo) h).2.1
  have h3 := hC.2.1
  refine ⟨hmo, hlen, hsm, hat.1, by rw [hat.2], by rw [hat.2]; exact hes, ?_, ?_, ?_, ?_⟩
  · rw [hat.2]
    rcases hB.cs with hk | hk
    · left
      show (idxs ks).length = 0
      rw [show ks = [] from hk]
      rfl
    · right
      have : ks.length = es.length + 1 := hk
      show _ ≤ (idxs ks).length
      rw [idxs_len]
      omega
  · rw [h2]
    exact h1.1
  · rw [h2]
    simp only []
    rw [h1.2.1]
    show f.l.length ≤ f.es.length
    omega
  · rw [h2]
    simp only []
    rw [h1.2.1]
    simp only [List.length_append, List.length_cons, idxs_len]
    omega
theorem spr_ok (h : RepT ns (plug (f :: C) (.nd i es ks))) (h0 : (plug (f :: C) (.nd i es ks)).idx = 0) (hs : SpOk mo ns i) : SpROk mo ns f.i i := by
  have hA : splRA mo ns i = splA mo ns i := by
    unfold splRA splA
    rw [h.frs h0]
  have h1 := spl_at (mo := mo) h
  have h2 := (rep_split (mo := mo) h).2.1
  have h3 := ixB_app (B := idxs f.r) h1.2.2
  have hx : ixR (nth (splRA mo ns i) f.i).cs (i : Int) = f.l.length := by
    rw [hA, h1.2.1]
    unfold ixR
    simp only []
    rw [h3, if_pos (by simp), idxs_len]
  have hp : f.i < ns.length := by
    have := h.plug
    exact this.lt (p := (f.i, ⟨true, f.es, idxs f.l ++ (i : Int) :: idxs f.r⟩)) (List.mem_append_left _ (by rw [ctxNodes, Fr.nodes]; exact List.mem_cons_self ..))
  refine ⟨hs.mo0, hs.len, hs.sm, hs.lt, hs.us, hs.es, hs.cs, hp, ?_, ?_⟩
  · rw [hx, hA, h1.2.1]
    have := hs.parE
    rw [h2] at this
    simp only [] at this
    rw [h1.2.1] at this
    exact this
  · rw [hx, hA, h1.2.1]
    simp only [List.length_append, List.length_cons, idxs_len]
    omega
end
def NoGap (rt : Nat) (T : BT) : Prop := T.es = [] → ∀ k, T.ks = [k] → rt < k.es.length
def GapC (rt : Nat) : List Fr → Nat → Prop
  | [], _ => True
  | [f], n => f.es = [] → rt < n
  | f :: g :: C, _ => GapC rt (g :: C) f.es.length
theorem GapC.mono {rt : Nat} : ∀ {C : List Fr} {n m : Nat}, GapC rt C n → n ≤ m → GapC rt C m
  | [], _, _, _, _ => trivial
  | [f], n, m, h, hm => fun e => Nat.lt_of_lt_of_le (h e) hm
  | f :: g :: C, _, _, h, _ => h
theorem gapC_of {lo hi rt : Nat} : ∀ {D : List Fr} {d : Nat} {T : BT}, CtxOk lo hi rt d D → NoGap rt (plug D T) → GapC rt D T.es.length
  | [], _, T, _, _ => trivial
  | [f], _, T, hC, h => fun e => by
    have h1 := hC.2.1
    rw [e] at h1
    have hl : f.l = [] := List.eq_nil_of_length_eq_zero (by simp only [List.length_nil] at h1; omega)
    have hr : f.r = [] := List.eq_nil_of_length_eq_zero (by simp only [List.length_nil] at h1; omega)
    refine h e T ?_
    show f.l ++ T :: f.r = [T]
    rw [hl, hr]
    rfl
  | f :: g :: C, d, T, hC, h => gapC_of (D := g :: C) (T := f.fill T) hC.2.2.2 h
theorem take_rev {P A : List Nat} {x : Nat} (h : P.take (A.length + 1) = (x :: A).reverse) : nth P A.length = x ∧ P.take A.length = A.reverse := by
  rw [List.reverse_cons] at h
  constructor
  · apply nth_eq
    have h1 : (P.take (A.length + 1))[A.length]? = some x := by
      rw [h, List.getElem?_append_right (by simp)]
      simp
    rw [List.getElem?_take] at h1
    simpa using h1
  · have h1 : (P.take (A.length + 1)).take A.length = A.reverse := by
      rw [h, List.take_append_of_le_length (by simp), List.take_of_length_le (by simp)]
    rw [List.take_take] at h1
    rw [← h1]
    congr 1
    omega
theorem half_bal {mo : Int} {lo hi d i o : Nat} {es : List TEnt} {ks : List BT} (hmo : mo = (hi : Int)) (hlo : lo = hi / 2) (hB : Bel lo hi d (.nd i es ks)) (hl : es.length = hi + 1) :
    Bal lo hi d (.nd i (es.take (splM mo)) (ks.take (splM mo + 1))) ∧ Bal lo hi d (.nd o (es.drop (splM mo + 1)) (ks.drop (splM mo + 1))) := by
  have hm : splM mo = (hi + 1) / 2 := by unfold splM; omega
  rw [bal_iff, bal_iff]
  have e1 : lo ≤ (es.take (splM mo)).length ∧ (es.take (splM mo)).length ≤ hi := by rw [List.length_take]; omega
  have e2 : lo ≤ (es.drop (splM mo + 1)).length ∧ (es.drop (splM mo + 1)).length ≤ hi := by rw [List.length_drop]; omega
  refine ⟨⟨?_, e1⟩, ⟨?_, e2⟩⟩
  · cases d with
    | zero =>
      show ks.take _ = []
      rw [show ks = [] from hB, List.take_nil]
    | succ d =>
      have h1 : ks.length = es.length + 1 := hB.1
      refine ⟨?_, fun k hk => hB.2 k (List.mem_of_mem_take hk)⟩
      show (ks.take (splM mo + 1)).length = (es.take (splM mo)).length + 1
      rw [List.length_take, List.length_take]
      omega
  · cases d with
    | zero =>
      show ks.drop _ = []
      rw [show ks = [] from hB, List.drop_nil]
    | succ d =>
      have h1 : ks.length = es.length + 1 := hB.1
      refine ⟨?_, fun k hk => hB.2 k (List.mem_of_mem_drop hk)⟩
      show (ks.drop (splM mo + 1)).length = (es.drop (splM mo + 1)).length + 1
      rw [List.length_drop, List.length_drop]
      omega
theorem bel_split {mo : Int} {lo hi rt d i o : Nat} {f : Fr} {C : List Fr} {es : List TEnt} {ks : List BT} {up : TEnt} (hmo : mo = (hi : Int)) (hlo : lo = hi / 2) (hC : CtxOk lo hi rt d (f :: C)) (hB : Bel lo hi d (.nd i es ks)) (hl : es.length = hi + 1) :
    Bel lo hi (d + 1) (.nd f.i (insAt f.es f.l.length up) (f.l ++ .nd i (es.take (splM mo)) (ks.take (splM mo + 1)) :: .nd o (es.drop (splM mo + 1)) (ks.drop (splM mo + 1)) :: f.r)) := by
  have h1 := half_bal (o := o) hmo hlo hB hl
  have h2 := hC.2.1
  refine ⟨?_, fun k hk => ?_⟩
  · show (f.l ++ _ :: _ :: f.r).length = (insAt f.es f.l.length up).length + 1
    rw [ins_len (by omega)]
    simp only [List.length_append, List.length_cons]
    omega
  · rcases List.mem_append.1 hk with hk | hk
    · exact hC.1.1 k hk
    · rcases List.mem_cons.1 hk with rfl | hk
      · exact h1.1
      · rcases List.mem_cons.1 hk with rfl | hk
        · exact h1.2
        · exact hC.1.2 k hk
theorem flat_split {mo : Int} {lo hi rt d i o : Nat} {f : Fr} {C : List Fr} {es : List TEnt} {ks : List BT} (hC : CtxOk lo hi rt d (f :: C)) (hB : Bel lo hi d (.nd i es ks)) (hl : splM mo < es.length) :
    (BT.nd f.i (insAt f.es f.l.length (nth es (splM mo))) (f.l ++ .nd i (es.take (splM mo)) (ks.take (splM mo + 1)) :: .nd o (es.drop (splM mo + 1)) (ks.drop (splM mo + 1)) :: f.r)).flat = (f.fill (.nd i es ks)).flat := by
  rw [BT.flat, flatL_ins hC.2.1, BT.flat, BT.flat, flatL_split (splM mo) es ks hl hB.cs]
  show _ = (BT.nd f.i f.es (f.l ++ BT.nd i es ks :: f.r)).flat
  rw [BT.flat, flatL_mid _ _ _ _ hC.2.1, BT.flat]
def LastU (ns : List Nd) : Prop := (nth ns (ns.length - 1)).us = true
theorem us_set {ns : List Nd} {i : Nat} {x : Nd} (hx : x.us = (nth ns i).us) (k : Nat) : (nth (ns.set i x) k).us = (nth ns k).us := by
  rw [nth_set_nd]
  split
  · rename_i h
    rw [hx, h.1]
  · rfl
theorem us_es (ns : List Nd) (i : Nat) (es : List TEnt) (k : Nat) : (nth (esN ns i es) k).us = (nth ns k).us := us_set (x := { nth ns i with es := es }) rfl k
theorem us_cs (ns : List Nd) (i : Nat) (cs : List Int) (k : Nat) : (nth (csN ns i cs) k).us = (nth ns k).us := us_set (x := { nth ns i with cs := cs }) rfl k
theorem LastU.es {ns : List Nd} (h : LastU ns) (i : Nat) (es : List TEnt) : LastU (esN ns i es) := by
  unfold LastU
  rw [esN_len, us_es]
  exact h
theorem LastU.cs {ns : List Nd} (h : LastU ns) (i : Nat) (cs : List Int) : LastU (csN ns i cs) := by
  unfold LastU
  rw [csN_len, us_cs]
  exact h
theorem LastU.fre {ns : List Nd} (h : LastU ns) : LastU (freN ns).2 := by
  unfold freN
  split
  · unfold LastU usN
    simp only [List.length_set]
    rw [nth_set_nd]
    split
    · rfl
    · exact h
  · unfold LastU
    simp only [List.length_append, List.length_singleton, Nat.add_sub_cancel]
    rw [nth_mid']
theorem LastU.spl {ns : List Nd} (h : LastU ns) (mo : Int) (i : Nat) : LastU (splN mo ns i) := by
  unfold splN addP
  refine LastU.cs (LastU.es ?_ _ _) _ _
  unfold splA
  split
  · exact (h.fre.es _ _).es _ _
  · exact (((h.fre.es _ _).es _ _).cs _ _).cs _ _
theorem LastU.low {ns : List Nd} (h : LastU ns) : LastU (lowN ns).2 := by
  unfold lowN
  exact (((h.fre.es _ _).cs _ _).es _ _).cs _ _
structure Grown (mo : Int) (lo hi rt : Nat) (P : List Nat) (m k : Nat) (ns : List Nd) (W : List Nat) (fl : List TEnt) : Prop where
  ok : GrwOk mo ns W
  okR : GrwROk mo P k ns
  same : grwRW mo P k ns = grwW mo ns W
  tree : ∃ T d, RepT (grwW mo ns W) T ∧ T.idx = 0 ∧ Bel lo hi d T ∧ T.es.length ≤ rt + 1 ∧ NoGap rt T ∧ T.flat = fl
  sm : Sm (m + k) (grwW mo ns W)
  len : ns.length ≤ (grwW mo ns W).length ∧ (grwW mo ns W).length ≤ ns.length + k
  last : LastU (grwW mo ns W)
theorem grow_up {mo : Int} {lo hi rt : Nat} (hmo : mo = (hi : Int)) (hlo : lo = hi / 2) (hhi : hi ≤ 900) (hrt : rt ≤ hi) (P : List Nat) : ∀ (C : List Fr) (d m : Nat) (ns : List Nd) (T : BT), RepT ns (plug C T) → (plug C T).idx = 0 → CtxOk lo hi rt d C → Bel lo hi d T →
    ((C = [] → T.es.length ≤ rt + 1) ∧ (C ≠ [] → lo ≤ T.es.length ∧ T.es.length ≤ hi + 1)) → GapC rt C T.es.length → (C = [] → NoGap rt T) → Sm m ns → m + C.length ≤ 899 → ns.length + C.length ≤ 899 → LastU ns → P.take (C.length + 1) = (T.idx :: C.map Fr.i).reverse →
    Grown mo lo hi rt P m C.length ns (T.idx :: C.map Fr.i) (plug C T).flat
  | [], d, m, ns, T, hR, h0, hC, hB, hb, hg, hn, hs, hm, hl, hu, hP => by
    have h1 : T.idx = 0 := h0
    have hat := RepT.at_ (C := []) hR
    have e : grwW mo ns [T.idx] = ns := by
      show grw1 mo ns T.idx = ns
      unfold grw1
      rw [if_neg (fun h => by omega)]
    have hroot : RepT ns T := hR
    refine ⟨⟨⟨hat.1, fun h => by omega⟩, trivial⟩, trivial, e.symm, ?_, ?_, ?_, ?_⟩
    · show ∃ T' d', RepT (grwW mo ns [T.idx]) T' ∧ _
      rw [e]
      exact ⟨T, d, hroot, h1, hB, hb.1 rfl, hn rfl, rfl⟩
    · show Sm m (grwW mo ns [T.idx])
      rw [e]
      exact hs
    · show _ ≤ (grwW mo ns [T.idx]).length ∧ (grwW mo ns [T.idx]).length ≤ _
      rw [e]
      exact ⟨Nat.le_refl _, Nat.le_refl _⟩
    · show LastU (grwW mo ns [T.idx])
      rw [e]
      exact hu
  | f :: C, d, m, ns, .nd i es ks, hR, h0, hC, hB, hb, hg, hn, hs, hm, hl, hu, hP => by
    have hne : i ≠ 0 := by
      have := plug_ne hR (by simp)
      rw [h0] at this
      exact this
    have hat : i < ns.length ∧ nth ns i = ⟨true, es, idxs ks⟩ := RepT.at_ (T := .nd i es ks) hR
    have hb1 : lo ≤ es.length ∧ es.length ≤ hi + 1 := hb.2 (by simp)
    have hlen2 : (C.map Fr.i).length = C.length := by simp
    have hP1 := take_rev (A := f.i :: C.map Fr.i) (x := i) (by
      rw [List.length_cons, hlen2]
      exact hP)
    rw [List.length_cons, hlen2] at hP1
    have hP2 := take_rev (A := C.map Fr.i) (x := f.i) (by
      rw [hlen2]
      exact hP1.2)
    rw [hlen2] at hP2
    have hCl : (f :: C).length = C.length + 1 := rfl
    have hf := hC.2.2.1
    have hgC : ∀ n, f.es.length ≤ n → GapC rt C n := fun n hle => by
      cases C with
      | nil => trivial
      | cons g C' => exact GapC.mono (show GapC rt (g :: C') f.es.length from hg) hle
    have hlt9 : (nth ns (nth P (C.length + 1))).es.length = es.length := by rw [hP1.1, hat.2]
    by_cases hbig : es.length ≤ hi
    · -- it stays as it is
      have e1 : grw1 mo ns i = ns := by
        unfold grw1
        rw [if_neg (fun h => by rw [hat.2] at h; have := h.2; simp only [] at this; omega)]
      have hno : ¬ mo < ((nth ns (nth P (C.length + 1))).es.length : Int) := by rw [hlt9]; omega
      have ih := grow_up hmo hlo hhi hrt P C (d + 1) m ns (f.fill (.nd i es ks)) hR h0 hC.2.2.2 (bel_fill hC (bal_iff.2 ⟨hB, hb1.1, hbig⟩)) ⟨fun h => Nat.le_succ_of_le (hf.1 h), fun h => ⟨(hf.2 h).1, Nat.le_succ_of_le (hf.2 h).2⟩⟩ (hgC _ (Nat.le_refl _)) (fun h => by
        subst h
        intro e k hk
        have h9 : f.l ++ BT.nd i es ks :: f.r = [k] := hk
        cases hfl : f.l with
        | nil =>
          rw [hfl] at h9
          have : BT.nd i es ks = k := (List.cons.inj h9).1
          rw [← this]
          exact hg e
        | cons a b =>
          rw [hfl] at h9
          simp at h9) hs (by rw [hCl] at hm; omega) (by rw [hCl] at hl; omega) hu hP1.2
      have eW : grwW mo ns (i :: (f :: C).map Fr.i) = grwW mo ns ((f.fill (.nd i es ks)).idx :: C.map Fr.i) := by
        show grwW mo (grw1 mo ns i) _ = _
        rw [e1]
        rfl
      refine ⟨⟨⟨hat.1, fun _ (h : mo < ((nth ns i).es.length : Int)) => by rw [hat.2] at h; simp only [] at h; omega⟩, ?_⟩, ⟨⟨by rw [hP1.1]; exact hat.1, fun h => absurd h hno⟩, ?_⟩, ?_, ?_, ?_, ?_, ?_⟩
      · rw [show grw1 mo ns (BT.nd i es ks).idx = ns from e1]
        exact ih.ok
      · rw [if_neg hno]
        exact ih.okR
      · show grwRW mo P C.length (if _ then _ else _) = grwW mo ns (i :: (f :: C).map Fr.i)
        rw [if_neg hno, eW]
        exact ih.same
      · show ∃ T d, RepT (grwW mo ns (i :: (f :: C).map Fr.i)) T ∧ _
        rw [eW]
        exact ih.tree
      · show Sm _ (grwW mo ns (i :: (f :: C).map Fr.i))
        rw [eW]
        exact ih.sm.mono (by rw [hCl]; omega)
      · show _ ≤ (grwW mo ns (i :: (f :: C).map Fr.i)).length ∧ (grwW mo ns (i :: (f :: C).map Fr.i)).length ≤ _
        rw [eW]
        have := ih.len
        rw [hCl]
        omega
      · show LastU (grwW mo ns (i :: (f :: C).map Fr.i))
        rw [eW]
        exact ih.last
    · -- it is split
      have hle : es.length = hi + 1 := by omega
      have hmE : splM mo < es.length := by unfold splM; omega
      have hyes : mo < ((nth ns (nth P (C.length + 1))).es.length : Int) := by rw [hlt9]; omega
      have e1 : grw1 mo ns i = splN mo ns i := by
        unfold grw1
        rw [if_pos ⟨by omega, by rw [hat.2]; simp only []; omega⟩]
      have hok := spl_ok hR hC hB (by omega) (by omega) (hs.mono (by omega)) hmE
      have hokR := spr_ok hR h0 hok
      have hsR := splR_eq (mo := mo) hR h0
      have hsp := (rep_split (mo := mo) hR).2.2
      have hsl := splN_len mo ns i
      generalize hup : nth es (splM mo) = up at hsp
      have hflat := flat_split (mo := mo) (o := (freN ns).1) hC hB hmE
      rw [hup] at hflat
      have hbl := bel_split (o := (freN ns).1) (up := up) hmo hlo hC hB hle
      have hil : (insAt f.es f.l.length up).length = f.es.length + 1 := ins_len (by have := hC.2.1; omega)
      generalize hT2 : BT.nd f.i (insAt f.es f.l.length up) (f.l ++ BT.nd i (es.take (splM mo)) (ks.take (splM mo + 1)) :: BT.nd (freN ns).1 (es.drop (splM mo + 1)) (ks.drop (splM mo + 1)) :: f.r) = T2 at hsp hflat hbl
      have hT2i : T2.idx = f.i := by rw [← hT2]; rfl
      have hT2e : T2.es.length = f.es.length + 1 := by rw [← hT2]; exact hil
      have ih := grow_up hmo hlo hhi hrt P C (d + 1) (m + 1) (splN mo ns i) T2 hsp (by
        rw [plug_idx C T2 (f.fill (.nd i es ks)) hT2i]
        exact h0) hC.2.2.2 hbl ⟨fun h => by rw [hT2e]; have := hf.1 h; omega, fun h => by rw [hT2e]; have := hf.2 h; omega⟩ (hgC _ (by omega)) (fun h e => by rw [e] at hT2e; simp at hT2e) (hs.spl mo i) (by rw [hCl] at hm; omega) (by rw [hCl] at hl; omega) (hu.spl mo i) (by rw [hT2i]; exact hP1.2)
      have eW : grwW mo ns (i :: (f :: C).map Fr.i) = grwW mo (splN mo ns i) (T2.idx :: C.map Fr.i) := by
        show grwW mo (grw1 mo ns i) _ = _
        rw [e1, hT2i]
        rfl
      have hpf : (plug C T2).flat = (plug (f :: C) (.nd i es ks)).flat := by
        show _ = (plug C (f.fill (.nd i es ks))).flat
        rw [plug_flat hC.2.2.2, plug_flat hC.2.2.2, hflat]
      refine ⟨⟨⟨hat.1, fun _ _ => hok⟩, ?_⟩, ⟨⟨by rw [hP1.1]; exact hat.1, fun _ => by rw [hP1.1, hP2.1]; exact hokR⟩, ?_⟩, ?_, ?_, ?_, ?_, ?_⟩
      · rw [show grw1 mo ns (BT.nd i es ks).idx = splN mo ns i from e1]
        have := ih.ok
        rw [hT2i] at this
        exact this
      · rw [if_pos hyes, hP1.1, hP2.1, hsR]
        exact ih.okR
      · show grwRW mo P C.length (if _ then _ else _) = grwW mo ns (i :: (f :: C).map Fr.i)
        rw [if_pos hyes, hP1.1, hP2.1, hsR, eW]
        exact ih.same
      · show ∃ T d, RepT (grwW mo ns (i :: (f :: C).map Fr.i)) T ∧ _
        rw [eW, ← hpf]
        exact ih.tree
      · show Sm _ (grwW mo ns (i :: (f :: C).map Fr.i))
        rw [eW]
        exact ih.sm.mono (by rw [hCl]; omega)
      · show _ ≤ (grwW mo ns (i :: (f :: C).map Fr.i)).length ∧ (grwW mo ns (i :: (f :: C).map Fr.i)).length ≤ _
        rw [eW]
        have := ih.len
        rw [hCl]
        omega
      · show LastU (grwW mo ns (i :: (f :: C).map Fr.i))
        rw [eW]
        exact ih.last
theorem sm_bd2 {ns : List Nd} (h : Bd ns) : Sm 1000 ns := fun k => by
  rcases Nat.lt_or_ge k ns.length with hk | hk
  · exact ⟨h.es k hk, h.cs k hk⟩
  · rw [nth_out hk]
    exact ⟨Nat.zero_le _, Nat.zero_le _⟩
def insRB (co : Int) (ns : List Nd) (x : TEnt) : List Nd := esN ns (lastN (pathN co ns x.key).1) (insAt (nth ns (lastN (pathN co ns x.key).1)).es (plc co (nth ns (lastN (pathN co ns x.key).1)).es x.key) x)
theorem lowR_eq {LG L6 L7 L8 : List LNd} {b : Option Addr} {c : Nat} (hL6 : pln L6 = (frsN (pln LG)).2) (hi6 : 0 < L6.length) (ho6 : (frsN (pln LG)).1 < L6.length) (hS7 : NdSet L6 L7 (frsN (pln LG)).1 { nth L6 0 with us := (nth L6 (frsN (pln LG)).1).us }) (hS8 : NdSet L7 L8 0 ⟨(nth L7 0).us, none, 0, [], b, c, [((frsN (pln LG)).1 : Int)]⟩) (hi7 : 0 < L7.length) : pln L8 = (lowR (pln LG)).2 := by
  have e2 : pln L7 = csN (esN (pln L6) (frsN (pln LG)).1 (nth (pln L6) 0).es) (frsN (pln LG)).1 (nth (pln L6) 0).cs := by
    rw [csN_esN (by rw [pln_len]; exact ho6), hS7.pl, pln_nth ho6, pln_nth hi6]
    rfl
  rw [hS8.pl, lowR, ← hL6, ← e2, csN_esN (by rw [pln_len]; exact hi7), pln_nth hi7]
  rfl
end Gx
