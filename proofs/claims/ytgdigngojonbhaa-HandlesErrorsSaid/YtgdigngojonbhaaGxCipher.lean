/- Chapter 7's plain data: states, blocks of the key stream, encrypted bytes. -/
import Derived.Test.YtgdigngojonbhaaGxNum
namespace Gx
open Go Go.RowKit
/-- A byte as it lies in memory. -/
def bv (b : UInt8) : Value := .int .u8 (b.toNat : Int)
theorem vByte_bv (l : List UInt8) : (l.map bv).map vByte = l := by
  rw [List.map_map]
  refine (List.map_congr_left (g := id) fun b _ => ?_).trans (List.map_id _)
  simp [bv, vByte, intOf]
theorem isU8_bv (l : List UInt8) : ∀ v ∈ l.map bv, isU8 v = true := by
  intro v hv
  obtain ⟨b, _, rfl⟩ := List.mem_map.1 hv
  rfl
def w2 (a b : UInt8) : UInt16 := UInt16.ofNat (a.toNat + 256 * b.toNat)
theorem w2_slot (a b : UInt8) : Value.int .u16 (bits .or .u16 (IntKind.u16.wrap (a.toNat : Int)) (IntKind.u16.wrap (IntKind.u16.wrap (b.toNat : Int) * 2 ^ 8))) = wv (w2 a b) := by
  have ha := a.toNat_lt
  have hb := b.toNat_lt
  have e1 : IntKind.u16.wrap (b.toNat : Int) * 2 ^ 8 = ((256 * b.toNat : Nat) : Int) := by
    rw [wrap_u16 _ (by omega)]; omega
  rw [e1, wrap_u16 _ (by omega), wrap_u16 _ (by omega), bits_or16 _ _ (by omega) (by omega)]
  have e2 : a.toNat ||| 256 * b.toNat = a.toNat + 256 * b.toNat := by
    have h := Nat.two_pow_add_eq_or_of_lt (i := 8) (b := a.toNat) (by omega) b.toNat
    have e256 : (2 : Nat) ^ 8 = 256 := by decide
    rw [e256] at h
    rw [Nat.or_comm, ← h, Nat.add_comm]
  rw [e2, wv, w2, UInt16.toNat_ofNat', Nat.mod_eq_of_lt (by omega)]
/-- The words of a key, the state, a round, a block. -/
def kw (key : List UInt8) (i : Nat) : UInt16 := w2 (key.getD (2 * i) 0) (key.getD (2 * i + 1) 0)
def stateL (key : List UInt8) (n c : UInt16) : List UInt16 := [0x6564, 0x6f70, kw key 0, kw key 1, kw key 2, kw key 3, n, c]
def turn (s : List UInt16) (i j k l : Nat) : List UInt16 :=
  let q := quarter4 ⟨s.getD i 0, s.getD j 0, s.getD k 0, s.getD l 0⟩
  (((s.set i q.a).set l q.d).set k q.c).set j q.b
theorem turn_length (s : List UInt16) (i j k l : Nat) : (turn s i j k l).length = s.length := by simp [turn]
def roundL (s : List UInt16) : List UInt16 := turn (turn (turn (turn s 0 2 4 6) 1 3 5 7) 0 3 4 7) 1 2 5 6
def roundN (s : List UInt16) : Nat → List UInt16
  | 0 => s
  | k + 1 => roundL (roundN s k)
theorem roundL_length (s : List UInt16) : (roundL s).length = s.length := by simp [roundL, turn_length]
theorem roundN_length (s : List UInt16) : ∀ k, (roundN s k).length = s.length
  | 0 => rfl
  | k + 1 => by rw [roundN, roundL_length, roundN_length s k]
theorem getw {st : List UInt16} {i : Nat} (h : i < st.length) : (st.map wv)[i]? = some (wv (st.getD i 0)) := by
  simp [List.getD_eq_getElem?_getD, List.getElem?_eq_getElem h]
theorem getb {l : List UInt8} {i : Nat} (h : i < l.length) : (l.map bv)[i]? = some (bv (l.getD i 0)) := by
  simp [List.getD_eq_getElem?_getD, List.getElem?_eq_getElem h]
theorem turn_map (s : List UInt16) (i j k l : Nat) : setQ (s.map wv) i j k l (quarter4 ⟨s.getD i 0, s.getD j 0, s.getD k 0, s.getD l 0⟩) = (turn s i j k l).map wv := by
  simp [setQ, turn]
def lo (x : UInt16) : UInt8 := UInt8.ofNat x.toNat
def hi (x : UInt16) : UInt8 := UInt8.ofNat (x.toNat / 256)
theorem lo_slot (x : UInt16) : Value.int .u8 (IntKind.u8.wrap (x.toNat : Int)) = bv (lo x) := by
  rw [wrap_u8_mod, bv, lo, UInt8.toNat_ofNat']
theorem hi_slot (x : UInt16) : Value.int .u8 (IntKind.u8.wrap ((x.toNat : Int) / 2 ^ 8)) = bv (hi x) := by
  have : (x.toNat : Int) / 2 ^ 8 = ((x.toNat / 256 : Nat) : Int) := by rw [Int.natCast_ediv]; rfl
  rw [this, wrap_u8_mod, bv, hi, UInt8.toNat_ofNat']
def wb (ws : List UInt16) : Nat → List UInt8
  | 0 => []
  | k + 1 => wb ws k ++ [lo (ws.getD k 0), hi (ws.getD k 0)]
theorem wb_length (ws : List UInt16) : ∀ k, (wb ws k).length = 2 * k
  | 0 => rfl
  | k + 1 => by rw [wb, List.length_append, wb_length ws k]; rfl
def addL (a b : List UInt16) : List UInt16 := (List.range 8).map fun i => a.getD i 0 + b.getD i 0
theorem addL_get (a b : List UInt16) {k : Nat} (h : k < 8) : (addL a b).getD k 0 = a.getD k 0 + b.getD k 0 := by
  simp [addL, List.getD_eq_getElem?_getD, h]
/-- The block for a key, a nonce and a counter. -/
def blockB (key : List UInt8) (n c : UInt16) : List UInt8 := wb (addL (roundN (stateL key n c) 6) (stateL key n c)) 8
theorem blockB_length (key : List UInt8) (n c : UInt16) : (blockB key n c).length = 16 := wb_length _ 8
/-- The key stream. -/
def ks (key : List UInt8) (n : UInt16) (p : Nat) : UInt8 := (blockB key n (UInt16.ofNat (p / 16))).getD (p % 16) 0
/-- Bytes encrypted from an offset on. -/
def cryptL (key : List UInt8) (n : UInt16) : Nat → List UInt8 → List UInt8
  | _, [] => []
  | at', b :: l => (b ^^^ ks key n at') :: cryptL key n (at' + 1) l
theorem cryptL_length (key : List UInt8) (n : UInt16) : ∀ (l : List UInt8) (at' : Nat), (cryptL key n at' l).length = l.length
  | [], _ => rfl
  | b :: l, at' => by rw [cryptL, List.length_cons, cryptL_length key n l, List.length_cons]
theorem cryptL_append (key : List UInt8) (n : UInt16) : ∀ (l m : List UInt8) (at' : Nat), cryptL key n at' (l ++ m) = cryptL key n at' l ++ cryptL key n (at' + l.length) m
  | [], m, at' => by simp [cryptL]
  | b :: l, m, at' => by
    rw [List.cons_append, cryptL, cryptL, cryptL_append key n l m, List.length_cons, List.cons_append, show at' + 1 + l.length = at' + (l.length + 1) by omega]
theorem cryptL_get (key : List UInt8) (n : UInt16) : ∀ (l : List UInt8) (at' i : Nat), i < l.length → (cryptL key n at' l).getD i 0 = l.getD i 0 ^^^ ks key n (at' + i)
  | [], _, _, h => absurd h (Nat.not_lt_zero _)
  | b :: l, at', 0, _ => by simp [cryptL]
  | b :: l, at', i + 1, h => by
    have := cryptL_get key n l (at' + 1) i (by simpa using h)
    simp only [cryptL, List.getD_cons_succ, this, show at' + 1 + i = at' + (i + 1) by omega]
/-- The bytes when k of them are encrypted. -/
def cryptK (key : List UInt8) (n : UInt16) (at' : Nat) (l : List UInt8) (k : Nat) : List UInt8 := cryptL key n at' (l.take k) ++ l.drop k
theorem cryptK_length (key : List UInt8) (n : UInt16) (at' : Nat) (l : List UInt8) (k : Nat) : (cryptK key n at' l k).length = l.length := by
  simp [cryptK, cryptL_length]; omega
theorem cryptK_get {key : List UInt8} {n : UInt16} {at' : Nat} {l : List UInt8} {k : Nat} (h : k < l.length) : (cryptK key n at' l k).getD k 0 = l.getD k 0 := by
  have hl : (cryptL key n at' (l.take k)).length = k := by rw [cryptL_length, List.length_take]; omega
  rw [cryptK, List.getD_eq_getElem?_getD, List.getElem?_append_right (by omega), hl, Nat.sub_self, List.getElem?_drop, Nat.add_zero, ← List.getD_eq_getElem?_getD]
theorem cryptK_succ {key : List UInt8} {n : UInt16} {at' : Nat} {l : List UInt8} {k : Nat} (h : k < l.length) : (cryptK key n at' l k).set k (l.getD k 0 ^^^ ks key n (at' + k)) = cryptK key n at' l (k + 1) := by
  have hl : (cryptL key n at' (l.take k)).length = k := by rw [cryptL_length, List.length_take]; omega
  rw [cryptK, List.set_append_right _ _ (by omega), hl, Nat.sub_self, List.drop_eq_getElem_cons h, List.set_cons_zero, cryptK, List.take_succ_eq_append_getElem h, cryptL_append, List.append_assoc]
  congr 1
  rw [List.length_take, Nat.min_eq_left (by omega), List.getD_eq_getElem?_getD, List.getElem?_eq_getElem h]
  rfl
theorem cryptK_all (key : List UInt8) (n : UInt16) (at' : Nat) (l : List UInt8) : cryptK key n at' l l.length = cryptL key n at' l := by
  simp [cryptK]
/-- The check of a key. -/
def sumK (key : List UInt8) : Nat → Nat
  | 0 => 0
  | k + 1 => sumK key k + (k + 1) * (key.getD k 0).toNat
theorem sumK_le (key : List UInt8) : ∀ k, sumK key k ≤ k * k * 255
  | 0 => by simp [sumK]
  | k + 1 => by
    have h1 := sumK_le key k
    have h2 : (k + 1) * (key.getD k 0).toNat ≤ (k + 1) * 255 := Nat.mul_le_mul_left _ (by have := (key.getD k 0).toNat_lt; omega)
    have h3 : (k + 1) * (k + 1) * 255 = k * k * 255 + (2 * k + 1) * 255 := by rw [← Nat.add_mul]; congr 1; rw [Nat.mul_add, Nat.add_mul]; omega
    rw [sumK, h3]
    omega
def checkL (key : List UInt8) : List UInt8 := [UInt8.ofNat (sumK key key.length), UInt8.ofNat (sumK key key.length / 256)]
def wrapL (u : Int) (own key : List UInt8) : List UInt8 := cryptL own (wd u) 0 (key ++ checkL key)
theorem cut_all {cs : List Value} {n : Nat} (h : cs.length = n) : cut cs 0 n = cs := by
  subst h; simp [cut]
theorem wb_succ_map (a b : List UInt16) {k : Nat} (h : k < 8) : (wb (addL a b) (k + 1)).map bv = (wb (addL a b) k).map bv ++ [bv (lo (a.getD k 0 + b.getD k 0)), bv (hi (a.getD k 0 + b.getD k 0))] := by
  simp only [wb, List.map_append, addL_get a b h]
  rfl
end Gx
