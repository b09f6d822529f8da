/- Rows of one cell an element; numbers as bytes, the least first. -/
import Derived.Test.YtgdigngojonbhaaGxOps5
import Derived.Test.YtgdigngojonbhaaGxCipher2
namespace Gx
set_option linter.unusedVariables false
open Go Go.RowKit
def Vl (w : World) (a : Option Addr) (vs : List Value) : Prop := Sl w [] a 1 vs.length (fun i => (vs[i]?).toList)
theorem Vl.later {w w' : World} {As : List HA} {a : Option Addr} {vs : List Value} (h : Vl w a vs) (hs : HS w [] As w') : Vl w' a vs := Sl.later h hs fun _ _ h => h
theorem Vl.rd {w : World} {a : Option Addr} {vs : List Value} (h : Vl w a vs) {i : Nat} {v : Value} (hv : vs[i]? = some v) : Rd w [] (ab a) (ao a + i * 1) v := by
  have hi : i < vs.length := (List.getElem?_eq_some_iff.1 hv).1
  exact Sl.rd (j := 0) h hi (by simp [hv])
theorem Vl.some {w : World} {a : Option Addr} {vs : List Value} (h : Vl w a vs) (hn : 0 < vs.length) : a = .some ⟨ab a, ao a, none⟩ := Sl.some h hn
theorem Vl.src {w0 w : World} {As : List HA} {a : Option Addr} {vs : List Value} (h : Vl w0 a vs) (hw : HS w0 [] As w) : Src a vs w := by
  intro hne
  refine ⟨ab a, ao a, h.some (List.length_pos_iff.2 hne), fun j u hu => ?_⟩
  have := hw.rd (h.rd hu)
  rwa [Nat.mul_one] at this
theorem Vl.none {w : World} {vs : List Value} (h : Vl w Option.none vs) : vs = [] := by
  cases vs with
  | nil => rfl
  | cons p vs =>
    obtain ⟨b, o, h1, _⟩ := Sl.at_ h (by simp)
    cases h1
theorem vl_cell {vs : List Value} {i : Nat} (hi : i < vs.length) : ((vs[i]?).toList).length = 1 ∧ ∀ j v, ((vs[i]?).toList)[j]? = some v → vs[i * 1 + j]? = some v := by
  rw [List.getElem?_eq_getElem hi]
  refine ⟨rfl, fun j v hv => ?_⟩
  rcases j with _ | j
  · simp only [Option.toList, List.getElem?_cons_zero, Option.some.injEq] at hv
    subst hv
    rw [Nat.mul_one, Nat.add_zero, List.getElem?_eq_getElem hi]
  · simp [Option.toList] at hv
theorem HS.vl_blk {w0 w : World} {M : List Nat} {As As' : List HA} {b : Nat} {t : TypeId} {tot : Nat} {cs : List Value} (h : HS w0 M As w) (hp : Pick As (.blk b t tot cs) As') : Vl w (some ⟨b, 0, none⟩) cs :=
  h.sl_blk hp fun i hi => vl_cell hi
theorem HS.vl_own {w0 w : World} {M : List Nat} {As As' : List HA} {n : Nat} {t : TypeId} {cs : List Value} {a : Option Addr} {cap : Nat} (h : HS w0 M As w) (hp : Pick As (.own (.slice a n cap) t 1 n cs) As') : Vl w a cs := by
  have hl : cs.length = n := by have := (h.pick hp).head.1; omega
  subst hl
  exact h.sl_own hp rfl fun i hi => vl_cell hi
/-! ## Strings in a row -/
def strV (s : List UInt8) : Value := .string (bs s)
theorem str_get {ss : List (List UInt8)} {i : Nat} (h : i < ss.length) : (ss.map strV)[i]? = some (.string (bs (ss.getD i []))) := by
  simp [List.getD_eq_getElem?_getD, List.getElem?_eq_getElem h, strV]
def fewB (ss : List (List UInt8)) : Bool := ss.all fun s => decide (s.length ≤ 400)
theorem fewB_take {ss : List (List UInt8)} {k : Nat} (h : k < ss.length) (h1 : fewB (ss.take k) = true) (h2 : (ss.getD k []).length ≤ 400) : fewB (ss.take (k + 1)) = true := by
  unfold fewB at *
  rw [List.take_succ_eq_append_getElem h, List.all_append, h1]
  simpa [List.getD_eq_getElem?_getD, List.getElem?_eq_getElem h] using h2
theorem fewB_no {ss : List (List UInt8)} {k : Nat} (h : k < ss.length) (h2 : ¬ (ss.getD k []).length ≤ 400) : fewB ss = false := by
  unfold fewB
  rw [List.all_eq_false]
  refine ⟨ss[k], List.getElem_mem h, ?_⟩
  simpa [List.getD_eq_getElem?_getD, List.getElem?_eq_getElem h] using h2
/-! ## Numbers as bytes, the least first -/
def leS : List UInt8 → Nat
  | [] => 0
  | b :: l => b.toNat + 256 * leS l
theorem leS_lt : ∀ l : List UInt8, leS l < 256 ^ l.length
  | [] => by simp [leS]
  | b :: l => by
    have h1 := leS_lt l
    have h2 := b.toNat_lt
    rw [leS, List.length_cons, Nat.pow_succ]
    omega
theorem leS_le {l : List UInt8} {n : Nat} (h : l.length ≤ n) (hn : n ≤ 6) : leS l < 281474976710656 := by
  have h1 := leS_lt l
  have h2 : 256 ^ l.length ≤ 256 ^ 6 := Nat.pow_le_pow_right (by omega) (by omega)
  have h3 : (256 : Nat) ^ 6 = 281474976710656 := by decide
  omega
def leB : Nat → Nat → List UInt8
  | _, 0 => []
  | n, c + 1 => UInt8.ofNat n :: leB (n / 256) c
theorem leB_length : ∀ (c n : Nat), (leB n c).length = c
  | 0, _ => rfl
  | c + 1, n => by rw [leB, List.length_cons, leB_length c]
theorem leB_succ : ∀ (c n : Nat), leB n (c + 1) = leB n c ++ [UInt8.ofNat (n / 256 ^ c)]
  | 0, n => by simp [leB]
  | c + 1, n => by
    rw [leB, leB_succ c, leB, List.cons_append, Nat.div_div_eq_div_mul, Nat.pow_succ, Nat.mul_comm (256 ^ c)]
theorem ofNat_mod (n : Nat) : UInt8.ofNat (n % 256) = UInt8.ofNat n := by
  apply UInt8.toNat_inj.1
  simp
theorem leB_2 (n : Nat) : leB n 2 = [UInt8.ofNat n, UInt8.ofNat (n / 256)] := rfl
def divB (n k : Nat) : Nat := n / 256 ^ k
theorem divB_0 (n : Nat) : divB n 0 = n := by simp [divB]
theorem divB_succ (n k : Nat) : divB n (k + 1) = divB n k / 256 := by rw [divB, divB, Nat.pow_succ, Nat.div_div_eq_div_mul]
theorem divB_le (n k : Nat) : divB n k ≤ n := Nat.div_le_self _ _
/-- A number's lowest byte, as the program makes it. -/
theorem byte_slot (n : Nat) : Value.int .u8 (IntKind.u8.wrap ((n : Int) % 256)) = bv (UInt8.ofNat n) := by
  rw [show (n : Int) % 256 = ((n % 256 : Nat) : Int) by omega, wrap_u8_mod, bv, ← ofNat_mod, UInt8.toNat_ofNat']
def iv (x : UInt16) : Value := .int .i64 (x.toNat : Int)
theorem kw_le (key : List UInt8) (i : Nat) (h : 2 * i + 2 ≤ key.length) : leS ((key.drop (2 * i)).take 2) = (kw key i).toNat := by
  have h1 : (key.drop (2 * i)).take 2 = [key.getD (2 * i) 0, key.getD (2 * i + 1) 0] := by
    rw [List.drop_eq_getElem_cons (show 2 * i < key.length by omega), List.take_succ_cons, List.drop_eq_getElem_cons (show 2 * i + 1 < key.length by omega), List.take_succ_cons, List.take_zero]
    simp [List.getD_eq_getElem?_getD, List.getElem?_eq_getElem (show 2 * i < key.length by omega), List.getElem?_eq_getElem (show 2 * i + 1 < key.length by omega)]
  have ha := (key.getD (2 * i) 0).toNat_lt
  have hb := (key.getD (2 * i + 1) 0).toNat_lt
  rw [h1, kw, w2, UInt16.toNat_ofNat']
  simp only [leS]
  omega
/-- One of two, by whether a count is 0. -/
def pk {α : Type} (k : Nat) (x y : α) : α := match k with
  | 0 => x
  | _ + 1 => y
theorem getiv {s : List UInt16} {i : Nat} (h : i < s.length) : (s.map iv)[i]? = some (iv (s.getD i 0)) := by
  simp [List.getD_eq_getElem?_getD, List.getElem?_eq_getElem h]
theorem turn_seq (s : List UInt16) {i j k l : Nat} (h12 : i ≠ j) (h13 : i ≠ k) (h14 : i ≠ l) (h23 : j ≠ k) (h24 : j ≠ l) (h34 : k ≠ l) (q : Q4) (hq : q = quarter4 ⟨s.getD i 0, s.getD j 0, s.getD k 0, s.getD l 0⟩) : (((s.set i q.a).set j q.b).set k q.c).set l q.d = turn s i j k l := by
  subst hq
  simp only [turn]
  rw [List.set_comm _ _ h23, List.set_comm _ _ h24, List.set_comm _ _ h34]
theorem iv_one (s : List UInt16) : ∀ u ∈ s.map iv, u.oneCell' = true := by
  intro u hu
  obtain ⟨x, _, rfl⟩ := List.mem_map.1 hu
  rfl
end Gx
