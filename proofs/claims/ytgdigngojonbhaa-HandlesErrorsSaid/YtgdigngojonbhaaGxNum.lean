/- Plain numbers: words of 16 bits, bytes, digits of two. -/
import Derived.Test.YtgdigngojonbhaaGxLib
namespace Gx
set_option linter.unusedSimpArgs false
set_option linter.unusedVariables false
open Go Go.RowKit
theorem xor_mod_succ (a b n : Nat) : (a ^^^ b) % 2 ^ (n + 1) = (a ^^^ b) % 2 ^ n + (if a / 2 ^ n % 2 ≠ b / 2 ^ n % 2 then 2 ^ n else 0) := by
  rw [Nat.mod_pow_succ]
  congr 1
  have h : (a ^^^ b) / 2 ^ n % 2 = ((a ^^^ b).testBit n).toNat := by rw [Nat.toNat_testBit]
  have ha : a / 2 ^ n % 2 = (a.testBit n).toNat := by rw [Nat.toNat_testBit]
  have hb : b / 2 ^ n % 2 = (b.testBit n).toNat := by rw [Nat.toNat_testBit]
  rw [h, ha, hb, Nat.testBit_xor]
  cases a.testBit n <;> cases b.testBit n <;> simp
theorem wrap_u16 (n : Nat) (h : n < 65536) : IntKind.u16.wrap (n : Int) = n := by
  simp only [IntKind.wrap, IntKind.signed, IntKind.bits]
  simp
  omega
theorem wrap_u8 (n : Nat) (h : n < 256) : IntKind.u8.wrap (n : Int) = n := by
  simp only [IntKind.wrap, IntKind.signed, IntKind.bits]
  simp
  omega
theorem wrap_u16_mod (n : Nat) : IntKind.u16.wrap (n : Int) = ((n % 65536 : Nat) : Int) := by
  simp only [IntKind.wrap, IntKind.signed, IntKind.bits]
  simp
theorem wrap_u8_mod (n : Nat) : IntKind.u8.wrap (n : Int) = ((n % 256 : Nat) : Int) := by
  simp only [IntKind.wrap, IntKind.signed, IntKind.bits]
  simp
theorem u16add (a b : UInt16) : Value.int .u16 (IntKind.u16.wrap ((a.toNat : Int) + (b.toNat : Int))) = .int .u16 ((a + b).toNat : Int) := by
  rw [← Int.natCast_add, wrap_u16_mod, UInt16.toNat_add]
theorem u16mod (a b : UInt16) : Value.int .i64 (((a.toNat : Int) + (b.toNat : Int)) % 65536) = .int .i64 ((a + b).toNat : Int) := by
  rw [← Int.natCast_add, UInt16.toNat_add]
  rfl
theorem ofInt_nat (n m : Nat) (h : m < 2 ^ n) : (BitVec.ofInt n (m : Int)).toNat = m := by
  rw [BitVec.toNat_ofInt]
  have : ((m : Int) % ((2 ^ n : Nat) : Int)) = ((m % 2 ^ n : Nat) : Int) := by norm_cast
  rw [this, Int.toNat_natCast, Nat.mod_eq_of_lt h]
theorem bits_xor16 (a b : Nat) (ha : a < 65536) (hb : b < 65536) : bits .xor .u16 (a : Int) (b : Int) = ((a ^^^ b : Nat) : Int) := by
  change IntKind.u16.wrap (((BitVec.ofInt 16 (a : Int)) ^^^ (BitVec.ofInt 16 (b : Int)) : BitVec 16).toNat : Int) = _
  rw [BitVec.toNat_xor, ofInt_nat 16 a ha, ofInt_nat 16 b hb]
  exact wrap_u16 _ (Nat.xor_lt_two_pow (n := 16) ha hb)
theorem bits_or16 (a b : Nat) (ha : a < 65536) (hb : b < 65536) : bits .or .u16 (a : Int) (b : Int) = ((a ||| b : Nat) : Int) := by
  change IntKind.u16.wrap (((BitVec.ofInt 16 (a : Int)) ||| (BitVec.ofInt 16 (b : Int)) : BitVec 16).toNat : Int) = _
  rw [BitVec.toNat_or, ofInt_nat 16 a ha, ofInt_nat 16 b hb]
  exact wrap_u16 _ (Nat.or_lt_two_pow (n := 16) ha hb)
theorem bits_xor8 (a b : Nat) (ha : a < 256) (hb : b < 256) : bits .xor .u8 (a : Int) (b : Int) = ((a ^^^ b : Nat) : Int) := by
  change IntKind.u8.wrap (((BitVec.ofInt 8 (a : Int)) ^^^ (BitVec.ofInt 8 (b : Int)) : BitVec 8).toNat : Int) = _
  rw [BitVec.toNat_xor, ofInt_nat 8 a ha, ofInt_nat 8 b hb]
  exact wrap_u8 _ (Nat.xor_lt_two_pow (n := 8) ha hb)
theorem u16xor (a b : UInt16) : Value.int .u16 (bits .xor .u16 (a.toNat : Int) (b.toNat : Int)) = .int .u16 ((a ^^^ b).toNat : Int) := by
  rw [bits_xor16 _ _ a.toNat_lt b.toNat_lt, UInt16.toNat_xor]
theorem u8xor (a b : UInt8) : Value.int .u8 (bits .xor .u8 (a.toNat : Int) (b.toNat : Int)) = .int .u8 ((a ^^^ b).toNat : Int) := by
  rw [bits_xor8 _ _ a.toNat_lt b.toNat_lt, UInt8.toNat_xor]
/-- A word rotated to the left. -/
def rotl (x : UInt16) (k : Nat) : UInt16 := UInt16.ofNat (x.toNat * 2 ^ k % 65536 + x.toNat / 2 ^ (16 - k))
theorem rotl_lt (x : Nat) (k : Nat) (hx : x < 65536) (hk : k ≤ 16) : x * 2 ^ k % 65536 + x / 2 ^ (16 - k) < 65536 := by
  have h16 : (65536 : Nat) = 2 ^ (16 - k) * 2 ^ k := by rw [← Nat.pow_add, Nat.sub_add_cancel hk]
  have hq : x / 2 ^ (16 - k) < 2 ^ k := by
    rw [Nat.div_lt_iff_lt_mul (Nat.pow_pos (by omega)), Nat.mul_comm, ← h16]; exact hx
  have hm : x * 2 ^ k % 65536 = x % 2 ^ (16 - k) * 2 ^ k := by rw [h16, Nat.mul_mod_mul_right]
  have hr : x % 2 ^ (16 - k) + 1 ≤ 2 ^ (16 - k) := Nat.mod_lt _ (Nat.pow_pos (by omega))
  have := Nat.mul_le_mul_right (2 ^ k) hr
  rw [← h16, Nat.add_mul] at this
  omega
theorem rotl_toNat (x : UInt16) (k : Nat) (hk : k ≤ 16) : (rotl x k).toNat = x.toNat * 2 ^ k % 65536 + x.toNat / 2 ^ (16 - k) := by
  rw [rotl, UInt16.toNat_ofNat']
  exact Nat.mod_eq_of_lt (rotl_lt x.toNat k x.toNat_lt hk)
theorem rotl_or (x : Nat) (k : Nat) (hx : x < 65536) (hk : k ≤ 16) : x * 2 ^ k % 65536 ||| x / 2 ^ (16 - k) = x * 2 ^ k % 65536 + x / 2 ^ (16 - k) := by
  have h16 : (65536 : Nat) = 2 ^ (16 - k) * 2 ^ k := by rw [← Nat.pow_add, Nat.sub_add_cancel hk]
  have hq : x / 2 ^ (16 - k) < 2 ^ k := by
    rw [Nat.div_lt_iff_lt_mul (Nat.pow_pos (by omega)), Nat.mul_comm, ← h16]; exact hx
  have hm : x * 2 ^ k % 65536 = 2 ^ k * (x % 2 ^ (16 - k)) := by rw [h16, Nat.mul_mod_mul_right, Nat.mul_comm]
  rw [hm]
  exact (Nat.two_pow_add_eq_or_of_lt hq _).symm
/-- The quarter of four words. -/
structure Q4 where
  a : UInt16
  b : UInt16
  c : UInt16
  d : UInt16
  deriving DecidableEq
def half (q : Q4) (l r : Nat) : Q4 :=
  let a := q.a + q.b
  let d := rotl (q.d ^^^ a) l
  let c := q.c + d
  let b := rotl (q.b ^^^ c) r
  ⟨a, b, c, d⟩
def quarter4 (q : Q4) : Q4 := half (half q 8 6) 4 3
end Gx
namespace Gx
open Go Go.RowKit
theorem xor_step {a b k : Nat} (h : ¬ ((a : Int) / 2 ^ k % 2 = (b : Int) / 2 ^ k % 2)) : (((a ^^^ b) % 2 ^ k : Nat) : Int) + 2 ^ k = (((a ^^^ b) % 2 ^ (k + 1) : Nat) : Int) := by
  have h' : a / 2 ^ k % 2 ≠ b / 2 ^ k % 2 := fun e => h (by norm_cast)
  rw [xor_mod_succ, if_pos h']
  push_cast
  rfl
theorem xor_stay {a b k : Nat} (h : (a : Int) / 2 ^ k % 2 = (b : Int) / 2 ^ k % 2) : (((a ^^^ b) % 2 ^ k : Nat) : Int) = (((a ^^^ b) % 2 ^ (k + 1) : Nat) : Int) := by
  have h' : ¬ (a / 2 ^ k % 2 ≠ b / 2 ^ k % 2) := fun hn => hn (by exact_mod_cast h)
  rw [xor_mod_succ, if_neg h', Nat.add_zero]
theorem pow_le16 {k : Nat} (h : k ≤ 16) : (0 : Int) < 2 ^ k ∧ (2 : Int) ^ k ≤ 65536 := by
  refine ⟨Int.pow_pos (by omega), ?_⟩
  have h1 : (2 : Nat) ^ k ≤ 2 ^ 16 := Nat.pow_le_pow_right (by omega) h
  have h2 : ((2 ^ k : Nat) : Int) = (2 : Int) ^ k := by simp
  have h3 : (2 : Nat) ^ 16 = 65536 := by decide
  omega
theorem u64w (n : Nat) (h : n < 65536) : IntKind.u64.wrap (n : Int) = n := by
  change ((n : Int) % (2 ^ 64 : Nat) : Int) = n
  exact Int.emod_eq_of_lt (by omega) (by omega)
theorem and15 (k : Nat) (h : k < 16) : bits .and .u64 (k : Int) 15 = k := by
  have : ∀ k < 16, bits .and .u64 ((k : Nat) : Int) 15 = (k : Int) := by decide
  exact this k h
theorem rot_slots (x : UInt16) (k : Nat) (hk : 1 ≤ k) (hk' : k ≤ 15) : bits .or .u16 (IntKind.u16.wrap ((x.toNat : Int) * 2 ^ k)) ((x.toNat : Int) / 2 ^ (16 - k)) = ((rotl x k).toNat : Int) := by
  have hx := x.toNat_lt
  have e1 : IntKind.u16.wrap ((x.toNat : Int) * 2 ^ k) = ((x.toNat * 2 ^ k % 65536 : Nat) : Int) := by
    rw [← wrap_u16_mod]; push_cast; rfl
  have e2 : ((x.toNat : Int) / 2 ^ (16 - k)) = ((x.toNat / 2 ^ (16 - k) : Nat) : Int) := by push_cast; rfl
  have hd : x.toNat / 2 ^ (16 - k) < 65536 := Nat.lt_of_le_of_lt (Nat.div_le_self _ _) hx
  rw [e1, e2, bits_or16 _ _ (Nat.mod_lt _ (by omega)) hd, rotl_or _ _ hx (by omega), rotl_toNat x k (by omega)]
theorem rot_ref (x : UInt16) (k : Nat) (hk : 1 ≤ k) (hk' : k ≤ 15) : ((x.toNat : Int) * 2 ^ k) % 65536 + (x.toNat : Int) / 2 ^ (16 - k) = ((rotl x k).toNat : Int) := by
  have e1 : ((x.toNat * 2 ^ k % 65536 : Nat) : Int) = (x.toNat : Int) * 2 ^ k % 65536 := by rw [Int.natCast_emod, Int.natCast_mul, Int.natCast_pow]; rfl
  have e2 : ((x.toNat / 2 ^ (16 - k) : Nat) : Int) = (x.toNat : Int) / 2 ^ (16 - k) := by rw [Int.natCast_ediv, Int.natCast_pow]; rfl
  rw [rotl_toNat x k (by omega), Int.natCast_add, e1, e2]
theorem mul_bound (x : UInt16) (k : Nat) (hk : k ≤ 16) : 0 ≤ (x.toNat : Int) * 2 ^ k ∧ (x.toNat : Int) * 2 ^ k ≤ 4294967296 := by
  have hx := x.toNat_lt
  have h1 : (2 : Nat) ^ k ≤ 2 ^ 16 := Nat.pow_le_pow_right (by omega) hk
  have h2 : x.toNat * 2 ^ k ≤ 65536 * 65536 := Nat.mul_le_mul (by omega) h1
  have h3 : ((x.toNat * 2 ^ k : Nat) : Int) = (x.toNat : Int) * 2 ^ k := by push_cast; rfl
  omega
theorem u16add64 (a b : UInt16) : Value.int .i64 (IntKind.i64.wrap ((a.toNat : Int) + (b.toNat : Int))) = .int .i64 ((a.toNat : Int) + (b.toNat : Int)) := by
  have := a.toNat_lt
  have := b.toNat_lt
  exact i64w (by omega) (by omega)
/-- A word as it lies in memory. -/
def wv (x : UInt16) : Value := .int .u16 (x.toNat : Int)
theorem get_set_ne {α : Type} {cs : List α} {i j : Nat} {v u : α} (h : cs[j]? = some u) (hne : i ≠ j) : (cs.set i v)[j]? = some u := by rw [List.getElem?_set_ne hne]; exact h
theorem get_set_eq {α : Type} {cs : List α} {i : Nat} {v u : α} (h : cs[i]? = some u) : (cs.set i v)[i]? = some v := by
  have hi : i < cs.length := (List.getElem?_eq_some_iff.1 h).1
  simp [hi]
/-- Four words written at their places. -/
def setQ (cs : List Value) (oa ob oc od : Nat) (q : Q4) : List Value := (((cs.set oa (wv q.a)).set od (wv q.d)).set oc (wv q.c)).set ob (wv q.b)
theorem setQ_length (cs : List Value) (oa ob oc od : Nat) (q : Q4) : (setQ cs oa ob oc od q).length = cs.length := by simp [setQ]
section
variable {cs : List Value} {oa ob oc od : Nat} {q : Q4}
theorem setQ_a (h : oa < cs.length) (h12 : oa ≠ ob) (h13 : oa ≠ oc) (h14 : oa ≠ od) : (setQ cs oa ob oc od q)[oa]? = some (wv q.a) := by
  simp [setQ, List.getElem?_set, h, h12, h13, h14, h12.symm, h13.symm, h14.symm]
theorem setQ_b (h : ob < cs.length) : (setQ cs oa ob oc od q)[ob]? = some (wv q.b) := by
  simp [setQ, List.getElem?_set, h]
theorem setQ_c (h : oc < cs.length) (h23 : ob ≠ oc) : (setQ cs oa ob oc od q)[oc]? = some (wv q.c) := by
  simp [setQ, List.getElem?_set, h, h23]
theorem setQ_d (h : od < cs.length) (h24 : ob ≠ od) (h34 : oc ≠ od) : (setQ cs oa ob oc od q)[od]? = some (wv q.d) := by
  simp [setQ, List.getElem?_set, h, h24, h34]
theorem setQ_setQ {q' : Q4} (h12 : oa ≠ ob) (h13 : oa ≠ oc) (h14 : oa ≠ od) (h23 : ob ≠ oc) (h24 : ob ≠ od) (h34 : oc ≠ od) : setQ (setQ cs oa ob oc od q) oa ob oc od q' = setQ cs oa ob oc od q' := by
  apply List.ext_getElem?
  intro i
  simp only [setQ, List.getElem?_set, List.length_set]
  by_cases e1 : ob = i <;> by_cases e2 : oc = i <;> by_cases e3 : od = i <;> by_cases e4 : oa = i <;> simp_all
end
theorem HS.rd_other {w0 w : World} {M : List Nat} {As As1 As2 : List HA} {b b' i : Nat} {t t' : TypeId} {tot tot' : Nat} {cs cs' : List Value} {v : Value} (h : HS w0 M As w) (hp : Pick As (.blk b t tot cs) As1) (hp' : Pick As1 (.blk b' t' tot' cs') As2) (hv : cs[i]? = some v) : Rd w [b'] b i v :=
  h.rd_blk hp hv (by simpa using h.ne hp hp')
/-- A number as a word. -/
def wd (n : Int) : UInt16 := UInt16.ofNat n.toNat
def isWd (n : Int) : Prop := 0 ≤ n ∧ n ≤ 65535
instance (n : Int) : Decidable (isWd n) := by unfold isWd; infer_instance
theorem wd_toNat {n : Int} (h : isWd n) : ((wd n).toNat : Int) = n := by
  unfold wd
  rw [UInt16.toNat_ofNat', Nat.mod_eq_of_lt (by have := h.2; omega)]
  exact Int.toNat_of_nonneg h.1
theorem wv_wd {n : Int} (h : isWd n) : wv (wd n) = .int .u16 n := by rw [wv, wd_toNat h]
theorem u16wI {n : Int} (h : isWd n) : Value.int .u16 (IntKind.u16.wrap n) = .int .u16 n := by
  obtain ⟨m, rfl⟩ := Int.eq_ofNat_of_zero_le h.1
  rw [wrap_u16 m (by have := h.2; omega)]
theorem u16toI (x : UInt16) : Value.int .i64 (IntKind.i64.wrap (x.toNat : Int)) = .int .i64 (x.toNat : Int) := by
  have := x.toNat_lt
  exact i64w (by omega) (by omega)
/-- What the program's QuarterOf answers. -/
def qof (n0 n1 n2 n3 : Int) : Value :=
  if isWd n0 ∧ isWd n1 ∧ isWd n2 ∧ isWd n3 then
    let q := quarter4 ⟨wd n0, wd n1, wd n2, wd n3⟩
    .tuple #[.agg #[.int .i64 (q.a.toNat : Int), .int .i64 (q.b.toNat : Int), .int .i64 (q.c.toNat : Int), .int .i64 (q.d.toNat : Int)], .int .i64 0]
  else .tuple #[.agg #[.int .i64 0, .int .i64 0, .int .i64 0, .int .i64 0], .int .i64 2]
end Gx
