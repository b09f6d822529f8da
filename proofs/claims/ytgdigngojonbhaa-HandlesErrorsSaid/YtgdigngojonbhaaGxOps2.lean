/- The engine's rules for operations that look into memory, or change it. -/
import Derived.Test.YtgdigngojonbhaaGxOps
import Derived.Lib.Strings
import Derived.Laws.BytesArg
import Derived.Laws.IdiomStrings
namespace Gx
open Go Go.RowKit

/-! ## Facts on types, each a closed equation -/
/-- How many cells a type's value takes, and whether it is a struct or an array. -/
def tsz (P : Program) (t : TypeId) : Option (Nat × Bool) :=
  match P.info? t, P.underlying t with
  | some i, some d => some (i.size, match d with | .struct _ | .array _ _ => true | _ => false)
  | _, _ => none
/-- A struct's field: its offset and its type. -/
def tfd (P : Program) (t : TypeId) (f : Nat) : Option (Nat × TypeId) :=
  match P.underlying t with
  | some (.struct fs) => (fs[f]?).map fun x => (x.offset, x.type)
  | _ => none
/-- An integer type's kind. -/
def tki (P : Program) (t : TypeId) : Option IntKind :=
  match P.underlying t with
  | some (.int k) => some k
  | _ => none
/-- A slice type's element type, its size and its bytes. -/
def tsl (P : Program) (t : TypeId) : Option (TypeId × Nat × Nat) :=
  match P.underlying t with
  | some (.slice e) => (P.info? e).map fun i => (e, i.size, i.bytes)
  | _ => none
/-- An array type's length, element type, and that one's size. -/
def tar (P : Program) (t : TypeId) : Option (Nat × TypeId × Nat) :=
  match P.underlying t with
  | some (.array n e) => (P.info? e).map fun i => (n, e, i.size)
  | _ => none
def tzero (P : Program) (t : TypeId) : Option (List Value) := ((P.info? t).bind (·.zero)).map fun v => v.cells.toList

section
variable {P : Program} {t : TypeId} {w : World}
theorem tsz_agg {n : Nat} {b : Bool} (h : tsz P t = some (n, b)) : (isAgg t).run P w = .ok b w ∧ (Go.sizeOf t).run P w = .ok n w := by
  unfold tsz at h
  split at h
  · rename_i i d h1 h2
    simp only [Option.some.injEq, Prod.mk.injEq] at h
    obtain ⟨rfl, rfl⟩ := h
    refine ⟨?_, by simp [Go.sizeOf, typeInfo, h1]⟩
    simp only [isAgg, Sem.run_bind, run_underlying h2, Result.andThen_ok]
    cases d <;> rfl
  · cases h
theorem tfd_struct {f off : Nat} {ft : TypeId} (h : tfd P t f = some (off, ft)) : ∃ fs x, P.underlying t = some (.struct fs) ∧ fs[f]? = some x ∧ x.offset = off ∧ x.type = ft := by
  unfold tfd at h
  split at h
  · rename_i fs hu
    cases hf : fs[f]? with
    | none => rw [hf] at h; cases h
    | some x =>
      rw [hf] at h
      simp only [Option.map_some, Option.some.injEq, Prod.mk.injEq] at h
      exact ⟨fs, x, hu, hf, h.1, h.2⟩
  · cases h
theorem tsl_slice {e sz by' : Nat} (h : tsl P t = some (e, sz, by')) : P.underlying t = some (.slice e) ∧ ∃ i, P.info? e = some i ∧ i.size = sz ∧ i.bytes = by' := by
  unfold tsl at h
  split at h
  · rename_i e' hu
    cases hf : P.info? e' with
    | none => rw [hf] at h; cases h
    | some x =>
      rw [hf] at h
      simp only [Option.map_some, Option.some.injEq, Prod.mk.injEq] at h
      obtain ⟨rfl, h1, h2⟩ := h
      exact ⟨hu, x, hf, h1, h2⟩
  · cases h
theorem tar_array {n e sz : Nat} (h : tar P t = some (n, e, sz)) : P.underlying t = some (.array n e) ∧ ∃ i, P.info? e = some i ∧ i.size = sz := by
  unfold tar at h
  split at h
  · rename_i n' e' hu
    cases hf : P.info? e' with
    | none => rw [hf] at h; cases h
    | some x =>
      rw [hf] at h
      simp only [Option.map_some, Option.some.injEq, Prod.mk.injEq] at h
      obtain ⟨rfl, rfl, h2⟩ := h
      exact ⟨hu, x, hf, h2⟩
  · cases h
theorem tki_int {k : IntKind} (h : tki P t = some k) : P.underlying t = some (.int k) := by
  unfold tki at h
  split at h
  · rename_i k' hu; injection h with h; subst h; exact hu
  · cases h
theorem tzero_some {z : List Value} (h : tzero P t = some z) : ∃ i v, P.info? t = some i ∧ i.zero = some v ∧ v.cells.toList = z := by
  unfold tzero at h
  cases hi : P.info? t with
  | none => rw [hi] at h; cases h
  | some i =>
    rw [hi] at h
    cases hz : i.zero with
    | none => simp [hz] at h
    | some v => exact ⟨i, v, rfl, hz, by simpa [hz] using h⟩
end
/-- A value of these cells. -/
def vAgg (agg : Bool) (cs : List Value) : Value := match agg, cs with
  | false, [v] => v
  | _, cs => .agg cs.toArray

/-! ## Reckoning with types -/
section
variable {P : Program} {o : Oper} {L : Slots} {C : World → Prop}
theorem p_conv_int {src dst : TypeId} {x : Operand} {k0 k : IntKind} {n : Int} (ho : o.op = .convert src dst x) (hx : ev L x = some (.int k0 n)) (h0 : tki P src = some k0) (h1 : tki P dst = some k) : OpP P o L (.int k (k.wrap n)) := by
  intro ρ w hρ
  simp [execOp, ho, convert, run_underlying (tki_int h0), run_underlying (tki_int h1), hρ _ _ hx, Conv.intToInt]
theorem p_conv_str {src dst : TypeId} {x : Operand} {s : ByteArray} (ho : o.op = .convert src dst x) (hx : ev L x = some (.string s)) (h0 : P.underlying src = some .string) (h1 : P.underlying dst = some .string) : OpP P o L (.string s) := by
  intro ρ w hρ
  simp [execOp, ho, convert, run_underlying h0, run_underlying h1, hρ _ _ hx]
theorem p_quo {t t' : TypeId} {x y : Operand} {k : IntKind} {a b : Int} (ho : o.op = .binOp .quo t x y t') (hx : ev L x = some (.int k a)) (hy : ev L y = some (.int k b)) (hb : b ≠ 0) : OpP P o L (.int k (k.wrap (a.tdiv b))) := by
  intro ρ w hρ
  simp [execOp, ho, eqGuard, binOp, Op.intDiv, hρ _ _ hx, hρ _ _ hy, hb]
theorem p_rem {t t' : TypeId} {x y : Operand} {k : IntKind} {a b : Int} (ho : o.op = .binOp .rem t x y t') (hx : ev L x = some (.int k a)) (hy : ev L y = some (.int k b)) (hb : b ≠ 0) : OpP P o L (.int k (a.tmod b)) := by
  intro ρ w hρ
  simp [execOp, ho, eqGuard, binOp, Op.intDiv, hρ _ _ hx, hρ _ _ hy, hb]
/-- Of numbers that are not negative. -/
theorem p_quo_nn {t t' : TypeId} {x y : Operand} {a b : Int} (ho : o.op = .binOp .quo t x y t') (hx : ev L x = some (.int .i64 a)) (hy : ev L y = some (.int .i64 b)) (hb : 0 < b) (ha : 0 ≤ a) (ha' : a ≤ 9223372036854775807) : OpP P o L (.int .i64 (a / b)) := by
  have h := p_quo (P := P) ho hx hy (by omega)
  rw [Int.tdiv_eq_ediv_of_nonneg ha, show IntKind.i64.wrap (a / b) = a / b from IntWalk.i64_in _ ⟨?_, ?_⟩] at h
  · exact h
  · have := Int.ediv_nonneg ha (by omega : 0 ≤ b); omega
  · have := Int.ediv_le_self b ha; omega
theorem p_rem_nn {t t' : TypeId} {x y : Operand} {k : IntKind} {a b : Int} (ho : o.op = .binOp .rem t x y t') (hx : ev L x = some (.int k a)) (hy : ev L y = some (.int k b)) (hb : 0 < b) (ha : 0 ≤ a) : OpP P o L (.int k (a % b)) := by
  have h := p_rem (P := P) ho hx hy (by omega)
  rwa [Int.tmod_eq_emod_of_nonneg ha] at h
theorem p_shl {t t' : TypeId} {x y : Operand} {k k' : IntKind} {a b : Int} (ho : o.op = .binOp .shl t x y t') (hx : ev L x = some (.int k a)) (hy : ev L y = some (.int k' b)) (hb : 0 ≤ b) (m : Nat) (hm : min b.toNat k.bits = m) : OpP P o L (.int k (k.wrap (a * 2 ^ m))) := by
  intro ρ w hρ
  simp [execOp, ho, eqGuard, binOp, Op.shift, hρ _ _ hx, hρ _ _ hy, show ¬ b < 0 by omega, hm]
theorem p_shr {t t' : TypeId} {x y : Operand} {k k' : IntKind} {a b : Int} (ho : o.op = .binOp .shr t x y t') (hx : ev L x = some (.int k a)) (hy : ev L y = some (.int k' b)) (hb : 0 ≤ b) (m : Nat) (hm : min b.toNat k.bits = m) : OpP P o L (.int k (a / 2 ^ m)) := by
  intro ρ w hρ
  simp [execOp, ho, eqGuard, binOp, Op.shift, hρ _ _ hx, hρ _ _ hy, show ¬ b < 0 by omega, hm]
  rw [Int.fdiv_eq_ediv_of_nonneg _ (Int.le_of_lt (Int.pow_pos (by omega)))]
theorem p_len_str {t : TypeId} {x : Operand} {l : List UInt8} (ho : o.op = .call { callee := .builtin .len, args := #[x], argTypes := #[t] }) (hx : ev L x = some (.string (bs l))) (h : P.underlying t = some .string) : OpP P o L (.int .i64 l.length) := by
  intro ρ w hρ
  simp [execOp, ho, resolve, invoke, builtin, Builtin.len_, run_underlying h, hρ _ _ hx, goInt]
theorem p_len_slice {t e : TypeId} {x : Operand} {a : Option Addr} {n cap : Nat} (ho : o.op = .call { callee := .builtin .len, args := #[x], argTypes := #[t] }) (hx : ev L x = some (.slice a n cap)) (h : P.underlying t = some (.slice e)) : OpP P o L (.int .i64 n) := by
  intro ρ w hρ
  simp [execOp, ho, resolve, invoke, builtin, Builtin.len_, run_underlying h, hρ _ _ hx, goInt]
/-- .. of a slice value of the call's own. -/
theorem q_len_own {t e : TypeId} {x : Operand} {w0 : World} {M : List Nat} {As As' : List HA} {v : Value} {t' sz n : Nat} {xs : List Value} (ho : o.op = .call { callee := .builtin .len, args := #[x], argTypes := #[t] }) (hx : ev L x = some v) (h : P.underlying t = some (.slice e)) (hp : Pick As (.own v t' sz n xs) As') : OpQ P o L (HS w0 M As) (.int .i64 n) := by
  intro ρ w hρ hw
  obtain ⟨a, cap, rfl, _⟩ := (OwnOk.form (hw.pick hp).head)
  exact p_len_slice ho hx h |>.q (HS w0 M As) ρ w hρ hw
theorem p_index_str {t : TypeId} {x y : Operand} {l : List UInt8} {k : IntKind} {i : Int} (ho : o.op = .index t x y) (hx : ev L x = some (.string (bs l))) (hy : ev L y = some (.int k i)) (h : P.underlying t = some .string) (j : Nat) (hj : i = (j : Int)) (hlt : j < l.length) :
    OpP P o L (.int .u8 ((l.getD j 0).toNat : Int)) := by
  intro ρ w hρ
  have hb : (bs l)[j]? = some (l.getD j 0) := by
    rw [show (bs l)[j]? = l[j]? from by simp [getElem?_def, bs]; rfl]
    rw [List.getElem?_eq_getElem hlt, List.getD_eq_getElem?_getD, List.getElem?_eq_getElem hlt]; rfl
  subst hj
  simp [execOp, ho, Instr.index, hρ _ _ hx, hρ _ _ hy, asIntOf, run_underlying h, hb]
/-- A slice's bounds: left out, or a number. -/
def IsLo (L : Slots) (lo : Option Operand) (a : Nat) : Prop := match lo with | none => a = 0 | some y => ∃ k i, ev L y = some (.int k i) ∧ i = (a : Int)
def IsHi (L : Slots) (hi : Option Operand) (n b : Nat) : Prop := match hi with | none => b = n | some y => ∃ k i, ev L y = some (.int k i) ∧ i = (b : Int)
theorem run_bounds {P : Program} {L : Slots} {ρ : Operand → Value} {w : World} {lo hi : Option Operand} {n cap a b : Nat} (isSlice : Bool) (hρ : Agr L ρ) (hlo : IsLo L lo a) (hhi : IsHi L hi n b) (hab : a ≤ b) (hb : b ≤ cap) :
    (Instr.sliceBounds isSlice n cap (lo.map ρ) (hi.map ρ) none).run P w = .ok (a, b, cap) w := by
  cases lo with
  | none =>
    cases hi with
    | none => cases hlo; cases hhi; simp [Instr.sliceBounds]
    | some y =>
      obtain ⟨k, i, h1, rfl⟩ := hhi
      cases hlo
      simp [Instr.sliceBounds, Instr.sliceBound, hρ _ _ h1, asIntOf, hb]
  | some z =>
    obtain ⟨k2, i2, h2, rfl⟩ := hlo
    cases hi with
    | none => cases hhi; simp [Instr.sliceBounds, Instr.sliceBound, hρ _ _ h2, asIntOf, hab]
    | some y =>
      obtain ⟨k, i, h1, rfl⟩ := hhi
      simp [Instr.sliceBounds, Instr.sliceBound, hρ _ _ h1, hρ _ _ h2, asIntOf, hb, hab]
theorem p_slice_str {t : TypeId} {x : Operand} {l : List UInt8} (lo hi : Option Operand) (a b : Nat) (ho : o.op = .slice t x lo hi none) (hx : ev L x = some (.string (bs l))) (h : P.underlying t = some .string)
    (hlo : IsLo L lo a) (hhi : IsHi L hi l.length b) (hab : a ≤ b) (hbl : b ≤ l.length) :
    OpP P o L (.string (bs ((l.take b).drop a))) := by
  intro ρ w hρ
  have he : (bs l).extract a b = bs ((l.take b).drop a) := (bs_of _).trans (congrArg bs (by rw [Lib.extract_data, bs_data, List.drop_take]))
  have hb := run_bounds (P := P) (w := w) false hρ hlo hhi hab (show b ≤ l.length from hbl)
  simp only [execOp, ho, Instr.sliceAt, Sem.run_bind, run_underlying h, Result.andThen_ok, Instr.slice, hρ _ _ hx, bs_size, Option.map_none, Option.isSome_none, Bool.false_eq_true, if_false, hb, he, Sem.run_pure]
theorem p_slice_str_from {t : TypeId} {x y : Operand} {l : List UInt8} (a : Nat) {k : IntKind} {i : Int} (ho : o.op = .slice t x (some y) none none) (hx : ev L x = some (.string (bs l))) (hy : ev L y = some (.int k i)) (h : P.underlying t = some .string)
    (hi : i = (a : Int)) (ha : a ≤ l.length) : OpP P o L (.string (bs (l.drop a))) := by
  have := p_slice_str (P := P) (some y) none a l.length ho hx h ⟨k, i, hy, hi⟩ rfl ha (Nat.le_refl _)
  rwa [List.take_length] at this
theorem p_slice_str_to {t : TypeId} {x y : Operand} {l : List UInt8} (b : Nat) {k : IntKind} {i : Int} (ho : o.op = .slice t x none (some y) none) (hx : ev L x = some (.string (bs l))) (hy : ev L y = some (.int k i)) (h : P.underlying t = some .string)
    (hi : i = (b : Int)) (hb : b ≤ l.length) : OpP P o L (.string (bs (l.take b))) := by
  have := p_slice_str (P := P) none (some y) 0 b ho hx h rfl ⟨k, i, hy, hi⟩ (Nat.zero_le _) hb
  rwa [List.drop_zero] at this
theorem p_str_add {t t' : TypeId} {x y : Operand} {l m : List UInt8} (ho : o.op = .binOp .add t x y t') (hx : ev L x = some (.string (bs l))) (hy : ev L y = some (.string (bs m))) (hlen : l.length + m.length ≤ 9223372036854775807) : OpP P o L (.string (bs (l ++ m))) := by
  intro ρ w hρ
  have hlen' : (l.length : Int) + (m.length : Int) ≤ IntKind.i64.max := by
    have : IntKind.i64.max = 9223372036854775807 := by decide
    omega
  have e : bs l ++ bs m = bs (l ++ m) := (bs_of _).trans (congrArg bs (by simp [ByteArray.data_append]))
  simp [execOp, ho, eqGuard, binOp, Op.stringOp, hρ _ _ hx, hρ _ _ hy, e]
  exact hlen'

/-! ## Addresses -/
theorem p_fieldAddr {st f : TypeId} {x : Operand} {b i off ft sz : Nat} {ag : Bool} (ho : o.op = .fieldAddr st x f) (hx : ev L x = some (.pointer (some ⟨b, i, none⟩))) (hf : tfd P st f = some (off, ft)) (hs : tsz P ft = some (sz, ag)) (hsz : Nat.blt 0 sz = true) :
    OpP P o L (.pointer (some ⟨b, i + off, none⟩)) := by
  intro ρ w hρ
  obtain ⟨fs, y, h1, h2, h3, h4⟩ := tfd_struct hf
  have h5 := (tsz_agg (w := w) hs).2
  have hne : ¬ sz = 0 := by have : 0 < sz := by simpa [Nat.blt_eq] using hsz
                            omega
  subst h4
  simp [execOp, ho, Instr.fieldAt, run_underlying h1, h2, Instr.sureAddr, hρ _ _ hx, fieldPlace, h5, hne]
  unfold Addr.add
  split
  · rename_i h0; rw [← h3, h0]; rfl
  · rw [h3]
theorem addr_add (b i n : Nat) : (⟨b, i, none⟩ : Addr).add n = ⟨b, i + n, none⟩ := by
  unfold Addr.add; split
  · rename_i h; subst h; rfl
  · rfl
theorem p_indexAddr {t e sz by' : Nat} {x y : Operand} {a : Option Addr} {b i n cap : Nat} {k : IntKind} {ix : Int} (ho : o.op = .indexAddr t x y) (hx : ev L x = some (.slice a n cap)) (hy : ev L y = some (.int k ix)) (ht : tsl P t = some (e, sz, by')) (j : Nat) (hj : ix = (j : Int)) (hlt : j < n) (ha : a = some ⟨b, i, none⟩) :
    OpP P o L (.pointer (some ⟨b, i + j * sz, none⟩)) := by
  intro ρ w hρ
  obtain ⟨h1, inf, h2, h3, _⟩ := tsl_slice ht
  subst ha
  subst hj
  simp [execOp, ho, Instr.indexAt, hρ _ _ hx, hρ _ _ hy, asIntOf, run_underlying h1, hlt, Go.sizeOf, typeInfo, h2, h3, addr_add]
theorem p_indexAddr_arr {t e sz len : Nat} {x y : Operand} {b i : Nat} {k : IntKind} {ix : Int} (ho : o.op = .indexAddr t x y) (hx : ev L x = some (.pointer (some ⟨b, i, none⟩))) (hy : ev L y = some (.int k ix)) (ht : tar P t = some (len, e, sz)) (j : Nat) (hj : ix = (j : Int)) (hlt : j < len) :
    OpP P o L (.pointer (some ⟨b, i + j * sz, none⟩)) := by
  intro ρ w hρ
  obtain ⟨h1, inf, h2, h3⟩ := tar_array ht
  subst hj
  simp [execOp, ho, Instr.indexAt, hρ _ _ hx, hρ _ _ hy, asIntOf, run_underlying h1, hlt, Go.sizeOf, typeInfo, h2, h3, addr_add, Instr.sureAddr]
/-! ## Structs and arrays as values -/
def cut (cs : List Value) (off n : Nat) : List Value := (cs.drop off).take n
theorem part_run1 {P : Program} {t n off : Nat} {cs : List Value} {w : World} {v : Value} (h : tsz P t = some (n, false)) (hv : cs[off]? = some v) : (part t cs.toArray off).run P w = .ok v w := by
  have h1 := tsz_agg (w := w) h
  unfold part
  simp [h1.1, hv]
theorem part_runn {P : Program} {t n off : Nat} {cs : List Value} {w : World} (h : tsz P t = some (n, true)) : (part t cs.toArray off).run P w = .ok (.agg (cut cs off n).toArray) w := by
  have h1 := tsz_agg (w := w) h
  unfold part
  simp only [Sem.run_bind, h1.1, Result.andThen_ok, if_true, h1.2, Sem.run_pure]
  congr 2
  apply Array.ext'
  simp [cut, List.extract_eq_take_drop]
theorem p_field1 {st f off ft n : Nat} {x : Operand} {cs : List Value} {v : Value} (ho : o.op = .field st x f) (hx : ev L x = some (.agg cs.toArray)) (hf : tfd P st f = some (off, ft)) (hs : tsz P ft = some (n, false)) (hv : cs[off]? = some v) : OpP P o L v := by
  intro ρ w hρ
  obtain ⟨fs, y, h1, h2, h3, h4⟩ := tfd_struct hf
  simp [execOp, ho, Instr.field, run_underlying h1, h2, hρ _ _ hx, asAgg, h3, h4, part_run1 (w := w) hs hv]
theorem p_fieldn {st f off ft n : Nat} {x : Operand} {cs : List Value} (ho : o.op = .field st x f) (hx : ev L x = some (.agg cs.toArray)) (hf : tfd P st f = some (off, ft)) (hs : tsz P ft = some (n, true)) : OpP P o L (.agg (cut cs off n).toArray) := by
  intro ρ w hρ
  obtain ⟨fs, y, h1, h2, h3, h4⟩ := tfd_struct hf
  simp [execOp, ho, Instr.field, run_underlying h1, h2, hρ _ _ hx, asAgg, h3, h4, part_runn (w := w) hs]
theorem p_index1 {t e sz len n : Nat} {x y : Operand} {cs : List Value} {k : IntKind} {ix : Int} {v : Value} (ho : o.op = .index t x y) (hx : ev L x = some (.agg cs.toArray)) (hy : ev L y = some (.int k ix)) (ht : tar P t = some (len, e, sz)) (hs : tsz P e = some (n, false)) (j : Nat) (hj : ix = (j : Int)) (hlt : j < len) (hv : cs[j * sz]? = some v) : OpP P o L v := by
  intro ρ w hρ
  obtain ⟨h1, inf, h2, h3⟩ := tar_array ht
  subst hj
  simp [execOp, ho, Instr.index, hρ _ _ hx, hρ _ _ hy, asIntOf, run_underlying h1, hlt, Go.sizeOf, typeInfo, h2, h3, part_run1 (w := w) hs hv]
theorem p_indexn {t e sz len n : Nat} {x y : Operand} {cs : List Value} {k : IntKind} {ix : Int} (ho : o.op = .index t x y) (hx : ev L x = some (.agg cs.toArray)) (hy : ev L y = some (.int k ix)) (ht : tar P t = some (len, e, sz)) (hs : tsz P e = some (n, true)) (j : Nat) (hj : ix = (j : Int)) (hlt : j < len) : OpP P o L (.agg (cut cs (j * sz) n).toArray) := by
  intro ρ w hρ
  obtain ⟨h1, inf, h2, h3⟩ := tar_array ht
  subst hj
  simp [execOp, ho, Instr.index, hρ _ _ hx, hρ _ _ hy, asIntOf, run_underlying h1, hlt, Go.sizeOf, typeInfo, h2, h3, part_runn (w := w) hs]
/-- Where the fields of a struct lie, and how many cells they take. -/
def tplaces (P : Program) (t : TypeId) : Option (List (Nat × Nat)) :=
  match P.underlying t with
  | some (.struct fs) => fs.toList.mapM fun f => (P.info? f.type).map fun i => (f.offset, i.size)
  | _ => none
/-- Cells written one behind the other. -/
def setMany : List Value → Nat → List Value → List Value
  | cs, _, [] => cs
  | cs, i, v :: vs => setMany (cs.set i v) (i + 1) vs
theorem setMany_length : ∀ (vs : List Value) (cs : List Value) (i : Nat), (setMany cs i vs).length = cs.length
  | [], _, _ => rfl
  | v :: vs, cs, i => by rw [setMany, setMany_length vs]; simp
/-- A struct or an array put together, in lists. -/
def fillL (place : Nat → Option (Nat × Nat)) : List Value → List (Nat × Value) → Option (List Value)
  | cells, [] => some cells
  | cells, (i, v) :: rest => match place i with
    | none => none
    | some (off, size) => bif Nat.beq v.cells.toList.length size && Nat.ble (off + v.cells.toList.length) cells.length then fillL place (setMany cells off v.cells.toList) rest else none
theorem foldl_setMany (off : Nat) : ∀ (vs : List Value) (k : Nat) (cs : Array Value), ((vs.zipIdx k).foldl (fun (cs : Array Value) (p : Value × Nat) => cs.setIfInBounds (off + p.2) p.1) cs).toList = setMany cs.toList (off + k) vs
  | [], _, _ => rfl
  | v :: vs, k, cs => by
    rw [List.zipIdx_cons, List.foldl_cons, foldl_setMany off vs (k + 1), setMany, Array.toList_setIfInBounds]
    rfl
theorem fill_eq {place : Nat → Option (Nat × Nat)} : ∀ {ps : List (Nat × Value)} {cells : List Value} {cs : List Value}, fillL place cells ps = some cs → Instr.fill place cells.toArray ps = some cs.toArray
  | [], cells, cs, h => by
    simp only [fillL, Option.some.injEq] at h
    subst h
    rfl
  | (i, v) :: rest, cells, cs, h => by
    simp only [fillL] at h
    unfold Instr.fill
    cases hp : place i with
    | none => rw [hp] at h; cases h
    | some os =>
      obtain ⟨off, size⟩ := os
      rw [hp] at h
      simp only at h ⊢
      cases hc : (Nat.beq v.cells.toList.length size && Nat.ble (off + v.cells.toList.length) cells.length) with
      | false => rw [hc] at h; cases h
      | true =>
        rw [hc] at h
        simp only [cond_true] at h
        simp only [Bool.and_eq_true] at hc
        have h1 : v.cells.toList.length = size := Nat.eq_of_beq_eq_true hc.1
        have h2 : off + v.cells.toList.length ≤ cells.length := Nat.le_of_ble_eq_true hc.2
        have e1 : (decide (v.cells.size ≠ size) || decide (off + v.cells.size > cells.toArray.size)) = false := by
          simp only [Array.length_toList] at h1 h2
          simp [h1]
          omega
        rw [e1]
        simp only [Bool.false_eq_true, if_false]
        have e2 : (v.cells.zipIdx.foldl (fun cs (x : Value × Nat) => match x with | (c, j) => cs.setIfInBounds (off + j) c) cells.toArray) = (setMany cells off v.cells.toList).toArray := by
          apply Array.ext'
          rw [← Array.foldl_toList, Array.toList_zipIdx]
          have := foldl_setMany off v.cells.toList 0 cells.toArray
          simpa using this
        rw [e2]
        exact fill_eq h
def evParts (L : Slots) : List (Nat × Operand) → Option (List (Nat × Value))
  | [] => some []
  | (i, x) :: r => match ev L x, evParts L r with
    | some v, some vs => some ((i, v) :: vs)
    | _, _ => none
theorem evParts_map {ρ : Operand → Value} (hρ : Agr L ρ) : ∀ {ps : List (Nat × Operand)} {vs : List (Nat × Value)}, evParts L ps = some vs → ps.map (fun p => (p.1, ρ p.2)) = vs
  | [], vs, h => by cases h; rfl
  | (i, x) :: r, vs, h => by
    simp only [evParts] at h
    split at h
    · rename_i v vs' h1 h2
      injection h with h
      subst h
      simp [hρ x v h1, evParts_map hρ h2]
    · cases h
theorem places_run {P : Program} {w : World} : ∀ {fs : List Field} {pl : List (Nat × Nat)}, (fs.mapM fun f => (P.info? f.type).map fun i => (f.offset, i.size)) = some pl →
    (fs.mapM fun f => (do pure (f.offset, ← Go.sizeOf f.type) : Sem (Nat × Nat))).run P w = .ok pl w
  | [], pl, h => by
    simp only [List.mapM_nil, Option.pure_def, Option.some.injEq] at h
    subst h
    simp [List.mapM_nil]
  | f :: fs, pl, h => by
    rw [List.mapM_cons] at h
    cases hi : P.info? f.type with
    | none => rw [hi] at h; simp at h
    | some i =>
      rw [hi] at h
      simp only [Option.map_some, Option.bind_eq_bind, Option.bind_some] at h
      cases hr : (fs.mapM fun f => (P.info? f.type).map fun i => (f.offset, i.size)) with
      | none => rw [hr] at h; simp at h
      | some pl' =>
        rw [hr] at h
        simp only [Option.bind_some, Option.pure_def, Option.some.injEq] at h
        subst h
        have h1 : (Go.sizeOf f.type).run P w = .ok i.size w := by simp [Go.sizeOf, typeInfo, hi]
        rw [List.mapM_cons]
        simp only [Sem.run_bind, h1, Result.andThen_ok, Sem.run_pure, places_run hr]
theorem p_build {t : TypeId} {parts : Array (Nat × Operand)} {vs : List (Nat × Value)} {pl : List (Nat × Nat)} {z cs : List Value} (ho : o.op = .build t parts) (hp : evParts L parts.toList = some vs) (hpl : tplaces P t = some pl) (hz : tzero P t = some z)
    (hcs' : fillL (fun i => pl[i]?) z vs = some cs) : OpP P o L (.agg cs.toArray) := by
  intro ρ w hρ
  obtain ⟨inf, zv, h1, h2, h3⟩ := tzero_some hz
  have hcs := fill_eq hcs'
  have hpe : (fun i : Nat => pl[i]?) = (pl.toArray[·]?) := by funext i; simp
  rw [hpe] at hcs
  unfold tplaces at hpl
  split at hpl
  · rename_i fs hu
    have hm := places_run (w := w) hpl
    have hz' : zv.cells = z.toArray := by rw [← h3]
    have hpm : (parts.map fun p => (p.1, ρ p.2)).toList = vs := by rw [Array.toList_map]; exact evParts_map hρ hp
    have hzr : (zeroValue t).run P w = .ok zv w := by simp [zeroValue, typeInfo, h1, h2]
    have hmr : (fs.mapM fun f => (do pure (f.offset, ← Go.sizeOf f.type) : Sem (Nat × Nat))).run P w = .ok pl.toArray w := by
      rw [Array.mapM_eq_mapM_toList]
      simp only [Sem.run_map, hm, Result.andThen_ok]
    have hb : (Instr.build t (parts.map fun p => (p.1, ρ p.2))).run P w = .ok (.agg cs.toArray) w := by
      unfold Instr.build
      simp only [Sem.run_bind, hzr, Result.andThen_ok, run_underlying hu, hmr, hz', hpm, hcs, Sem.run_pure]
    simp only [execOp, ho, Sem.run_bind]
    rw [show (parts.map fun x => match x with | (i, x) => (i, ρ x)) = parts.map fun p => (p.1, ρ p.2) from rfl, hb]
    rfl
  · cases hpl
theorem p_build_arr {t e sz len : Nat} {parts : Array (Nat × Operand)} {vs : List (Nat × Value)} {z cs : List Value} (ho : o.op = .build t parts) (hp : evParts L parts.toList = some vs) (ht : tar P t = some (len, e, sz)) (hz : tzero P t = some z)
    (hcs' : fillL (fun i => some (i * sz, sz)) z vs = some cs) : OpP P o L (.agg cs.toArray) := by
  intro ρ w hρ
  obtain ⟨inf, zv, h1, h2, h3⟩ := tzero_some hz
  obtain ⟨hu, inf', h4, h5⟩ := tar_array ht
  have hcs := fill_eq hcs'
  have hz' : zv.cells = z.toArray := by rw [← h3]
  have hpm : (parts.map fun p => (p.1, ρ p.2)).toList = vs := by rw [Array.toList_map]; exact evParts_map hρ hp
  have hzr : (zeroValue t).run P w = .ok zv w := by simp [zeroValue, typeInfo, h1, h2]
  have hsz : (Go.sizeOf e).run P w = .ok sz w := by simp [Go.sizeOf, typeInfo, h4, h5]
  have hb : (Instr.build t (parts.map fun p => (p.1, ρ p.2))).run P w = .ok (.agg cs.toArray) w := by
    unfold Instr.build
    simp only [Sem.run_bind, hzr, Result.andThen_ok, run_underlying hu, hsz, hz', hpm, hcs, Sem.run_pure]
  simp only [execOp, ho, Sem.run_bind]
  rw [show (parts.map fun x => match x with | (i, x) => (i, ρ x)) = parts.map fun p => (p.1, ρ p.2) from rfl, hb]
  rfl
end

/-! ## Loads and stores -/
section
variable {P : Program} {o : Oper} {L : Slots} {w0 : World} {M : List Nat} {As As' : List HA}
theorem loadAt_run1 {t b i : Nat} {v : Value} {w : World} (hs : tsz P t = some (1, false)) (hc : w.cell? ⟨b, i, none⟩ = some v) : (Instr.loadAt t (.pointer (some ⟨b, i, none⟩))).run P w = .ok v w := by
  simp [Instr.loadAt, Instr.sureAddr, loadVar, (tsz_agg (w := w) hs).1, hc]
theorem loadAt_runn {t b i n : Nat} {vs : List Value} {w : World} (hs : tsz P t = some (n, true)) (hl : vs.length = n) (hc : ∀ j v, vs[j]? = some v → w.cell? ⟨b, i + j, none⟩ = some v) : (Instr.loadAt t (.pointer (some ⟨b, i, none⟩))).run P w = .ok (.agg vs.toArray) w := by
  have h := tsz_agg (w := w) hs
  have hr := run_loadCells_list (P := P) (w := w) ⟨b, i, none⟩ vs (fun j v hv => by rw [addr_add]; exact hc j v hv)
  rw [hl] at hr
  simp [Instr.loadAt, Instr.sureAddr, loadVar, h.1, h.2, hr]
/-- A cell of a block that is known. -/
theorem q_load {t x b tot i : Nat} {bt : TypeId} {cs : List Value} {v : Value} (ho : o.op = .load t (.tmp x)) (hx : Slots.get L x = some (.pointer (some ⟨b, i, none⟩))) (hs : tsz P t = some (1, false)) (hp : Pick As (.blk b bt tot cs) As') (hv : cs[i]? = some v) : OpQ P o L (HS w0 M As) v := by
  intro ρ w hρ hw
  simp only [execOp, ho, Sem.run_bind, hρ (.tmp x) _ hx, loadAt_run1 hs ((hw.blk_get hp).cell hv), Result.andThen_ok, Sem.run_pure]
  exact ⟨rfl, Below.refl _ _⟩
theorem q_loadn {t x b tot i n : Nat} {bt : TypeId} {cs : List Value} (ho : o.op = .load t (.tmp x)) (hx : Slots.get L x = some (.pointer (some ⟨b, i, none⟩))) (hs : tsz P t = some (n, true)) (hp : Pick As (.blk b bt tot cs) As') (hl : Nat.ble (i + n) cs.length = true) : OpQ P o L (HS w0 M As) (.agg (cut cs i n).toArray) := by
  intro ρ w hρ hw
  have hl' : i + n ≤ cs.length := Nat.le_of_ble_eq_true hl
  have hr := loadAt_runn (b := b) (i := i) (w := w) (vs := cut cs i n) hs (by simp [cut]; omega) (fun j v hv => (hw.blk_get hp).cell (by
    unfold cut at hv
    rw [List.getElem?_take] at hv
    split at hv
    · simpa using hv
    · cases hv))
  simp only [execOp, ho, Sem.run_bind, hρ (.tmp x) _ hx, hr, Result.andThen_ok, Sem.run_pure]
  exact ⟨rfl, Below.refl _ _⟩
/-- A cell that was there before. -/
theorem q_load_old {t x b i : Nat} {v : Value} (ho : o.op = .load t (.tmp x)) (hx : Slots.get L x = some (.pointer (some ⟨b, i, none⟩))) (hs : tsz P t = some (1, false)) (hr : Rd w0 M b i v) : OpQ P o L (HS w0 M As) v := by
  intro ρ w hρ hw
  simp only [execOp, ho, Sem.run_bind, hρ (.tmp x) _ hx, loadAt_run1 hs (hw.rd hr), Result.andThen_ok, Sem.run_pure]
  exact ⟨rfl, Below.refl _ _⟩
theorem q_load_oldn {t x b i n : Nat} (vs : List Value) (ho : o.op = .load t (.tmp x)) (hx : Slots.get L x = some (.pointer (some ⟨b, i, none⟩))) (hs : tsz P t = some (n, true)) (hl : vs.length = n) (hr : ∀ j v, vs[j]? = some v → Rd w0 M b (i + j) v) : OpQ P o L (HS w0 M As) (.agg vs.toArray) := by
  intro ρ w hρ hw
  simp only [execOp, ho, Sem.run_bind, hρ (.tmp x) _ hx, loadAt_runn hs hl (fun j v hv => hw.rd (hr j v hv)), Result.andThen_ok, Sem.run_pure]
  exact ⟨rfl, Below.refl _ _⟩
theorem newVar_run (t : TypeId) (v : Value) (w : World) : (newVar t v).run P w = .ok ⟨w.heap.size, 0, none⟩ (w.alloc (.cells v.cells t)) := by
  simp [newVar, newRow]
/-- A new variable, of zeros. -/
theorem h_alloc {t : TypeId} {z : List Value} (ho : o.op = .alloc t) (hz : tzero P t = some z) : OpH P o L (HS w0 M As) (fun b => .pointer (some ⟨b, 0, none⟩)) (fun _ => True) (fun b => HS w0 M (.blk b t z.length z :: As)) := by
  intro ρ w hρ hw
  obtain ⟨inf, zv, h1, h2, h3⟩ := tzero_some hz
  have hzr : (zeroValue t).run P w = .ok zv w := by simp [zeroValue, typeInfo, h1, h2]
  simp only [execOp, ho, Instr.alloc, Sem.run_bind, hzr, Result.andThen_ok, newVar_run, Sem.run_pure]
  refine ⟨w.heap.size, rfl, trivial, ?_⟩
  have := hw.blk_new t zv.cells
  rw [h3] at this
  have hl : zv.cells.size = z.length := by rw [← h3]; simp
  rwa [hl] at this
/-- A new variable, of a value. -/
theorem h_box {t : TypeId} {x : Operand} {v : Value} (ho : o.op = .box t x) (hx : ev L x = some v) : OpH P o L (HS w0 M As) (fun b => .pointer (some ⟨b, 0, none⟩)) (fun _ => True) (fun b => HS w0 M (.blk b t v.cells.toList.length v.cells.toList :: As)) := by
  intro ρ w hρ hw
  simp only [execOp, ho, Instr.box, Sem.run_bind, hρ _ _ hx, Result.andThen_ok, newVar_run, Sem.run_pure]
  exact ⟨w.heap.size, rfl, trivial, by simpa using hw.blk_new t v.cells⟩
theorem storeCells_run {b i : Nat} {t : TypeId} {tot : Nat} : ∀ (vs : List Value) (j : Nat) (cs : List Value) (w : World), BlkOk b t tot cs w → i + j + vs.length ≤ cs.length → (∀ v ∈ vs, v.oneCell' = true) →
    ∃ w', (storeCells ⟨b, i, none⟩ vs j).run P w = .ok () w' ∧ BlkOk b t tot (setMany cs (i + j) vs) w' ∧ w'.os = w.os ∧ w'.tape = w.tape ∧ w'.output = w.output ∧ w'.heap.size = w.heap.size ∧ ∀ k, k ≠ b → w'.heap[k]? = w.heap[k]?
  | [], j, cs, w, h, _, _ => ⟨w, rfl, h, rfl, rfl, rfl, rfl, fun _ _ => rfl⟩
  | v :: vs, j, cs, w, h, hl, h1 => by
    simp only [List.length_cons] at hl
    have htot : cs.length ≤ tot := by obtain ⟨cur, fr, _, _, h3, _⟩ := h; exact h3
    obtain ⟨u, hu⟩ := h.cellsome (i := i + j) (by omega)
    have hf := h.frozen (i := i + j) (by omega)
    have hst : (store ((⟨b, i, none⟩ : Addr).add j) v).run P w = .ok () (w.setCell ⟨b, i + j, none⟩ v) := by
      rw [addr_add, run_store P w _ v _ (h1 v (List.mem_cons_self ..)), hu]
      simp [hf]
    obtain ⟨w', hr, hb, r1, r2, r3, r4, r5⟩ := storeCells_run (i := i) vs (j + 1) (cs.set (i + j) v) _ (h.set (i := i + j) (by omega) v) (by simp; omega) (fun v hv => h1 v (List.mem_cons_of_mem _ hv))
    refine ⟨w', ?_, by rw [setMany]; exact hb, by rw [r1]; rfl, by rw [r2]; rfl, by rw [r3]; rfl, by rw [r4]; simp, fun k hk => (r5 k hk).trans (heap_setCell_ne w b (i + j) v k hk)⟩
    rw [storeCells]
    simp only [Sem.run_bind, hst, Result.andThen_ok, hr]
theorem h_store {t x b tot i n : Nat} {y : Operand} {bt : TypeId} {ag : Bool} {cs : List Value} {v : Value} (ho : o.op = .store t (.tmp x) y) (hx : Slots.get L x = some (.pointer (some ⟨b, i, none⟩))) (hy : ev L y = some v) (hs : tsz P t = some (n, ag)) (hn : v.cells.toList.length = n)
    (hp : Put As (.blk b bt tot cs) (.blk b bt tot (setMany cs i v.cells.toList)) As') (hl : i + n ≤ cs.length) (h1 : v.cells.toList.all (·.oneCell') = true) :
    OpH P o L (HS w0 M As) (fun _ : Unit => undef) (fun _ => True) (fun _ => HS w0 M As') := by
  intro ρ w hρ hw
  obtain ⟨Rs, hpk, hperm⟩ := hp.ex
  have hw1 := hw.pick hpk
  obtain ⟨w', hr, hb, r1, r2, r3, r4, r5⟩ := storeCells_run (P := P) (i := i) v.cells.toList 0 cs w hw1.head (by omega) (fun u hu => List.all_eq_true.1 h1 u hu)
  have hsz := (tsz_agg (w := w) hs).2
  have hne : ¬ (v.cells.size ≠ n) := by simpa using hn
  simp only [execOp, ho, Instr.storeAt, Instr.sureAddr, storeVar, Sem.run_bind, hρ (.tmp x) _ hx, hρ _ _ hy, Sem.run_pure, Result.andThen_ok, hsz, hne, if_false, hr]
  exact ⟨(), rfl, trivial, (HS.swap hw1 (B := .blk b bt tot (setMany cs i v.cells.toList)) (fun _ h => h) r1 r2 r3 r4 (fun k hk => r5 k (by simpa [HA.fp_blk] using hk)) hb).perm hperm⟩

/-! ## Calls -/
/-- Function f has a body. -/
def isFn (P : Program) (f : FuncId) : Bool := match P.funcs[f]? with
  | some fn => !(fn.name == "runtime.NumGoroutine") && !fn.body.isNone
  | none => false
theorem callFunc_run {f : FuncId} {args : Array Value} {w : World} (h : isFn P f = true) : (callFunc f args).run P w = .ok (.enter f args) w := by
  unfold isFn at h
  split at h
  · rename_i fn hf
    simp only [Bool.and_eq_true, Bool.not_eq_true'] at h
    have h1 : ¬ (fn.name == "runtime.NumGoroutine") = true := by rw [h.1]; simp
    have h2 : ¬ fn.body.isNone = true := by rw [h.2]; simp
    unfold callFunc
    simp only [Sem.run_bind, run_program, Result.andThen_ok, hf]
    rw [if_neg h1, if_neg h2]
    rfl
  · cases h
theorem call_run {f : FuncId} {c : Operand} {args : Array Operand} {vs : List Value} {first cap : Array Value} {at' : Array TypeId} {ρ : Operand → Value} {w : World} (ho : o.op = .call { callee := .value c, args := args, argTypes := at' }) (hρ : Agr L ρ) (hc : ev L c = some (.func (.func f) first cap)) (hf : isFn P f = true) (ha : evs L args.toList = some vs) :
    (execOp ρ o).run P w = .ok (.enter f (first ++ vs.toArray ++ cap)) w := by
  have e1 : args.map ρ = vs.toArray := by rw [← evs_map hρ ha, ← List.map_toArray]
  unfold execOp
  simp only [ho, resolve, Sem.run_bind, hρ _ _ hc, Deferred.ofValue, e1, Sem.run_pure, Result.andThen_ok, invoke, callFunc_run hf]
/-- A callee that yields v and writes to nothing old. -/
theorem q_call {f : FuncId} {args : Array Operand} {vs : List Value} {v : Value} {at' : Array TypeId} (ho : o.op = .call { callee := .value (.func f), args := args, argTypes := at' }) (hf : isFn P f = true) (ha : evs L args.toList = some vs)
    (hc : ∀ w, HS w0 M As w → Calls P f vs.toArray w fun e w' => e = .returned v ∧ Below w.heap.size w w') : OpQ P o L (HS w0 M As) v := by
  intro ρ w hρ hw
  rw [call_run ho hρ rfl hf ha]
  have h1 := hc w hw
  simp only [Array.empty_append, Array.append_empty]
  exact Calls.mono h1 fun e w' h => ⟨v, h.1, rfl, h.2⟩
/-- A callee that yields V g and new memory. -/
theorem h_call {G : Type} {V : G → Value} {F : G → Prop} {Bs : G → List HA} {f : FuncId} {args : Array Operand} {vs : List Value} {at' : Array TypeId} (ho : o.op = .call { callee := .value (.func f), args := args, argTypes := at' }) (hf : isFn P f = true) (ha : evs L args.toList = some vs)
    (hc : ∀ w, HS w0 M As w → Calls P f vs.toArray w fun e w' => ∃ g, e = .returned (V g) ∧ F g ∧ HS w [] (Bs g) w') : OpH P o L (HS w0 M As) V F (fun g => HS w0 M (Bs g ++ As)) := by
  intro ρ w hρ hw
  rw [call_run ho hρ rfl hf ha]
  have h1 := hc w hw
  simp only [Array.empty_append, Array.append_empty]
  exact Calls.mono h1 fun e w' ⟨g, he, hf, hb⟩ => ⟨V g, he, g, rfl, hf, hw.call hb⟩
/-- A callee that may write to the blocks Mc of some assertions. -/
theorem h_callM {G : Type} {V : G → Value} {F : G → Prop} {Bs : G → List HA} {Cs Ds : List HA} {Mc : List Nat} {f : FuncId} {args : Array Operand} {vs : List Value} {at' : Array TypeId} (ho : o.op = .call { callee := .value (.func f), args := args, argTypes := at' }) (hf : isFn P f = true) (ha : evs L args.toList = some vs)
    (hp : As.Perm (Cs ++ Ds)) (hM : ∀ b ∈ Mc, ∃ A ∈ Cs, b ∈ A.fp) (hc : ∀ w, HS w0 M As w → Calls P f vs.toArray w fun e w' => ∃ g, e = .returned (V g) ∧ F g ∧ HS w Mc (Bs g) w') : OpH P o L (HS w0 M As) V F (fun g => HS w0 M (Bs g ++ Ds)) := by
  intro ρ w hρ hw
  rw [call_run ho hρ rfl hf ha]
  have h1 := hc w hw
  simp only [Array.empty_append, Array.append_empty]
  exact Calls.mono h1 fun e w' ⟨g, he, hf, hb⟩ => ⟨V g, he, g, rfl, hf, (hw.perm hp).callM hM hb⟩
/-- The same through a function value. -/
theorem q_callv {f : FuncId} {c : Operand} {args : Array Operand} {vs : List Value} {first cap : Array Value} {v : Value} {at' : Array TypeId} (ho : o.op = .call { callee := .value c, args := args, argTypes := at' }) (hcv : ev L c = some (.func (.func f) first cap)) (hf : isFn P f = true) (ha : evs L args.toList = some vs)
    (hc : ∀ w, HS w0 M As w → Calls P f (first ++ vs.toArray ++ cap) w fun e w' => e = .returned v ∧ Below w.heap.size w w') : OpQ P o L (HS w0 M As) v := by
  intro ρ w hρ hw
  rw [call_run ho hρ hcv hf ha]
  exact Calls.mono (hc w hw) fun e w' h => ⟨v, h.1, rfl, h.2⟩
theorem h_callvM {G : Type} {V : G → Value} {F : G → Prop} {Bs : G → List HA} {Cs Ds : List HA} {Mc : List Nat} {f : FuncId} {c : Operand} {args : Array Operand} {vs : List Value} {first cap : Array Value} {at' : Array TypeId} (ho : o.op = .call { callee := .value c, args := args, argTypes := at' }) (hcv : ev L c = some (.func (.func f) first cap)) (hf : isFn P f = true) (ha : evs L args.toList = some vs)
    (hp : As.Perm (Cs ++ Ds)) (hM : ∀ b ∈ Mc, ∃ A ∈ Cs, b ∈ A.fp) (hc : ∀ w, HS w0 M As w → Calls P f (first ++ vs.toArray ++ cap) w fun e w' => ∃ g, e = .returned (V g) ∧ F g ∧ HS w Mc (Bs g) w') : OpH P o L (HS w0 M As) V F (fun g => HS w0 M (Bs g ++ Ds)) := by
  intro ρ w hρ hw
  rw [call_run ho hρ hcv hf ha]
  exact Calls.mono (hc w hw) fun e w' ⟨g, he, hf, hb⟩ => ⟨V g, he, g, rfl, hf, (hw.perm hp).callM hM hb⟩

/-! ## Slices -/
/-- A slice literal: a new row. -/
theorem h_buildSlice {t e sz by' len : Nat} {parts : Array (Nat × Operand)} {vs : List (Nat × Value)} {z cs : List Value} (ho : o.op = .buildSlice t len parts) (hp : evParts L parts.toList = some vs) (ht : tsl P t = some (e, sz, by')) (hz : tzero P e = some z) (hlen : Nat.ble (len * sz) 16777216 = true) (h0 : Nat.blt 0 (len * sz) = true)
    (hcs' : fillL (fun i => some (i * sz, sz)) ((List.range (len * sz)).map fun i => z.getD (i % z.length) default) vs = some cs) :
    OpH P o L (HS w0 M As) (fun b => .slice (some ⟨b, 0, none⟩) len len) (fun _ => True) (fun b => HS w0 M (.blk b e cs.length cs :: As)) := by
  intro ρ w hρ hw
  obtain ⟨inf, zv, h1, h2, h3⟩ := tzero_some hz
  obtain ⟨hu, inf', h4, h5, _⟩ := tsl_slice ht
  have hcs : Instr.fill (fun i => some (i * sz, sz)) ((Array.range (len * sz)).map (z.toArray[· % z.toArray.size]!)) vs = some cs.toArray := by
    rw [← fill_eq hcs']
    congr 1
    apply Array.ext'
    simp only [Array.toList_map, Array.toList_range, List.size_toArray]
    refine List.map_congr_left fun i _ => ?_
    simp [List.getD_eq_getElem?_getD, getElem!_def]
    cases z[i % z.length]? <;> rfl
  have hz' : zv.cells = z.toArray := by rw [← h3]
  have hpm : (parts.map fun p => (p.1, ρ p.2)).toList = vs := by rw [Array.toList_map]; exact evParts_map hρ hp
  have hzr : (zeroValue e).run P w = .ok zv w := by simp [zeroValue, typeInfo, h1, h2]
  have hsz : (Go.sizeOf e).run P w = .ok sz w := by simp [Go.sizeOf, typeInfo, h4, h5]
  have hlen' : ¬ (len * sz > 2 ^ 24) := by have := Nat.le_of_ble_eq_true hlen; omega
  have h0' : ¬ (len * sz = 0) := by have : 0 < len * sz := by simpa [Nat.blt_eq] using h0
                                    omega
  have hb : (Instr.buildSlice t len (parts.map fun p => (p.1, ρ p.2))).run P w = .ok (.slice (some ⟨w.heap.size, 0, none⟩) len len) (w.alloc (.cells cs.toArray e)) := by
    unfold Instr.buildSlice
    simp only [Sem.run_bind, run_underlying hu, Result.andThen_ok, hsz, if_neg hlen', if_neg h0', hzr, Sem.run_pure, hz', hpm, hcs, newRow, run_newObj, World.alloc_eq]
  simp only [execOp, ho, Sem.run_bind]
  rw [show (parts.map fun x => match x with | (i, x) => (i, ρ x)) = parts.map fun p => (p.1, ρ p.2) from rfl, hb]
  exact ⟨w.heap.size, rfl, trivial, by simpa using hw.blk_new e cs.toArray⟩
/-- A slice of a string's bytes. -/
theorem h_bytes {src dst e : TypeId} {x : Operand} {l : List UInt8} (ho : o.op = .convert src dst x) (hx : ev L x = some (.string (bs l))) (hs : P.underlying src = some .string) (hd : P.underlying dst = some (.slice e)) (he : P.underlying e = some (.int .u8)) (h5 : e = u8T) (hl : l.length ≤ maxLen) :
    OpH P o L (HS w0 M As) (fun p : Nat × Nat => .slice (some ⟨p.1, 0, none⟩) l.length p.2) (fun p => l.length ≤ p.2 ∧ p.2 ≤ maxLen) (fun p => HS w0 M (.blk p.1 e p.2 (l.map fun b => .int .u8 b.toNat) :: As)) := by
  intro ρ w hρ hw
  have hr := run_bytes_of_string (P := P) w src dst e (bs l) hs hd he
  simp only [execOp, ho, Sem.run_bind, hρ _ _ hx, hr, Result.andThen_ok, Sem.run_pure]
  have hge := grownCap_ge w (bs l).size 0 e
  have hle := grownCap_le_maxLen w (bs l).size 0 e hl
  refine ⟨(w.heap.size, grownCap w (bs l).size 0 e), rfl, ⟨hge, hle⟩, ?_⟩
  generalize hcap : grownCap w (bs l).size 0 e = cap at *
  have hsz : (bytesRow (bs l) cap).size = cap := by
    simp only [bytesRow, Array.size_append, Array.size_map, Array.size_replicate]
    have : (bs l).data.size = (bs l).size := rfl
    omega
  refine hw.drew.alloc _ _ rfl ⟨_, _, heap_alloc_new _ _, hsz, by simpa using hge, fun i hi => ?_, fun i h2 h3 => ?_⟩
  · simp only [List.length_map] at hi
    simp [bytesRow, Array.getElem?_append, bs, hi]
  · rw [hsz] at h2 h3
    exact .inr ⟨by omega, h5⟩
/-- A string of a slice's bytes. -/
theorem q_string {src dst e : TypeId} {x : Operand} {a : Option Addr} {n cap : Nat} (l : List UInt8) (ho : o.op = .convert src dst x) (hx : ev L x = some (.slice a n cap)) (hs : P.underlying src = some (.slice e)) (hd : P.underlying dst = some .string) (he : P.underlying e = some (.int .u8)) (hl : l.length = n)
    (hc : ∀ w, HS w0 M As w → 0 < n → ∃ b i, a = some ⟨b, i, none⟩ ∧ ∀ j (hj : j < l.length), w.cell? ⟨b, i + j, none⟩ = some (.int .u8 (l[j].toNat : Int))) : OpQ P o L (HS w0 M As) (.string (bs l)) := by
  intro ρ w hρ hw
  have hr : (convert src dst (.slice a n cap)).run P w = .ok (.string (bs l)) w := by
    rcases Nat.eq_zero_or_pos n with h0 | h0
    · subst h0
      have : l = [] := List.eq_nil_of_length_eq_zero hl
      subst this
      cases a with
      | none => exact run_convert_bytes_nil w src e hs he 0 cap dst hd
      | some ad => exact run_convert_bytes_back w src dst e ad cap [] hs he hd (fun j hj => absurd hj (Nat.not_lt_zero _))
    · obtain ⟨b, i, rfl, h1⟩ := hc w hw h0
      subst hl
      exact run_convert_bytes_back w src dst e ⟨b, i, none⟩ cap l hs he hd (fun j hj => by rw [addr_add]; exact h1 j hj)
  simp only [execOp, ho, Sem.run_bind, hρ _ _ hx, hr, Result.andThen_ok, Sem.run_pure]
  exact ⟨rfl, Below.refl _ _⟩
end
end Gx
