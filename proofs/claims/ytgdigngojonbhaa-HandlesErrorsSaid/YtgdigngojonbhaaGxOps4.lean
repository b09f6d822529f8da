/- The engine's rules, continued: results, subslices, min and max, strings of own bytes, entering with owned memory. -/
import Derived.Test.YtgdigngojonbhaaGxReg
namespace Gx
set_option linter.unusedSimpArgs false
set_option linter.unusedVariables false
open Go Go.RowKit

section
variable {X : Ctx} {ops : Array Oper} {rest : List Oper} {k : List KI} {L : Slots} {d ty : Nat} {op : Op} {pos : String} {aft : Array Edge} {w0 : World} {M : List Nat} {As As' : List HA}
theorem o_p {C : World → Prop} {v : Value} (h : OpP X.P ⟨some d, op, ty, pos, aft, none⟩ L v) (hd : Nat.blt d X.n = true) (next : O X ops rest k ((d, v) :: L) C) : O X ops (⟨some d, op, ty, pos, aft, none⟩ :: rest) k L C := by
  intro a w ha hw
  refine wpList_plain rfl fun K hK => ?_
  exact wp_of_res (Post := fun u w' => u = v ∧ w' = w) (by rw [h a.eval w ha.agr]; exact ⟨rfl, rfl⟩) fun u w' ⟨h1, h2⟩ => by subst h1; subst h2; exact hK _ _ (next _ _ (ha.put d _ hd) hw)
theorem d_split {F : List Nat} {B C : World → Prop} {fuel : Nat} {listed : Array Bool} {b : Bool} (dj : Nat) (_hb : Slots.get L dj = some (.bool b)) (h1 : b = true → D X ops F B fuel listed k L C) (h0 : b = false → D X ops F B fuel listed k L C) : D X ops F B fuel listed k L C := by
  cases b with
  | true => exact h1 rfl
  | false => exact h0 rfl
theorem d_slot {F : List Nat} {B C : World → Prop} {fuel : Nat} {listed : Array Bool} {v u : Value} (e : v = u) (h : D X ops F B fuel listed k ((d, u) :: L) C) : D X ops F B fuel listed k ((d, v) :: L) C := by subst e; exact h
/-! ## Results -/
def resOf (tmps : Array Value) : ResultVar → Sem Value
  | .tmp t => pure (tmps.getD t undef)
  | .cell a t => do loadVar t (← asAddr (tmps.getD a undef))
def RV (P : Program) (L : Slots) (As : List HA) (rs : List ResultVar) (vs : List Value) : Prop :=
  ∀ (a : Act) (n : Nat) (w w0 : World) (M : List Nat), FR n L a → HS w0 M As w → (rs.mapM (resOf a.tmps)).run P w = .ok vs w
section
variable {P : Program}
theorem RV.nil : RV P L As [] [] := fun _ _ _ _ _ _ _ => by simp [List.mapM_nil]
theorem RV.tmp {t : Nat} {v : Value} {rs : List ResultVar} {vs : List Value} (h : Slots.get L t = some v) (r : RV P L As rs vs) : RV P L As (.tmp t :: rs) (v :: vs) := fun a n w w0 M ha hw => by
  have e : a.tmps.getD t undef = v := ha.evl (x := .tmp t) h
  rw [List.mapM_cons]
  simp only [resOf, Sem.run_bind, Sem.run_pure, Result.andThen_ok, e, r a n w w0 M ha hw]
theorem RV.cell {at' t b i m tot : Nat} {bt : TypeId} {cs : List Value} {As' : List HA} {rs : List ResultVar} {vs : List Value} (h : Slots.get L at' = some (.pointer (some ⟨b, i, none⟩))) (hs : tsz P t = some (m, true)) (hp : Pick As (.blk b bt tot cs) As') (hl : Nat.ble (i + m) cs.length = true)
    (r : RV P L As rs vs) : RV P L As (.cell at' t :: rs) (.agg (cut cs i m).toArray :: vs) := fun a n w w0 M ha hw => by
  have e : a.tmps.getD at' undef = .pointer (some ⟨b, i, none⟩) := ha.evl (x := .tmp at') h
  have hl' : i + m ≤ cs.length := Nat.le_of_ble_eq_true hl
  have hr := loadAt_runn (P := P) (b := b) (i := i) (w := w) (vs := cut cs i m) hs (by simp [cut]; omega) (fun j v hv => (hw.blk_get hp).cell (by
    unfold cut at hv
    rw [List.getElem?_take] at hv
    split at hv
    · simpa using hv
    · cases hv))
  have hr' : (loadVar t ⟨b, i, none⟩).run P w = .ok (.agg (cut cs i m).toArray) w := by simpa [Instr.loadAt, Instr.sureAddr] using hr
  rw [List.mapM_cons]
  simp only [resOf, Sem.run_bind, Sem.run_pure, Result.andThen_ok, e, asAddr, hr', r a n w w0 M ha hw]
theorem RV.cell1 {at' t b i tot : Nat} {bt : TypeId} {cs : List Value} {v : Value} {As' : List HA} {rs : List ResultVar} {vs : List Value} (h : Slots.get L at' = some (.pointer (some ⟨b, i, none⟩))) (hs : tsz P t = some (1, false)) (hp : Pick As (.blk b bt tot cs) As') (hv : cs[i]? = some v)
    (r : RV P L As rs vs) : RV P L As (.cell at' t :: rs) (v :: vs) := fun a n w w0 M ha hw => by
  have e : a.tmps.getD at' undef = .pointer (some ⟨b, i, none⟩) := ha.evl (x := .tmp at') h
  have hr := loadAt_run1 (P := P) (t := t) hs ((hw.blk_get hp).cell hv)
  have hr' : (loadVar t ⟨b, i, none⟩).run P w = .ok v w := by simpa [Instr.loadAt, Instr.sureAddr] using hr
  rw [List.mapM_cons]
  simp only [resOf, Sem.run_bind, Sem.run_pure, Result.andThen_ok, e, asAddr, hr', r a n w w0 M ha hw]
theorem RV.run {a : Act} {n : Nat} {w w0 : World} {M : List Nat} (ha : FR n L a) (hw : HS w0 M As w) {rs : List ResultVar} {vs : List Value} (h : RV P L As rs vs) : (rs.mapM (resOf a.tmps)).run P w = .ok vs w := h a n w w0 M ha hw
end
def retV : List Value → Value
  | [v] => v
  | vs => .tuple vs.toArray
theorem results_eq {fn : Func} {rs : List ResultVar} {tmps : Array Value} (h : fn.results = rs.toArray) : results fn tmps = (do
    let vs ← rs.toArray.mapM (resOf tmps)
    pure (if h : vs.size = 1 then vs[0] else .tuple vs)) := by
  unfold results
  rw [h]
  have e : (fun x : ResultVar => (match x with
    | .tmp t => pure (tmps.getD t undef)
    | .cell a t => do loadVar t (← asAddr (tmps.getD a undef)) : Sem Value)) = resOf tmps := by
    funext x; cases x <;> rfl
  rw [← e]
  rfl
theorem s_retv {rs : List ResultVar} {vs : List Value} (hr : X.fn.results = rs.toArray) (hv : RV X.P L As rs vs) (h : ∀ w, HS w0 M As w → X.R (.returned (retV vs)) w) : S X (.c .ret :: k) L (HS w0 M As) := by
  refine s_ret_gen (v := retV vs) (fun a w ha hw => ?_) h
  have hm := hv.run ha hw
  rw [results_eq hr, Array.mapM_eq_mapM_toList]
  simp only [Sem.run_bind, Sem.run_map, hm, Result.andThen_ok, Sem.run_pure]
  match vs with
  | [] => rfl
  | [v] => rfl
  | u :: v :: vs => simp [retV]
end

section
variable {P : Program} {o : Oper} {L : Slots} {w0 : World} {M : List Nat} {As As' : List HA}
/-! ## Subslices -/
/-- Where a subslice begins. -/
def subA (a : Option Addr) (cap lo sz : Nat) : Option Addr := if cap = lo then a else a.map (·.add (lo * sz))
theorem p_slice {t e sz by' : Nat} {x : Operand} {a : Option Addr} {n cap : Nat} (lo hi : Option Operand) (i j : Nat) (ho : o.op = .slice t x lo hi none) (hx : ev L x = some (.slice a n cap)) (ht : tsl P t = some (e, sz, by')) (hlo : IsLo L lo i) (hhi : IsHi L hi n j) (hij : i ≤ j) (hj : j ≤ cap) :
    OpP P o L (.slice (subA a cap i sz) (j - i) (cap - i)) := by
  intro ρ w hρ
  obtain ⟨hu, inf, h1, h2, _⟩ := tsl_slice ht
  have hb := run_bounds (P := P) (w := w) true hρ hlo hhi hij hj
  simp only [execOp, ho, Instr.sliceAt, Sem.run_bind, run_underlying hu, Result.andThen_ok, Instr.slice, hρ _ _ hx, Option.map_none, hb, Sem.run_pure]
  simp [Go.sizeOf, typeInfo, h1, h2, subA]
/-! ## Slices held against nil -/
theorem equal_slice_nil {t e : TypeId} {a : Option Addr} {n c n' c' : Nat} (w : World) (ht : P.underlying t = some (.slice e)) : (Op.equal t (.slice a n c) (.slice none n' c')).run P w = .ok a.isNone w := by
  have h : ∀ d, (Op.equalIn (d + 1) t (.slice a n c) (.slice none n' c')).run P w = .ok a.isNone w := fun d => by
    rw [Op.equalIn]
    simp only [Sem.run_bind, run_underlying ht, Result.andThen_ok]
    cases a <;> rfl
  exact h 9999
theorem p_slice_nil_eql {t t' : TypeId} {x y : Operand} {a : Option Addr} {n c n' c' : Nat} {e : TypeId} (ho : o.op = .binOp .eql t x y t') (hx : ev L x = some (.slice a n c)) (hy : ev L y = some (.slice none n' c')) (ht : P.underlying t = some (.slice e)) : OpP P o L (.bool a.isNone) := by
  intro ρ w hρ
  have hg : (eqGuard .eql t x y (.slice a n c) (.slice none n' c')).run P w = .ok () w := by unfold eqGuard; simp
  have hb : (binOp .eql t (.slice a n c) (.slice none n' c')).run P w = .ok (.bool a.isNone) w := by
    unfold binOp
    simp only [Sem.run_bind, equal_slice_nil w ht, Result.andThen_ok, Sem.run_pure]
  simp only [execOp, ho, hρ _ _ hx, hρ _ _ hy, Sem.run_bind, hg, hb, Result.andThen_ok, Sem.run_pure]
theorem p_slice_nil_neq {t t' : TypeId} {x y : Operand} {a : Option Addr} {n c n' c' : Nat} {e : TypeId} (ho : o.op = .binOp .neq t x y t') (hx : ev L x = some (.slice a n c)) (hy : ev L y = some (.slice none n' c')) (ht : P.underlying t = some (.slice e)) : OpP P o L (.bool (!a.isNone)) := by
  intro ρ w hρ
  have hg : (eqGuard .neq t x y (.slice a n c) (.slice none n' c')).run P w = .ok () w := by unfold eqGuard; simp
  have hb : (binOp .neq t (.slice a n c) (.slice none n' c')).run P w = .ok (.bool (!a.isNone)) w := by
    unfold binOp
    simp only [Sem.run_bind, equal_slice_nil w ht, Result.andThen_ok, Sem.run_pure]
  simp only [execOp, ho, hρ _ _ hx, hρ _ _ hy, Sem.run_bind, hg, hb, Result.andThen_ok, Sem.run_pure]
/-! ## min and max of two numbers -/
theorem p_min2 {x y : Operand} {k : IntKind} {a b : Int} {ts : Array TypeId} (ho : o.op = .call { callee := .builtin .min, args := #[x, y], argTypes := ts }) (hx : ev L x = some (.int k a)) (hy : ev L y = some (.int k b)) : OpP P o L (.int k (if b < a then b else a)) := by
  intro ρ w hρ
  simp [execOp, ho, resolve, invoke, builtin, Builtin.min_, Builtin.min2, hρ _ _ hx, hρ _ _ hy]
theorem p_max2 {x y : Operand} {k : IntKind} {a b : Int} {ts : Array TypeId} (ho : o.op = .call { callee := .builtin .max, args := #[x, y], argTypes := ts }) (hx : ev L x = some (.int k a)) (hy : ev L y = some (.int k b)) : OpP P o L (.int k (if b > a then b else a)) := by
  intro ρ w hρ
  simp [execOp, ho, resolve, invoke, builtin, Builtin.max_, Builtin.max2, hρ _ _ hx, hρ _ _ hy]
/-! ## Callees that write to one block -/
theorem h_call1 {G : Type} {V : G → Value} {F : G → Prop} {Bs : G → List HA} {b : Nat} {t : TypeId} {tot : Nat} {cs : List Value} {Ds : List HA} {f : FuncId} {args : Array Operand} {vs : List Value} {at' : Array TypeId} (ho : o.op = .call { callee := .value (.func f), args := args, argTypes := at' }) (hf : isFn P f = true) (ha : evs L args.toList = some vs)
    (hp : Pick As (.blk b t tot cs) Ds) (hc : ∀ w, HS w0 M As w → Calls P f vs.toArray w fun e w' => ∃ g, e = .returned (V g) ∧ F g ∧ HS w [b] (Bs g) w') : OpH P o L (HS w0 M As) V F (fun g => HS w0 M (Bs g ++ Ds)) :=
  h_callM (Cs := [.blk b t tot cs]) ho hf ha hp.perm (fun b' hb => ⟨_, List.mem_singleton.2 rfl, hb⟩) hc
theorem h_callv1 {G : Type} {V : G → Value} {F : G → Prop} {Bs : G → List HA} {b : Nat} {t : TypeId} {tot : Nat} {cs : List Value} {Ds : List HA} {f : FuncId} {c : Operand} {args : Array Operand} {vs : List Value} {first cap : Array Value} {at' : Array TypeId} (ho : o.op = .call { callee := .value c, args := args, argTypes := at' }) (hcv : ev L c = some (.func (.func f) first cap)) (hf : isFn P f = true) (ha : evs L args.toList = some vs)
    (hp : Pick As (.blk b t tot cs) Ds) (hc : ∀ w, HS w0 M As w → Calls P f (first ++ vs.toArray ++ cap) w fun e w' => ∃ g, e = .returned (V g) ∧ F g ∧ HS w [b] (Bs g) w') : OpH P o L (HS w0 M As) V F (fun g => HS w0 M (Bs g ++ Ds)) :=
  h_callvM (Cs := [.blk b t tot cs]) ho hcv hf ha hp.perm (fun b' hb => ⟨_, List.mem_singleton.2 rfl, hb⟩) hc
/-! ## Strings of own bytes -/
def vByte (v : Value) : UInt8 := UInt8.ofNat (intOf v).toNat
def isU8 : Value → Bool
  | .int .u8 _ => true
  | _ => false
theorem conv_bytes_run {src dst e : TypeId} {a : Option Addr} {cap : Nat} {xs : List Value} {w : World} (hs : P.underlying src = some (.slice e)) (hd : P.underlying dst = some .string) (he : P.underlying e = some (.int .u8)) (h8 : ∀ v ∈ xs, isU8 v = true) (hc : Src a xs w) :
    (convert src dst (.slice a xs.length cap)).run P w = .ok (.string (bs (xs.map vByte))) w := by
  have hx : xs.map (fun v => Value.int .u8 (intOf v)) = xs := by
    refine (List.map_congr_left (g := id) fun v hv => ?_).trans (List.map_id _)
    have := h8 v hv
    cases v with
    | int k n => cases k <;> first | rfl | cases this
    | _ => cases this
  have hbs : ∀ (ns : List Int) (s : ByteArray), ns.foldl (fun r n => r.push (UInt8.ofNat n.toNat)) s = ⟨s.data ++ (ns.map fun n => UInt8.ofNat n.toNat).toArray⟩ := foldl_push_bytes
  cases xs with
  | nil =>
    cases a with
    | none => exact run_convert_bytes_nil w src e hs he 0 cap dst hd
    | some ad => exact run_convert_bytes_back w src dst e ad cap [] hs he hd (fun j hj => absurd hj (Nat.not_lt_zero _))
  | cons u us =>
    obtain ⟨b, i, rfl, h1⟩ := hc (by simp)
    rw [run_convert_bytes_string w src dst e _ _ cap hs he hd]
    have hl := run_loadCells_list (P := P) w ⟨b, i, none⟩ (((u :: us).map intOf).map (Value.int .u8)) (fun j v hj => by
      rw [List.map_map] at hj
      rw [show (Value.int .u8 ∘ intOf) = fun v => Value.int .u8 (intOf v) from rfl, hx] at hj
      rw [addr_add]
      exact h1 j v hj)
    have hlen : (((u :: us).map intOf).map (Value.int .u8)).length = (u :: us).length := by simp
    rw [hlen] at hl
    rw [run_bytesToString w _ _ cap _ hl, hbs]
    have e0 : ByteArray.empty.data = #[] := rfl
    simp only [bs, List.map_map, e0, Array.empty_append]
    rfl
theorem q_string_own {src dst e et n : Nat} {x : Operand} {v : Value} {xs : List Value} (ho : o.op = .convert src dst x) (hx : ev L x = some v) (hs : P.underlying src = some (.slice e)) (hd : P.underlying dst = some .string) (he : P.underlying e = some (.int .u8)) (hp : Pick As (.own v et 1 n xs) As') (h8 : ∀ v ∈ xs, isU8 v = true) : OpQ P o L (HS w0 M As) (.string (bs (xs.map vByte))) := by
  intro ρ w hρ hw
  have hr : (convert src dst v).run P w = .ok (.string (bs (xs.map vByte))) w := by
    obtain ⟨hl, ⟨rfl, rfl⟩ | ⟨g, cap, rfl, _, _, hb⟩⟩ := (hw.pick hp).head
    · have : xs = [] := List.eq_nil_of_length_eq_zero (by simpa using hl)
      subst this
      exact conv_bytes_run (xs := []) hs hd he (fun _ h => by cases h) (fun h => absurd rfl h)
    · have hl' : n = xs.length := by omega
      subst hl'
      exact conv_bytes_run hs hd he h8 fun _ => ⟨g, 0, rfl, fun j u hu => by simpa using hb.cell hu⟩
  simp only [execOp, ho, Sem.run_bind, hρ _ _ hx, hr, Result.andThen_ok, Sem.run_pure]
  exact ⟨rfl, Below.refl _ _⟩
theorem q_string_blk {src dst e et n tot b cap : Nat} {x : Operand} {xs : List Value} (ho : o.op = .convert src dst x) (hx : ev L x = some (.slice (some ⟨b, 0, none⟩) n cap)) (hs : P.underlying src = some (.slice e)) (hd : P.underlying dst = some .string) (he : P.underlying e = some (.int .u8)) (hp : Pick As (.blk b et tot xs) As') (hn : xs.length = n) (h8 : ∀ v ∈ xs, isU8 v = true) : OpQ P o L (HS w0 M As) (.string (bs (xs.map vByte))) := by
  intro ρ w hρ hw
  have hr : (convert src dst (.slice (some ⟨b, 0, none⟩) n cap)).run P w = .ok (.string (bs (xs.map vByte))) w := by
    subst hn
    exact conv_bytes_run hs hd he h8 fun _ => ⟨b, 0, rfl, fun j u hu => by simpa using (hw.blk_get hp).cell hu⟩
  simp only [execOp, ho, Sem.run_bind, hρ _ _ hx, hr, Result.andThen_ok, Sem.run_pure]
  exact ⟨rfl, Below.refl _ _⟩
/-- The head of a row of its own that is not nil. -/
theorem own_some {v : Value} {t sz n : Nat} {xs : List Value} {w : World} (h : OwnOk v t sz n xs w) (hn : 0 < n) : ∃ g cap, v = .slice (some ⟨g, 0, none⟩) n cap ∧ n ≤ cap := by
  obtain ⟨_, ⟨_, h0⟩ | ⟨g, cap, rfl, h1, _⟩⟩ := h
  · omega
  · exact ⟨g, cap, rfl, h1⟩
end
/-! ## Entering with owned memory -/
theorem HS.enter {w : World} {M : List Nat} {As : List HA} (hok : ∀ A ∈ As, A.ok w) (hlt : ∀ A ∈ As, ∀ b ∈ A.fp, b < w.heap.size ∧ b ∈ M) (hsep : As.Pairwise fun A B => ∀ b ∈ A.fp, b ∉ B.fp) : HS w M As w :=
  ⟨rfl, rfl, rfl, Nat.le_refl _, fun _ _ _ => rfl, hok, fun A hA b hb => ⟨(hlt A hA b hb).1, fun _ => (hlt A hA b hb).2⟩, hsep⟩
theorem BlkOk.lt {w : World} {b : Nat} {t : TypeId} {tot : Nat} {cs : List Value} (h : BlkOk b t tot cs w) : b < w.heap.size := by
  obtain ⟨cur, fr, h1, _⟩ := h
  rcases Nat.lt_or_ge b w.heap.size with h' | h'
  · exact h'
  · simp [Array.getElem?_eq_none h'] at h1
theorem HS.enter_blk {w : World} {b : Nat} {t : TypeId} {tot : Nat} {cs : List Value} (h : BlkOk b t tot cs w) : HS w [b] [.blk b t tot cs] w :=
  HS.enter (fun A hA => by rcases List.mem_singleton.1 hA; exact h) (fun A hA b' hb => by
    rcases List.mem_singleton.1 hA
    rcases List.mem_singleton.1 hb
    exact ⟨h.lt, List.mem_singleton.2 rfl⟩) (.cons (fun _ h => (by cases h)) .nil)
/-- What a class says of a block, as a fact on old memory of a callee. -/
theorem HS.rd_blk {w0 w : World} {M Mc : List Nat} {As As' : List HA} {b i : Nat} {t : TypeId} {tot : Nat} {cs : List Value} {v : Value} (h : HS w0 M As w) (hp : Pick As (.blk b t tot cs) As') (hv : cs[i]? = some v) (hM : b ∉ Mc) : Rd w Mc b i v :=
  ⟨(h.blk_get hp).lt, hM, (h.blk_get hp).cell hv⟩
theorem HS.ne {w0 w : World} {M : List Nat} {As As1 As2 : List HA} {b b' : Nat} {t t' : TypeId} {tot tot' : Nat} {cs cs' : List Value} (h : HS w0 M As w) (hp : Pick As (.blk b t tot cs) As1) (hp' : Pick As1 (.blk b' t' tot' cs') As2) : b ≠ b' := by
  have h1 := h.pick hp
  have hs := (List.pairwise_cons.1 h1.sep).1 _ hp'.mem
  intro e
  subst e
  exact hs b (List.mem_singleton.2 rfl) (List.mem_singleton.2 rfl)
/-- A slice over a block of the caller's, for a callee. -/
theorem HS.sl_blk {w0 w : World} {M : List Nat} {As As' : List HA} {b sz n : Nat} {t : TypeId} {tot : Nat} {cs : List Value} {cell : Nat → List Value} (h : HS w0 M As w) (hp : Pick As (.blk b t tot cs) As') (hc : ∀ i, i < n → (cell i).length = sz ∧ ∀ j v, (cell i)[j]? = some v → cs[i * sz + j]? = some v) : Sl w [] (some ⟨b, 0, none⟩) sz n cell :=
  ⟨fun _ => ⟨b, 0, rfl, fun i hi => ⟨(hc i hi).1, fun j v hv => by
    have := h.rd_blk (Mc := []) hp ((hc i hi).2 j v hv) (by simp)
    simpa using this⟩⟩⟩
theorem HS.sl_own {w0 w : World} {M : List Nat} {As As' : List HA} {v : Value} {sz n : Nat} {t : TypeId} {cs : List Value} {cell : Nat → List Value} {a : Option Addr} {cap : Nat} (h : HS w0 M As w) (hp : Pick As (.own v t sz n cs) As') (hv : v = .slice a n cap) (hc : ∀ i, i < n → (cell i).length = sz ∧ ∀ j v, (cell i)[j]? = some v → cs[i * sz + j]? = some v) : Sl w [] a sz n cell := by
  refine ⟨fun hn => ?_⟩
  obtain ⟨g, cap', e, _, _, _, h2⟩ := (h.pick hp).own_open' hn
  rw [e] at hv
  injection hv with e1 e2 e3
  subst e1
  exact (h2.sl_blk .here hc).at_ hn
/-- Two blocks that a class lists are not one. -/
theorem HS.pick_ne {w0 w : World} {M : List Nat} {As As1 : List HA} {b b' : Nat} {t t' : TypeId} {tot tot' : Nat} {cs cs' : List Value} (h : HS w0 M As w) (hp : Pick As (.blk b t tot cs) As1) (hm : HA.blk b' t' tot' cs' ∈ As1) : b ≠ b' := by
  have h1 := h.pick hp
  have hs := (List.pairwise_cons.1 h1.sep).1 _ hm
  intro e
  subst e
  exact hs b (List.mem_singleton.2 rfl) (List.mem_singleton.2 rfl)
theorem pow_wrap (n : Nat) (h : n ≤ 62) : IntKind.i64.wrap (2 ^ n : Int) = 2 ^ n := by
  refine IntWalk.i64_in _ ⟨?_, ?_⟩
  · have : (0 : Int) < 2 ^ n := Int.pow_pos (by omega)
    omega
  · have h1 : (2 : Nat) ^ n ≤ 2 ^ 62 := Nat.pow_le_pow_right (by omega) h
    have h2 : ((2 ^ n : Nat) : Int) = (2 : Int) ^ n := by simp
    have h3 : (2 : Nat) ^ 62 = 4611686018427387904 := by decide
    omega
end Gx
