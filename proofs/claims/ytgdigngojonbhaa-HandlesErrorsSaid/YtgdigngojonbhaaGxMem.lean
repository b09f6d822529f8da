/- What is owned in memory: assertions over few blocks, lists of them apart from each other, and what keeps them. -/
import Derived.Test.YtgdigngojonbhaaGxCore
namespace Gx
open Go Go.RowKit

/-- The type number of uint8 (a conversion of a string to bytes marks the place behind its row's last cell). -/
def u8T : TypeId := 5
/-- Block b holds tot cells of element type t, of which the first are cs; none of them is frozen, nor the place behind them (but in a row of bytes). -/
def BlkOk (b : Nat) (t : TypeId) (tot : Nat) (cs : List Value) (w : World) : Prop :=
  ∃ cur fr, w.heap[b]? = some (.cells cur t fr) ∧ cur.size = tot ∧ cs.length ≤ tot ∧ (∀ i, i < cs.length → cur[i]? = cs[i]?) ∧ (∀ i, fr.1 ≤ i → i < fr.2 → tot < i ∨ (i = tot ∧ t = u8T))
def OwnOk (v : Value) (t : TypeId) (sz n : Nat) (xs : List Value) (w : World) : Prop :=
  xs.length = n * sz ∧ ((v = .slice none 0 0 ∧ n = 0) ∨ ∃ g cap, v = .slice (some ⟨g, 0, none⟩) n cap ∧ n ≤ cap ∧ cap ≤ maxLen ∧ BlkOk g t (cap * sz) xs w)
theorem BlkOk.loc {w w' : World} {b : Nat} {t : TypeId} {tot : Nat} {cs : List Value} (h : w'.heap[b]? = w.heap[b]?) : BlkOk b t tot cs w → BlkOk b t tot cs w' := by
  rintro ⟨cur, fr, h1, h2⟩
  exact ⟨cur, fr, h.trans h1, h2⟩
/-- An assertion: the blocks it speaks of, what it says, and that it hangs on those blocks alone. -/
structure HA where
  fp : List Nat
  ok : World → Prop
  loc : ∀ w w', (∀ b ∈ fp, w'.heap[b]? = w.heap[b]?) → ok w → ok w'
/-- A block of cells. -/
def HA.blk (b : Nat) (t : TypeId) (tot : Nat) (cs : List Value) : HA := ⟨[b], BlkOk b t tot cs, fun _ _ h ha => BlkOk.loc (h b (List.mem_singleton.2 rfl)) ha⟩
/-- A slice value with a row of its own. -/
def HA.own (v : Value) (t : TypeId) (sz n : Nat) (xs : List Value) : HA := ⟨v.ownBlock.toList, OwnOk v t sz n xs, fun w w' h ha => by
    obtain ⟨hl, h1 | ⟨g, cap, rfl, hn, hc, hb⟩⟩ := ha
    · exact ⟨hl, .inl h1⟩
    · exact ⟨hl, .inr ⟨g, cap, rfl, hn, hc, BlkOk.loc (h g (by simp [Value.ownBlock])) hb⟩⟩⟩
theorem HA.fp_blk (b : Nat) (t : TypeId) (tot : Nat) (cs : List Value) : (HA.blk b t tot cs).fp = [b] := rfl
theorem HA.fp_own (v : Value) (t : TypeId) (sz n : Nat) (xs : List Value) : (HA.own v t sz n xs).fp = v.ownBlock.toList := rfl

/-- Since world w0: all old blocks but those in M are as they were; the assertions hold, each of blocks that are new or in M, and they are apart. -/
structure HS (w0 : World) (M : List Nat) (As : List HA) (w : World) : Prop where
  os : w.os = w0.os
  tape : w.tape = w0.tape
  output : w.output = w0.output
  size : w0.heap.size ≤ w.heap.size
  old : ∀ b, b < w0.heap.size → b ∉ M → w.heap[b]? = w0.heap[b]?
  ok : ∀ A ∈ As, A.ok w
  lt : ∀ A ∈ As, ∀ b ∈ A.fp, b < w.heap.size ∧ (b < w0.heap.size → b ∈ M)
  sep : As.Pairwise fun A B => ∀ b ∈ A.fp, b ∉ B.fp

section
variable {w0 w w' : World} {M : List Nat} {As : List HA}
theorem HS.refl (w : World) (M : List Nat) : HS w M [] w := ⟨rfl, rfl, rfl, Nat.le_refl _, fun _ _ _ => rfl, fun _ h => (by cases h), fun _ h => (by cases h), .nil⟩
theorem HS.below (h : HS w0 [] As w) : Below w0.heap.size w0 w := ⟨h.os, h.tape, h.output, h.size, fun k hk => h.old k hk (by simp)⟩
theorem HS.of_below (h : Below w0.heap.size w0 w) : HS w0 [] [] w := ⟨h.os, h.tape, h.output, h.size, fun k hk _ => h.block k hk, fun _ h => (by cases h), fun _ h => (by cases h), .nil⟩
/-- What a callee leaves that writes to nothing old. -/
theorem HS.stable (h : HS w0 M As w) (hb : Below w.heap.size w w') : HS w0 M As w' :=
  ⟨hb.os.trans h.os, hb.tape.trans h.tape, hb.output.trans h.output, Nat.le_trans h.size hb.size,
   fun b hb' hm => (hb.block b (Nat.lt_of_lt_of_le hb' h.size)).trans (h.old b hb' hm),
   fun A hA => A.loc w w' (fun b hbf => hb.block b (h.lt A hA b hbf).1) (h.ok A hA),
   fun A hA b hbf => ⟨Nat.lt_of_lt_of_le (h.lt A hA b hbf).1 hb.size, (h.lt A hA b hbf).2⟩, h.sep⟩
theorem HS.drew (h : HS w0 M As w) : HS w0 M As w.drew := h.stable (Below.drew (Below.refl _ _))
/-- A callee's new memory beside ours. -/
theorem HS.call {Bs : List HA} (h : HS w0 M As w) (hc : HS w [] Bs w') : HS w0 M (Bs ++ As) w' := by
  have hs := h.stable hc.below
  refine ⟨hs.os, hs.tape, hs.output, hs.size, hs.old, fun A hA => ?_, fun A hA => ?_, ?_⟩
  · rcases List.mem_append.1 hA with hA | hA
    · exact hc.ok A hA
    · exact hs.ok A hA
  · rcases List.mem_append.1 hA with hA | hA
    · intro b hb
      have h1 := hc.lt A hA b hb
      refine ⟨h1.1, fun hlt => ?_⟩
      have := h1.2 (Nat.lt_of_lt_of_le hlt h.size)
      cases this
    · exact hs.lt A hA
  · rw [List.pairwise_append]
    refine ⟨hc.sep, h.sep, fun A hA B hB b hbA hbB => ?_⟩
    have h1 := (hc.lt A hA b hbA).2 (h.lt B hB b hbB).1
    cases h1
/-- A callee that may write to the blocks Mc of the first assertions. -/
theorem HS.callM {Cs Bs : List HA} {Mc : List Nat} (h : HS w0 M (Cs ++ As) w) (hMc : ∀ b ∈ Mc, ∃ A ∈ Cs, b ∈ A.fp) (hc : HS w Mc Bs w') : HS w0 M (Bs ++ As) w' := by
  have hsep := List.pairwise_append.1 h.sep
  have hAs : ∀ A ∈ As, ∀ b ∈ A.fp, b < w.heap.size ∧ b ∉ Mc := fun A hA b hb => ⟨(h.lt A (List.mem_append_right _ hA) b hb).1, fun hm => by
    obtain ⟨B, hB, hbB⟩ := hMc b hm
    exact hsep.2.2 B hB A hA b hbB hb⟩
  refine ⟨hc.os.trans h.os, hc.tape.trans h.tape, hc.output.trans h.output, Nat.le_trans h.size hc.size, fun b hb hm => ?_, fun A hA => ?_, fun A hA b hb => ?_, ?_⟩
  · refine (hc.old b (Nat.lt_of_lt_of_le hb h.size) fun hmc => ?_).trans (h.old b hb hm)
    obtain ⟨B, hB, hbB⟩ := hMc b hmc
    exact hm ((h.lt B (List.mem_append_left _ hB) b hbB).2 hb)
  · rcases List.mem_append.1 hA with hA | hA
    · exact hc.ok A hA
    · exact A.loc w w' (fun b hb => hc.old b (hAs A hA b hb).1 (hAs A hA b hb).2) (h.ok A (List.mem_append_right _ hA))
  · rcases List.mem_append.1 hA with hA | hA
    · have h1 := hc.lt A hA b hb
      refine ⟨h1.1, fun hlt => ?_⟩
      obtain ⟨B, hB, hbB⟩ := hMc b (h1.2 (Nat.lt_of_lt_of_le hlt h.size))
      exact (h.lt B (List.mem_append_left _ hB) b hbB).2 hlt
    · have h1 := h.lt A (List.mem_append_right _ hA) b hb
      exact ⟨Nat.lt_of_lt_of_le h1.1 hc.size, h1.2⟩
  · rw [List.pairwise_append]
    refine ⟨hc.sep, hsep.2.1, fun A hA B hB b hbA hbB => ?_⟩
    exact (hAs B hB b hbB).2 ((hc.lt A hA b hbA).2 (hAs B hB b hbB).1)
theorem HS.sub {As' : List HA} (h : HS w0 M As w) (hs : As'.Sublist As) : HS w0 M As' w :=
  ⟨h.os, h.tape, h.output, h.size, h.old, fun A hA => h.ok A (hs.subset hA), fun A hA => h.lt A (hs.subset hA), h.sep.sublist hs⟩
theorem HS.perm {As' : List HA} (h : HS w0 M As w) (hs : As.Perm As') : HS w0 M As' w :=
  ⟨h.os, h.tape, h.output, h.size, h.old, fun A hA => h.ok A (hs.symm.subset hA), fun A hA => h.lt A (hs.symm.subset hA),
   (hs.pairwise_iff (fun hAB b hbB hbA => hAB b hbA hbB)).1 h.sep⟩
theorem HS.nil (h : HS w0 M As w) : HS w0 M [] w := h.sub (List.nil_sublist _)
/-- A new assertion of the newest block. -/
theorem HS.alloc (h : HS w0 M As w) (o : Obj) (A : HA) (hf : A.fp = [w.heap.size]) (hA : A.ok (w.alloc o)) : HS w0 M (A :: As) (w.alloc o) := by
  refine HS.call (Bs := [A]) h ⟨rfl, rfl, rfl, by simp, fun b hb _ => Below.heap_alloc w o b hb, fun B hB => ?_, fun B hB b hb => ?_, .cons (fun _ h => (by cases h)) .nil⟩
  · rcases List.mem_singleton.1 hB; exact hA
  · rcases List.mem_singleton.1 hB
    rw [hf] at hb
    rcases List.mem_singleton.1 hb
    exact ⟨by simp, fun hlt => absurd hlt (Nat.lt_irrefl _)⟩
/-- The first assertion is replaced: its blocks alone may have changed. -/
theorem HS.swap {A B : HA} (h : HS w0 M (A :: As) w) (hfp : ∀ b ∈ B.fp, b ∈ A.fp) (hos : w'.os = w.os) (htape : w'.tape = w.tape) (hout : w'.output = w.output)
    (hsize : w'.heap.size = w.heap.size) (hold : ∀ b, b ∉ A.fp → w'.heap[b]? = w.heap[b]?) (hB : B.ok w') : HS w0 M (B :: As) w' := by
  have hs := List.pairwise_cons.1 h.sep
  refine ⟨hos.trans h.os, htape.trans h.tape, hout.trans h.output, by rw [hsize]; exact h.size, fun b hb hm => ?_, fun C hC => ?_, fun C hC b hb => ?_, ?_⟩
  · refine (hold b fun hbA => ?_).trans (h.old b hb hm)
    exact hm ((h.lt A (List.mem_cons_self ..) b hbA).2 hb)
  · rcases List.mem_cons.1 hC with rfl | hC
    · exact hB
    · exact C.loc w w' (fun b hb => hold b fun hbA => hs.1 C hC b hbA hb) (h.ok C (List.mem_cons_of_mem _ hC))
  · rw [hsize]
    rcases List.mem_cons.1 hC with rfl | hC
    · exact h.lt A (List.mem_cons_self ..) b (hfp b hb)
    · exact h.lt C (List.mem_cons_of_mem _ hC) b hb
  · exact List.pairwise_cons.2 ⟨fun C hC b hb => hs.1 C hC b (hfp b hb), hs.2⟩
/-- The first assertion says something else of the same world. -/
theorem HS.turn {A B : HA} (h : HS w0 M (A :: As) w) (hfp : ∀ b ∈ B.fp, b ∈ A.fp) (hB : A.ok w → B.ok w) : HS w0 M (B :: As) w :=
  h.swap hfp rfl rfl rfl rfl (fun _ _ => rfl) (hB (h.ok A (List.mem_cons_self ..)))
theorem HS.head {A : HA} (h : HS w0 M (A :: As) w) : A.ok w := h.ok A (List.mem_cons_self ..)
theorem HS.tail {A : HA} (h : HS w0 M (A :: As) w) : HS w0 M As w := h.sub (List.sublist_cons_self _ _)
end

/-! ## An assertion taken out of a list -/
def Pick (As : List HA) (A : HA) (As' : List HA) : Prop := As.Perm (A :: As')
theorem Pick.here {A : HA} {As : List HA} : Pick (A :: As) A As := .refl _
theorem Pick.there {A B : HA} {As As' : List HA} (h : Pick As A As') : Pick (B :: As) A (B :: As') := (List.Perm.cons _ h).trans (.swap ..)
theorem Pick.perm {As : List HA} {A : HA} {As' : List HA} (h : Pick As A As') : As.Perm (A :: As') := h
theorem Pick.mem {As : List HA} {A : HA} {As' : List HA} (h : Pick As A As') : A ∈ As := h.perm.mem_iff.2 (List.mem_cons_self ..)
theorem HS.pick {w0 w : World} {M : List Nat} {As As' : List HA} {A : HA} (h : HS w0 M As w) (hp : Pick As A As') : HS w0 M (A :: As') w := h.perm hp.perm
/-- The same place in the list, another assertion there. -/
def Put (As : List HA) (A B : HA) (As' : List HA) : Prop := ∃ Rs, Pick As A Rs ∧ (B :: Rs).Perm As'
theorem Put.here {A B : HA} {As : List HA} : Put (A :: As) A B (B :: As) := ⟨_, .here, .refl _⟩
theorem Put.there {A B D : HA} {As As' : List HA} (h : Put As A B As') : Put (D :: As) A B (D :: As') := by
  obtain ⟨Rs, h1, h2⟩ := h
  exact ⟨_, .there h1, (List.Perm.swap ..).trans (List.Perm.cons _ h2)⟩
theorem Put.ex {As : List HA} {A B : HA} {As' : List HA} (h : Put As A B As') : ∃ Rs, Pick As A Rs ∧ (B :: Rs).Perm As' := h

/-! ## A block of cells -/
section
variable {w : World} {b : Nat} {t : TypeId} {tot : Nat} {cs : List Value}
theorem BlkOk.cell (h : BlkOk b t tot cs w) {i : Nat} {v : Value} (hv : cs[i]? = some v) : w.cell? ⟨b, i, none⟩ = some v := by
  obtain ⟨cur, fr, h1, _, _, h4, _⟩ := h
  have hi : i < cs.length := by
    rcases Nat.lt_or_ge i cs.length with h' | h'
    · exact h'
    · simp [List.getElem?_eq_none h'] at hv
  simp [World.cell?, h1, h4 i hi, hv]
theorem BlkOk.frozen (h : BlkOk b t tot cs w) {i : Nat} (hi : i < tot) : w.frozen? ⟨b, i, none⟩ = false := by
  obtain ⟨cur, fr, h1, _, _, _, h5⟩ := h
  simp only [World.frozen?, h1]
  obtain ⟨lo, hi'⟩ := fr
  cases hb : (decide (lo ≤ i) && decide (i < hi')) with
  | false => rfl
  | true =>
    simp only [Bool.and_eq_true, decide_eq_true_eq] at hb
    have := h5 i hb.1 hb.2
    omega
theorem BlkOk.unmarked (h : BlkOk b t tot cs w) (ht : t ≠ u8T) : w.frozen? ⟨b, tot, none⟩ = false := by
  obtain ⟨cur, fr, h1, _, _, _, h5⟩ := h
  simp only [World.frozen?, h1]
  obtain ⟨lo, hi'⟩ := fr
  cases hb : (decide (lo ≤ tot) && decide (tot < hi')) with
  | false => rfl
  | true =>
    simp only [Bool.and_eq_true, decide_eq_true_eq] at hb
    have := h5 tot hb.1 hb.2
    rcases this with h | ⟨_, h⟩
    · omega
    · exact absurd h ht
theorem BlkOk.cellsome (h : BlkOk b t tot cs w) {i : Nat} (hi : i < tot) : ∃ v, w.cell? ⟨b, i, none⟩ = some v := by
  obtain ⟨cur, fr, h1, h2, _⟩ := h
  exact ⟨cur[i]'(by omega), by simp [World.cell?, h1, Array.getElem?_eq_getElem (show i < cur.size by omega)]⟩
theorem BlkOk.shape (h : BlkOk b t tot cs w) : w.shape? b = some (t, tot) := by
  obtain ⟨cur, fr, h1, h2, _⟩ := h
  simp [World.shape?, h1, h2]
theorem BlkOk.set (h : BlkOk b t tot cs w) {i : Nat} (hi : i < cs.length) (v : Value) : BlkOk b t tot (cs.set i v) (w.setCell ⟨b, i, none⟩ v) := by
  obtain ⟨cur, fr, h1, h2, h3, h4, h5⟩ := h
  refine ⟨cur.setIfInBounds i v, fr, by simp [World.setCell, Array.getElem?_modify, h1], by simpa using h2, by simpa using h3, fun j hj => ?_, h5⟩
  rw [Array.getElem?_setIfInBounds, List.getElem?_set]
  by_cases e : i = j
  · subst e
    rw [if_pos rfl, if_pos rfl, if_pos (by omega), if_pos (by simpa using hj)]
  · rw [if_neg e, if_neg e]
    exact h4 j (by simpa using hj)
theorem BlkOk.alloc (w : World) (t : TypeId) (cs : Array Value) : BlkOk w.heap.size t cs.size cs.toList (w.alloc (.cells cs t)) :=
  ⟨cs, (0, 0), heap_alloc_new w _, rfl, by simp, fun i _ => by simp, fun _ _ h => absurd h (Nat.not_lt_zero _)⟩
theorem heap_setCell_ne (w : World) (b i : Nat) (v : Value) (k : Nat) (h : k ≠ b) : (w.setCell ⟨b, i, none⟩ v).heap[k]? = w.heap[k]? := Below.heap_setCell _ _ _ _ h
end
section
variable {w0 w : World} {M : List Nat} {As As' : List HA} {b : Nat} {t : TypeId} {tot : Nat} {cs : List Value}
theorem HS.blk_new (h : HS w0 M As w) (t : TypeId) (cs : Array Value) : HS w0 M (.blk w.heap.size t cs.size cs.toList :: As) (w.alloc (.cells cs t)) :=
  h.alloc _ _ rfl (BlkOk.alloc w t cs)
theorem HS.blk_set (h : HS w0 M As w) {i : Nat} {v : Value} (hp : Put As (.blk b t tot cs) (.blk b t tot (cs.set i v)) As') (hi : i < cs.length) : HS w0 M As' (w.setCell ⟨b, i, none⟩ v) := by
  obtain ⟨Rs, h1, h2⟩ := hp.ex
  refine (HS.swap (h.pick h1) (B := .blk b t tot (cs.set i v)) (w' := w.setCell ⟨b, i, none⟩ v) (fun _ h => h) rfl rfl rfl (by simp) (fun k hk => heap_setCell_ne w b i v k (by simpa [HA.fp_blk] using hk)) (BlkOk.set (h.pick h1).head hi v)).perm h2
theorem HS.blk_get (h : HS w0 M As w) (hp : Pick As (.blk b t tot cs) As') : BlkOk b t tot cs w := (h.pick hp).head
end

/-! ## A slice value with a row of its own (or nil) -/
section
variable {w0 w : World} {M : List Nat} {As As' : List HA} {v : Value} {t : TypeId} {sz n : Nat} {xs : List Value}
theorem HS.own_nil (h : HS w0 M As w) (t : TypeId) (sz : Nat) : HS w0 M (.own (.slice none 0 0) t sz 0 [] :: As) w := by
  refine HS.call (Bs := [_]) h ⟨rfl, rfl, rfl, Nat.le_refl _, fun _ _ _ => rfl, fun B hB => ?_, fun B hB b hb => ?_, .cons (fun _ h => (by cases h)) .nil⟩
  · rcases List.mem_singleton.1 hB; exact ⟨by simp, .inl ⟨rfl, rfl⟩⟩
  · rcases List.mem_singleton.1 hB; simp [HA.fp_own, Value.ownBlock] at hb
/-- A row of its own that is not nil, as a block. -/
theorem HS.own_open (h : HS w0 M (.own v t sz n xs :: As) w) (hn : v ≠ .slice none 0 0) : ∃ g cap, v = .slice (some ⟨g, 0, none⟩) n cap ∧ n ≤ cap ∧ cap ≤ maxLen ∧ xs.length = n * sz ∧ HS w0 M (.blk g t (cap * sz) xs :: As) w := by
  obtain ⟨hl, ⟨rfl, _⟩ | ⟨g, cap, rfl, h1, h2, h3⟩⟩ := h.head
  · exact absurd rfl hn
  · exact ⟨g, cap, rfl, h1, h2, hl, h.turn (B := .blk g t (cap * sz) xs) (fun b hb => by simpa [HA.fp_own, HA.fp_blk, Value.ownBlock] using hb) fun _ => h3⟩
theorem HS.own_open' (h : HS w0 M (.own v t sz n xs :: As) w) (hn : 0 < n) : ∃ g cap, v = .slice (some ⟨g, 0, none⟩) n cap ∧ n ≤ cap ∧ cap ≤ maxLen ∧ xs.length = n * sz ∧ HS w0 M (.blk g t (cap * sz) xs :: As) w := by
  obtain ⟨hl, ⟨_, h0⟩ | ⟨g, cap, rfl, h1, h2, h3⟩⟩ := h.head
  · omega
  · exact ⟨g, cap, rfl, h1, h2, hl, h.turn (B := .blk g t (cap * sz) xs) (fun b hb => by simpa [HA.fp_own, HA.fp_blk, Value.ownBlock] using hb) fun _ => h3⟩
/-- .. and back. -/
theorem HS.own_shut {g cap : Nat} (h : HS w0 M (.blk g t (cap * sz) xs :: As) w) (hl : xs.length = n * sz) (hn : n ≤ cap) (hc : cap ≤ maxLen) : HS w0 M (.own (.slice (some ⟨g, 0, none⟩) n cap) t sz n xs :: As) w :=
  h.turn (fun b hb => by simpa [HA.fp_own, HA.fp_blk, Value.ownBlock] using hb) fun hb => ⟨hl, .inr ⟨g, cap, rfl, hn, hc, hb⟩⟩
/-- A slice of the call's own, whatever its form: a length and some cells. -/
theorem OwnOk.form (h : OwnOk v t sz n xs w) : ∃ a cap, v = .slice a n cap ∧ (0 < n → ∃ g, a = some ⟨g, 0, none⟩) := by
  obtain ⟨_, ⟨rfl, rfl⟩ | ⟨g, cap, rfl, _⟩⟩ := h
  · exact ⟨none, 0, rfl, fun h => by omega⟩
  · exact ⟨_, cap, rfl, fun _ => ⟨g, rfl⟩⟩
end

/-! ## What was there before and is not written -/
/-- At address ⟨b, o⟩ in world w stands v, in a block that is not in M. -/
def Rd (w : World) (M : List Nat) (b o : Nat) (v : Value) : Prop := b < w.heap.size ∧ b ∉ M ∧ w.cell? ⟨b, o, none⟩ = some v
theorem HS.rd {w0 w : World} {M : List Nat} {As : List HA} (h : HS w0 M As w) {b o : Nat} {v : Value} (hr : Rd w0 M b o v) : w.cell? ⟨b, o, none⟩ = some v :=
  (World.cell?_of_block (w := w0) (h.old b hr.1 hr.2.1)).trans hr.2.2
/-- A slice that reads as rows of cells. -/
structure Sl (w : World) (M : List Nat) (a : Option Addr) (sz n : Nat) (cell : Nat → List Value) : Prop where
  at_ : 0 < n → ∃ b o, a = some ⟨b, o, none⟩ ∧ ∀ i, i < n → (cell i).length = sz ∧ ∀ j v, (cell i)[j]? = some v → Rd w M b (o + i * sz + j) v
def ab (a : Option Addr) : Nat := match a with | some a => a.block | none => 0
def ao (a : Option Addr) : Nat := match a with | some a => a.off | none => 0
theorem Sl.rd {w : World} {M : List Nat} {a : Option Addr} {sz n : Nat} {cell : Nat → List Value} (h : Sl w M a sz n cell) {i j : Nat} {v : Value} (hi : i < n) (hv : (cell i)[j]? = some v) :
    Rd w M (ab a) (ao a + i * sz + j) v := by
  obtain ⟨b, o, rfl, h2⟩ := h.at_ (by omega)
  exact (h2 i hi).2 j v hv
theorem Sl.some {w : World} {M : List Nat} {a : Option Addr} {sz n : Nat} {cell : Nat → List Value} (h : Sl w M a sz n cell) (hn : 0 < n) : a = .some ⟨ab a, ao a, none⟩ := by
  obtain ⟨b, o, rfl, _⟩ := h.at_ hn
  rfl
/-- What holds of a slice holds in later worlds. -/
theorem Sl.later {w w' : World} {M M' : List Nat} {As : List HA} {a : Option Addr} {sz n : Nat} {cell : Nat → List Value} (h : Sl w M a sz n cell) (hs : HS w M As w')
    (hM : ∀ b, b < w.heap.size → b ∉ M → b ∉ M') : Sl w' M' a sz n cell :=
  ⟨fun hn => by
    obtain ⟨b, o, rfl, h2⟩ := h.at_ hn
    exact ⟨b, o, rfl, fun i hi => ⟨(h2 i hi).1, fun j v hv => by
      have hr := (h2 i hi).2 j v hv
      exact ⟨Nat.lt_of_lt_of_le hr.1 hs.size, hM b hr.1 hr.2.1, hs.rd hr⟩⟩⟩⟩
end Gx
