/- Contracts of the program's functions, proved by walking them with the rules of the Gx texts; without conditions beyond those that each contract names. -/
import Derived.WalkKit
import Derived.Deep.Draws
import Derived.Lib.Strings
import Derived.Laws.BytesArg
import Derived.Laws.IdiomStrings
import Derived.Deep.Quiet
import Derived.ProofKit
import Derived.OpenShut
import Derived.Laws.StructEq
import Derived.ChangeKeysEq
import Derived.Laws.Externs
import Derived.Lib.Overlaps
import Derived.Carry
import Derived.Laws.Small
import Derived.Lib.Bytealg
import Derived.Shelf.Small.Strs
import Derived.Shelf.Strconv.Itoa0
import Derived.Shelf.Strconv.Itoa1
import Derived.Shelf.LaysM
import Derived.Shelf.Strconv.Itoa2
import Derived.Shelf.Strconv.Itoa3
import Derived.Shelf.Strings.Search1
import Derived.Shelf.Strings.Search2
import Derived.Shelf.Strings.Cut
import Derived.Shelf.Strings.Shaped
import Derived.Shelf.Strings.LastIndex
import Derived.Shelf.GgClosure.StringsIndexFunc
import Derived.Ground.GgwProg
import Derived.Shelf.GgClosure.StringsIndexFuncTop
import Derived.Shelf.Strings.Prefix
import Derived.Test.YtfahilpjifjafaaDoorProg
import Derived.KernelRfl
import Derived.Lib.LastIndexByte
import Derived.Lib.ItoaNum
import Derived.Lib.SmallJoins
import Derived.Lib.AppendIntMem
import Derived.Test.YtfahilpjifjafaaDoorTie
import Derived.Test.YtfahilpjifjafaaDoorCards
import Derived.SevenTiedAt
import Derived.LaidMore
import Derived.Stop.Joined
import Derived.Lib.LaidTab
import Derived.Test.YtfahilpjifjafaaDoorP1
namespace Go.Proofs
open Go Go.RowKit Gx
set_option linter.unusedVariables false
set_option linter.unusedSimpArgs false
attribute [local irreducible] Go.Calls Gx.S Gx.O Gx.D Gx.OpP Gx.OpQ Gx.OpH

theorem fn_63 : isFn Tryd.prog 63 = true := by kernel_rfl
theorem fn_62 : isFn Tryd.prog 62 = true := by kernel_rfl


/-- The upper cases of names, as a set. -/
noncomputable def upsU (t : List UInt8) (l : List (List UInt8)) : List (List UInt8) := (l.map (up t)).foldl insK' []
theorem mem_fold {l ks : List (List UInt8)} : ∀ {x}, x ∈ l.foldl insK' ks ↔ x ∈ ks ∨ x ∈ l := by
  induction l generalizing ks with
  | nil => intro x; simp
  | cons a l ih =>
    intro x
    rw [List.foldl_cons, ih]
    unfold insK'
    split
    · rename_i h
      simp only [List.mem_cons]
      constructor
      · rintro (h1 | h1)
        · exact .inl h1
        · exact .inr (.inr h1)
      · rintro (h1 | rfl | h1)
        · exact .inl h1
        · exact .inl h
        · exact .inr h1
    · simp only [List.mem_append, List.mem_cons, List.mem_nil_iff, or_false, or_assoc]
theorem mem_ups {t : List UInt8} {l : List (List UInt8)} (x : List UInt8) : x ∈ upsU t l ↔ x ∈ l.map (up t) := by
  unfold upsU
  rw [mem_fold]
  simp
theorem ups_succ {t : List UInt8} {l : List (List UInt8)} {k : Nat} (h : k < l.length) : upsU t (l.take (k + 1)) = insK' (upsU t (l.take k)) (up t (l.getD k [])) := by
  unfold upsU
  rw [take_succ_getD (d := []) h, List.map_append, List.foldl_append]
  rfl
/-- The error of ShortOf before a name is sought. -/
def shOfE (t s : List UInt8) (l : List (List UInt8)) : Int := if openE t [s] = 0 then if shortS (up t s) = true then 12 else namesE l else openE t [s]

set_option maxRecDepth 20000 in
theorem c63 (w : World) (t : List UInt8) (a : Option Addr) (cap : Nat) (l : List (List UInt8)) (hl : t.length = 128) (hc : ∀ s ∈ l, ∀ c ∈ s, c.toNat < 128) (hs : Vl w a (l.map strV)) (hln : l.length ≤ 1000000) (hml : ∀ s ∈ l, s.length ≤ 1000000) : Calls Tryd.prog 63 #[.string (bs t), .slice a l.length cap] w fun en w' => ∃ g : Nat, en = .returned (.map (some g)) ∧ True ∧ HS w [] [.mp g KS (upsU t l)] w' := by
  refine enter (args := [_, _]) Tryd.func63 Tryd.ntmps63 rfl rfl (HS.refl w []) ?_
  refine s_seq ?_
  refine s_region ?_
  refine o_p (p_pure rfl) rfl ?_
  refine o_nil ?_
  refine s_seq ?_
  refine s_region ?_
  refine o_h (h_makeMap rfl KS) rfl (fun b1 _ => ?_)
  refine o_p (p_pure rfl) rfl ?_
  refine o_nil ?_
  refine s_seq ?_
  refine s_seq ?_
  refine s_region ?_
  refine o_p (p_pure rfl) rfl ?_
  refine o_p (p_len_slice rfl rfl Tryd.underlying29) rfl ?_
  refine o_p (p_pure rfl) rfl ?_
  refine o_nil ?_
  refine s_block ?_
  refine s_loopI (α := Nat) [7, 11, 12, 13, 14, 15, 16, 17, 18, 19] (fun k => [(11, .int .i64 (k : Int))]) (fun k => HS w [] [.mp b1 KS (upsU t (l.take k))]) (fun k => k ≤ l.length) (fun k => l.length - k) 0 (Nat.zero_le _) aSx (fun w h => h.ent aEt) (fun k hk1 => ?_)
  refine s_seq ?_
  refine s_region ?_
  refine o_p (p_pure rfl) rfl ?_
  refine o_nil ?_
  refine s_seq ?_
  refine s_cond rfl (fun h2 => ?_) (fun h2 => ?_)
  · try simp only [decide_eq_true_eq, decide_eq_false_iff_not, Bool.not_eq_true', Bool.not_eq_false', Bool.and_eq_true, Bool.or_eq_true, Bool.and_eq_false_iff, Bool.or_eq_false_iff, Bool.not_true, Bool.not_false] at h2
    have hk : k < l.length := by omega
    have hgm := getD_mem (d := []) hk
    have hst := ups_succ (t := t) hk
    refine s_skip ?_
    refine s_seq ?_
    refine s_block ?_
    refine s_seq ?_
    refine s_region ?_
    refine o_p (p_indexAddr rfl rfl rfl sl_29 (k) (by omega) (by omega) (hs.some (by rw [List.length_map]; omega))) rfl ?_
    refine o_q (q_load_old rfl rfl sz_9 ((hs.rd (str_get' (k := k) hk)))) rfl ?_
    refine o_p (p_pure rfl) rfl ?_
    refine o_nil ?_
    refine s_region ?_
    refine o_p (p_pure rfl) rfl ?_
    refine o_p (p_pure rfl) rfl ?_
    refine o_p (p_pure rfl) rfl ?_
    refine o_q (q_call rfl fn_60 rfl (fun w1 h1 => c60 w1 t (l.getD k []) hl (hc _ hgm) (hml _ hgm))) rfl ?_
    refine o_h0 (h_mapUpdate (K := KS) (.inl rfl) rfl rfl rfl Tryd.underlying86 (key_str Tryd.underlying9) aPt) (fun _ _ => ?_)
    refine o_nil ?_
    refine s_blk ?_
    refine s_region ?_
    refine o_p (p_pure rfl) rfl ?_
    try (refine o_slot (i64w (by omega) (by omega)) ?_)
    refine o_p (p_pure rfl) rfl ?_
    refine o_nil ?_
    exact s_backI (k + 1) (by omega) (by omega) aSx (fun w h => by rw [hst]; exact h.ent aEt)
  · try simp only [decide_eq_true_eq, decide_eq_false_iff_not, Bool.not_eq_true', Bool.not_eq_false', Bool.and_eq_true, Bool.or_eq_true, Bool.and_eq_false_iff, Bool.or_eq_false_iff, Bool.not_true, Bool.not_false] at h2
    obtain rfl : k = l.length := by omega
    rw [List.take_length]
    refine s_exit_to rfl ?_
    refine s_seq ?_
    refine s_region ?_
    refine o_p (p_pure rfl) rfl ?_
    refine o_p (p_pure rfl) rfl ?_
    refine o_nil ?_
    exact s_retv (rs := [.tmp 4]) rfl (.tmp rfl (.nil)) (fun w' h' => ⟨_, rfl, trivial, h'.ent aEt⟩)

set_option maxRecDepth 20000 in
set_option maxHeartbeats 1000000 in
theorem c25 (w : World) (t s : List UInt8) (a : Option Addr) (cap : Nat) (l : List (List UInt8)) (hmt : t.length ≤ 1000000) (hm : s.length ≤ 1000000) (hs : Vl w a (l.map strV)) (hln : l.length ≤ 1000000) (hml : ∀ s ∈ l, s.length ≤ 1000000) (ht : TabOk w) : Calls Tryd.prog 25 #[.string (bs t), .string (bs s), .slice a l.length cap] w fun en w' => en = .returned (.tuple #[.string (bs (if (shOfE t s l) = 0 then (shortU t s (l.map (up t))).1 else [])), .int .i64 (if (shOfE t s l) = 0 then (shortU t s (l.map (up t))).2 else (shOfE t s l))]) ∧ Below w.heap.size w w' := by
  refine enter (args := [_, _, _]) Tryd.func25 Tryd.ntmps25 rfl rfl (HS.refl w []) ?_
  refine s_seq ?_
  refine s_region ?_
  refine o_p (p_pure rfl) rfl ?_
  refine o_p (p_pure rfl) rfl ?_
  refine o_nil ?_
  refine s_seq ?_
  refine s_region ?_
  refine o_p (p_pure rfl) rfl ?_
  refine o_p (p_pure rfl) rfl ?_
  refine o_h (h_buildSlice (cs := [_]) rfl rfl sl_29 zr_9 rfl rfl rfl) rfl (fun b1 _ => ?_)
  refine o_q (q_call rfl fn_59 rfl (fun w1 h1 => c59 w1 t _ _ [s] hmt (h1.vl_blk aPk) (by simp) (by intro x hx; simp only [List.mem_cons, List.mem_nil_iff, or_false] at hx; subst hx; assumption))) rfl ?_
  refine o_p (p_pure rfl) rfl ?_
  refine o_p (p_pure rfl) rfl ?_
  refine o_p (p_pure rfl) rfl ?_
  refine o_p (p_pure rfl) rfl ?_
  refine o_p (p_pure rfl) rfl ?_
  refine o_nil ?_
  refine s_seq ?_
  refine s_seq ?_
  refine s_region ?_
  refine o_p (p_pure rfl) rfl ?_
  refine o_p (p_pure rfl) rfl ?_
  refine o_nil ?_
  refine s_cond rfl (fun h2 => ?_) (fun h2 => ?_)
  · try simp only [decide_eq_true_eq, decide_eq_false_iff_not, Bool.not_eq_true', Bool.not_eq_false', Bool.and_eq_true, Bool.or_eq_true, Bool.and_eq_false_iff, Bool.or_eq_false_iff, Bool.not_true, Bool.not_false] at h2
    have h0 : ¬ openE t [s] = 0 := h2
    have hse : shOfE t s l = openE t [s] := by rw [shOfE, if_neg h0]
    refine s_seq ?_
    refine s_region ?_
    refine o_p (p_pure rfl) rfl ?_
    refine o_p (p_pure rfl) rfl ?_
    refine o_p (p_pure rfl) rfl ?_
    refine o_nil ?_
    exact s_retv (rs := [.tmp 6, .tmp 7]) rfl (.tmp rfl (.tmp rfl (.nil))) (fun w' h' => ⟨by rw [hse, if_neg h0, if_neg h0]; rfl, h'.below⟩)
  · try simp only [decide_eq_true_eq, decide_eq_false_iff_not, Bool.not_eq_true', Bool.not_eq_false', Bool.and_eq_true, Bool.or_eq_true, Bool.and_eq_false_iff, Bool.or_eq_false_iff, Bool.not_true, Bool.not_false] at h2
    have h0 : openE t [s] = 0 := h2
    have ho := openE_ok h0
    have hx := nameE_lt (ho.2 s (by simp))
    have hl := (chkTab_ok ho.1).1
    have hul := up_len t s
    have hse : firstV [.int .i64 (bif !shortS (up t s) then 0 else 12), .int .i64 (namesE l)] = shOfE t s l := by rw [firstV2, shOfE, if_pos h0]; cases shortS (up t s) <;> simp
    refine s_skip ?_
    refine s_seq ?_
    refine s_seq ?_
    refine s_region ?_
    refine o_p (p_pure rfl) rfl ?_
    refine o_p (p_pure rfl) rfl ?_
    refine o_q (q_call rfl fn_60 rfl (fun w1 h1 => c60 w1 t s hl hx hm)) rfl ?_
    refine o_q (q_call rfl fn_22 rfl (fun w1 h1 => c22 w1 (up t s) (by omega))) rfl ?_
    refine o_p (p_pure rfl) rfl ?_
    refine o_q (q_call rfl fn_61 rfl (fun w1 h1 => c61 w1 _ _)) rfl ?_
    refine o_p (p_pure rfl) rfl ?_
    refine o_q (q_call rfl fn_54 rfl (fun w1 h1 => c54 w1 a cap l (hs.later h1) hln hml)) rfl ?_
    refine o_h (h_buildSlice (cs := [_, _]) rfl rfl sl_99 zr_25 rfl rfl rfl) rfl (fun b3 _ => ?_)
    refine o_q (q_call rfl fn_51 rfl (fun w1 h1 => f51 h1 aPk (by rfl) (by rfl) (by decide))) rfl ?_
    refine o_p (p_pure rfl) rfl ?_
    refine o_nil ?_
    refine s_seq ?_
    refine s_region ?_
    refine o_p (p_pure rfl) rfl ?_
    refine o_p (p_pure rfl) rfl ?_
    refine o_nil ?_
    refine s_cond rfl (fun h4 => ?_) (fun h4 => ?_)
    · try simp only [decide_eq_true_eq, decide_eq_false_iff_not, Bool.not_eq_true', Bool.not_eq_false', Bool.and_eq_true, Bool.or_eq_true, Bool.and_eq_false_iff, Bool.or_eq_false_iff, Bool.not_true, Bool.not_false] at h4
      have h1z : ¬ shOfE t s l = 0 := by rw [← hse]; exact h4
      refine s_seq ?_
      refine s_region ?_
      refine o_p (p_pure rfl) rfl ?_
      refine o_p (p_pure rfl) rfl ?_
      refine o_p (p_pure rfl) rfl ?_
      refine o_nil ?_
      exact s_retv (rs := [.tmp 6, .tmp 7]) rfl (.tmp rfl (.tmp rfl (.nil))) (fun w' h' => ⟨by rw [← hse] at h1z ⊢; rw [if_neg h1z, if_neg h1z]; rfl, h'.below⟩)
    · try simp only [decide_eq_true_eq, decide_eq_false_iff_not, Bool.not_eq_true', Bool.not_eq_false', Bool.and_eq_true, Bool.or_eq_true, Bool.and_eq_false_iff, Bool.or_eq_false_iff, Bool.not_true, Bool.not_false] at h4
      have h1z : shOfE t s l = 0 := by rw [← hse]; exact h4
      have hnl : ∀ q ∈ l, ∀ c ∈ q, c.toNat < 128 := by unfold shOfE at h1z; rw [if_pos h0] at h1z; split at h1z; (exact absurd h1z (by decide)); exact fun q hq => nameE_lt ((namesE_ok h1z).2 q hq)
      refine s_skip ?_
      refine s_seq ?_
      refine s_region ?_
      refine o_p (p_pure rfl) rfl ?_
      refine o_p (p_pure rfl) rfl ?_
      refine o_p (p_pure rfl) rfl ?_
      refine o_p (p_pure rfl) rfl ?_
      refine o_h (h_call rfl fn_63 rfl (fun w1 h1 => c63 w1 t a cap l hl hnl (hs.later h1) hln hml)) rfl (fun b5 _ => ?_)
      refine o_q (q_call rfl fn_62 rfl (fun w1 h1 => c62 w1 t s b5 (upsU t l) hl hx hm (h1.mpr aPk) (ht.later h1))) rfl ?_
      refine o_p (p_pure rfl) rfl ?_
      refine o_p (p_pure rfl) rfl ?_
      refine o_p (p_pure rfl) rfl ?_
      refine o_p (p_pure rfl) rfl ?_
      refine o_nil ?_
      exact s_retv (rs := [.tmp 6, .tmp 7]) rfl (.tmp rfl (.tmp rfl (.nil))) (fun w' h' => ⟨by rw [if_pos h1z, if_pos h1z, ← shortU_congr (fun x => mem_ups (t := t) (l := l) x)]; rfl, h'.below⟩)

set_option maxRecDepth 20000 in
theorem c11 (w : World) (a : Option Addr) (cap : Nat) (l : List (List UInt8)) (hs : Vl w a (l.map strV)) (hln : l.length ≤ 9223372036854775807) (hml : ∀ s ∈ l, s.length ≤ 9223372036854775807) : Calls Tryd.prog 11 #[.slice a l.length cap] w fun en w' => en = .returned (.bool (smallU l)) ∧ Below w.heap.size w w' := by
  refine enter (args := [_]) Tryd.func11 Tryd.ntmps11 rfl rfl (HS.refl w []) ?_
  refine s_seq ?_
  refine s_region ?_
  refine o_p (p_pure rfl) rfl ?_
  refine o_nil ?_
  refine s_seq ?_
  refine s_seq ?_
  refine s_region ?_
  refine o_p (p_pure rfl) rfl ?_
  refine o_nil ?_
  refine s_block ?_
  refine s_loopI (α := Nat) [2, 3, 4, 5, 6, 7, 8, 9, 10, 11, 12, 13, 14, 15] (fun k => [(3, .int .i64 (k : Int))]) (fun _ => _) (fun k => k ≤ l.length ∧ (l.take k).all (fun s => decide (s.length ≤ 300)) = true) (fun k => l.length - k) 0 ⟨Nat.zero_le _, rfl⟩ aSx (fun w h => h) (fun k hkk => ?_)
  obtain ⟨hk1, hk2⟩ := hkk
  refine s_seq ?_
  refine s_seq ?_
  refine s_region ?_
  refine o_p (p_pure rfl) rfl ?_
  refine o_p (p_pure rfl) rfl ?_
  refine o_p (p_len_slice rfl rfl Tryd.underlying29) rfl ?_
  refine o_p (p_pure rfl) rfl ?_
  refine o_nil ?_
  refine s_cond rfl (fun h1 => ?_) (fun h1 => ?_)
  · try simp only [decide_eq_true_eq, decide_eq_false_iff_not, Bool.not_eq_true', Bool.not_eq_false', Bool.and_eq_true, Bool.or_eq_true, Bool.and_eq_false_iff, Bool.or_eq_false_iff, Bool.not_true, Bool.not_false] at h1
    have hk : k < l.length := by omega
    have hgm := getD_mem (d := []) hk
    have hst := all_step' (p := fun s => decide (s.length ≤ 300)) hk
    refine s_skip ?_
    refine s_seq ?_
    refine s_block ?_
    refine s_seq ?_
    refine s_region ?_
    refine o_p (p_pure rfl) rfl ?_
    refine o_p (p_pure rfl) rfl ?_
    refine o_p (p_indexAddr rfl rfl rfl sl_29 (k) (by omega) (by omega) (hs.some (by rw [List.length_map]; omega))) rfl ?_
    refine o_q (q_load_old rfl rfl sz_9 ((hs.rd (str_get' (k := k) hk)))) rfl ?_
    refine o_p (p_len_str rfl rfl Tryd.underlying9) rfl ?_
    refine o_p (p_pure rfl) rfl ?_
    refine o_nil ?_
    refine s_cond rfl (fun h2 => ?_) (fun h2 => ?_)
    · try simp only [decide_eq_true_eq, decide_eq_false_iff_not, Bool.not_eq_true', Bool.not_eq_false', Bool.and_eq_true, Bool.or_eq_true, Bool.and_eq_false_iff, Bool.or_eq_false_iff, Bool.not_true, Bool.not_false] at h2
      have hbd : ¬ (l.getD k []).length ≤ 300 := by have hq := h2; omega
      have hf := all_hit' (p := fun s => decide (s.length ≤ 300)) hk (by simpa using hbd)
      refine s_seq ?_
      refine s_region ?_
      refine o_p (p_pure rfl) rfl ?_
      refine o_nil ?_
      exact s_retv (rs := [.tmp 2]) rfl (.tmp rfl (.nil)) (fun w' h' => ⟨by rw [smallU, hf]; rfl, h'.below⟩)
    · try simp only [decide_eq_true_eq, decide_eq_false_iff_not, Bool.not_eq_true', Bool.not_eq_false', Bool.and_eq_true, Bool.or_eq_true, Bool.and_eq_false_iff, Bool.or_eq_false_iff, Bool.not_true, Bool.not_false] at h2
      have hbd : (l.getD k []).length ≤ 300 := by have hq := h2; omega
      refine s_skip ?_
      refine s_blk ?_
      refine s_region ?_
      refine o_p (p_pure rfl) rfl ?_
      refine o_p (p_pure rfl) rfl ?_
      try (refine o_slot (i64w (by omega) (by omega)) ?_)
      refine o_p (p_pure rfl) rfl ?_
      refine o_nil ?_
      exact s_backI (k + 1) (by omega) ⟨by omega, by rw [hst, hk2, decide_eq_true hbd]; rfl⟩ aSx (fun w h => h)
  · try simp only [decide_eq_true_eq, decide_eq_false_iff_not, Bool.not_eq_true', Bool.not_eq_false', Bool.and_eq_true, Bool.or_eq_true, Bool.and_eq_false_iff, Bool.or_eq_false_iff, Bool.not_true, Bool.not_false] at h1
    obtain rfl : k = l.length := by omega
    rw [List.take_length] at hk2
    refine s_exit_to rfl ?_
    refine s_seq ?_
    refine s_region ?_
    refine o_p (p_pure rfl) rfl ?_
    refine o_nil ?_
    exact s_retv (rs := [.tmp 2]) rfl (.tmp rfl (.nil)) (fun w' h' => ⟨by rw [smallU, hk2]; rfl, h'.below⟩)

set_option maxRecDepth 20000 in
theorem c16 (w : World) (a : Option Addr) (cap : Nat) (l : List (List UInt8)) (hs : Vl w a (l.map strV)) (hln : l.length ≤ 9223372036854775807) (hml : ∀ s ∈ l, s.length ≤ 9223372036854775807) : Calls Tryd.prog 16 #[.slice a l.length cap] w fun en w' => en = .returned (.bool (fewU l)) ∧ Below w.heap.size w w' := by
  refine enter (args := [_]) Tryd.func16 Tryd.ntmps16 rfl rfl (HS.refl w []) ?_
  refine s_seq ?_
  refine s_region ?_
  refine o_p (p_pure rfl) rfl ?_
  refine o_nil ?_
  refine s_seq ?_
  refine s_seq ?_
  refine s_region ?_
  refine o_p (p_pure rfl) rfl ?_
  refine o_nil ?_
  refine s_block ?_
  refine s_loopI (α := Nat) [2, 3, 4, 5, 6, 7, 8, 9, 10, 11, 12, 13, 14, 15] (fun k => [(3, .int .i64 (k : Int))]) (fun _ => _) (fun k => k ≤ l.length ∧ (l.take k).all (fun s => decide (s.length ≤ 60)) = true) (fun k => l.length - k) 0 ⟨Nat.zero_le _, rfl⟩ aSx (fun w h => h) (fun k hkk => ?_)
  obtain ⟨hk1, hk2⟩ := hkk
  refine s_seq ?_
  refine s_seq ?_
  refine s_region ?_
  refine o_p (p_pure rfl) rfl ?_
  refine o_p (p_pure rfl) rfl ?_
  refine o_p (p_len_slice rfl rfl Tryd.underlying29) rfl ?_
  refine o_p (p_pure rfl) rfl ?_
  refine o_nil ?_
  refine s_cond rfl (fun h1 => ?_) (fun h1 => ?_)
  · try simp only [decide_eq_true_eq, decide_eq_false_iff_not, Bool.not_eq_true', Bool.not_eq_false', Bool.and_eq_true, Bool.or_eq_true, Bool.and_eq_false_iff, Bool.or_eq_false_iff, Bool.not_true, Bool.not_false] at h1
    have hk : k < l.length := by omega
    have hgm := getD_mem (d := []) hk
    have hst := all_step' (p := fun s => decide (s.length ≤ 60)) hk
    refine s_skip ?_
    refine s_seq ?_
    refine s_block ?_
    refine s_seq ?_
    refine s_region ?_
    refine o_p (p_pure rfl) rfl ?_
    refine o_p (p_pure rfl) rfl ?_
    refine o_p (p_indexAddr rfl rfl rfl sl_29 (k) (by omega) (by omega) (hs.some (by rw [List.length_map]; omega))) rfl ?_
    refine o_q (q_load_old rfl rfl sz_9 ((hs.rd (str_get' (k := k) hk)))) rfl ?_
    refine o_p (p_len_str rfl rfl Tryd.underlying9) rfl ?_
    refine o_p (p_pure rfl) rfl ?_
    refine o_nil ?_
    refine s_cond rfl (fun h2 => ?_) (fun h2 => ?_)
    · try simp only [decide_eq_true_eq, decide_eq_false_iff_not, Bool.not_eq_true', Bool.not_eq_false', Bool.and_eq_true, Bool.or_eq_true, Bool.and_eq_false_iff, Bool.or_eq_false_iff, Bool.not_true, Bool.not_false] at h2
      have hbd : ¬ (l.getD k []).length ≤ 60 := by have hq := h2; omega
      have hf := all_hit' (p := fun s => decide (s.length ≤ 60)) hk (by simpa using hbd)
      refine s_seq ?_
      refine s_region ?_
      refine o_p (p_pure rfl) rfl ?_
      refine o_nil ?_
      exact s_retv (rs := [.tmp 2]) rfl (.tmp rfl (.nil)) (fun w' h' => ⟨by rw [fewU, hf]; rfl, h'.below⟩)
    · try simp only [decide_eq_true_eq, decide_eq_false_iff_not, Bool.not_eq_true', Bool.not_eq_false', Bool.and_eq_true, Bool.or_eq_true, Bool.and_eq_false_iff, Bool.or_eq_false_iff, Bool.not_true, Bool.not_false] at h2
      have hbd : (l.getD k []).length ≤ 60 := by have hq := h2; omega
      refine s_skip ?_
      refine s_blk ?_
      refine s_region ?_
      refine o_p (p_pure rfl) rfl ?_
      refine o_p (p_pure rfl) rfl ?_
      try (refine o_slot (i64w (by omega) (by omega)) ?_)
      refine o_p (p_pure rfl) rfl ?_
      refine o_nil ?_
      exact s_backI (k + 1) (by omega) ⟨by omega, by rw [hst, hk2, decide_eq_true hbd]; rfl⟩ aSx (fun w h => h)
  · try simp only [decide_eq_true_eq, decide_eq_false_iff_not, Bool.not_eq_true', Bool.not_eq_false', Bool.and_eq_true, Bool.or_eq_true, Bool.and_eq_false_iff, Bool.or_eq_false_iff, Bool.not_true, Bool.not_false] at h1
    obtain rfl : k = l.length := by omega
    rw [List.take_length] at hk2
    refine s_exit_to rfl ?_
    refine s_seq ?_
    refine s_region ?_
    refine o_p (p_pure rfl) rfl ?_
    refine o_p (p_len_slice rfl rfl Tryd.underlying29) rfl ?_
    refine o_p (p_pure rfl) rfl ?_
    refine o_p (p_pure rfl) rfl ?_
    refine o_nil ?_
    exact s_retv (rs := [.tmp 2]) rfl (.tmp rfl (.nil)) (fun w' h' => ⟨by rw [fewU, hk2, Bool.true_and, ← decide_eq_decide.2 (show ((l.length : Int) ≤ 210) ↔ l.length ≤ 210 by omega)]; rfl, h'.below⟩)

end Go.Proofs

namespace Go.Proofs
open Go Go.RowKit Gx
set_option linter.unusedVariables false
set_option linter.unusedSimpArgs false
attribute [local irreducible] Go.Calls Gx.S Gx.O Gx.D Gx.OpP Gx.OpQ Gx.OpH

theorem fn_38 : isFn Tryd.prog 38 = true := by kernel_rfl
theorem fn_25 : isFn Tryd.prog 25 = true := by kernel_rfl
theorem fn_39 : isFn Tryd.prog 39 = true := by kernel_rfl
theorem fn_15 : isFn Tryd.prog 15 = true := by kernel_rfl
theorem fn_42 : isFn Tryd.prog 42 = true := by kernel_rfl
theorem fn_24 : isFn Tryd.prog 24 = true := by kernel_rfl


theorem a25 (w : World) (a : Option Addr) (cap : Nat) (hs : Vl w a ([exT].map strV)) (ht : TabOk w) : Calls Tryd.prog 25 #[.string (bs stdT), .string (bs exS), .slice a 1 cap] w fun en w' => en = .returned (.tuple #[.string (bs [82, 69, 65, 68, 77, 69, 126, 50, 46, 84, 69, 88]), .int .i64 0]) ∧ Below w.heap.size w w' := by
  have h := c25 w stdT exS a cap [exT] (by rw [stdT_len]; decide) (by decide) hs (by decide) (by decide) ht
  rw [show shOfE stdT exS [exT] = 0 by decide +kernel, if_pos rfl, if_pos rfl, ex_short] at h
  exact h
theorem a39 (w : World) : Calls Tryd.prog 39 #[.string (bs stdT), .string (bs [98]), .string (bs [67])] w fun en w' => en = .returned (.tuple #[.int .i64 (-1), .int .i64 0]) ∧ Below w.heap.size w w' := by
  have h := c39 w stdT [98] [67] (by rw [stdT_len]; decide) (by decide) (by decide)
  rw [show openE stdT [[98], [67]] = 0 by decide +kernel, if_pos rfl, ex_cmp] at h
  exact h
theorem a15 (w : World) : Calls Tryd.prog 15 #[.string (bs stdT), .string (bs [42, 46, 116, 63, 116]), .string (bs [88, 46, 84, 79, 84])] w fun en w' => en = .returned (.tuple #[.bool true, .int .i64 0]) ∧ Below w.heap.size w w' := by
  have h := c15 w stdT [42, 46, 116, 63, 116] [88, 46, 84, 79, 84] (by rw [stdT_len]; decide) (by decide) (by decide)
  rw [show matE stdT [42, 46, 116, 63, 116] [88, 46, 84, 79, 84] = 0 by decide +kernel, if_pos rfl, ex_match] at h
  exact h
theorem a42 (w : World) : Calls Tryd.prog 42 #[.string (bs stdT), .string (bs [97, 98])] w fun en w' => en = .returned (.tuple #[.int .i64 2471, .int .i64 0]) ∧ Below w.heap.size w w' := by
  have h := c42 w stdT [97, 98] (by rw [stdT_len]; decide) (by decide)
  rw [show openE stdT [[97, 98]] = 0 by decide +kernel, if_pos rfl, show (up stdT [97, 98]).foldl hStep 0 = 2471 by decide +kernel] at h
  exact h
theorem a24 (w : World) : Calls Tryd.prog 24 #[.string (bs stdT), .string (bs [70, 73, 76, 69, 46, 84, 88, 84])] w fun en w' => en = .returned (.tuple #[.bool false, .int .i64 0]) ∧ Below w.heap.size w w' := by
  have h := c24 w stdT [70, 73, 76, 69, 46, 84, 88, 84] (by rw [stdT_len]; decide) (by decide)
  rw [show openE stdT [[70, 73, 76, 69, 46, 84, 88, 84]] = 0 by decide +kernel, if_pos rfl, show shortS (up stdT [70, 73, 76, 69, 46, 84, 88, 84]) = true by decide +kernel] at h
  exact h
theorem a22 (w : World) : Calls Tryd.prog 22 #[.string (bs [65, 126, 49, 46, 66])] w fun en w' => en = .returned (.bool true) ∧ Below w.heap.size w w' := by
  have h := c22 w [65, 126, 49, 46, 66] (by decide)
  rw [show shortS [65, 126, 49, 46, 66] = true by decide +kernel] at h
  exact h

set_option maxRecDepth 20000 in
theorem c10 (w : World)  (ht : TabOk w) : Calls Tryd.prog 10 #[] w fun en w' => en = .returned (.bool true) ∧ Below w.heap.size w w' := by
  refine enter (args := []) Tryd.func10 Tryd.ntmps10 rfl rfl (HS.refl w []) ?_
  refine s_seq ?_
  refine s_region ?_
  refine o_p (p_pure rfl) rfl ?_
  refine o_nil ?_
  refine s_seq ?_
  refine s_region ?_
  refine o_q (q_call rfl fn_43 rfl (fun w1 h1 => c43 w1)) rfl ?_
  refine o_p (p_pure rfl) rfl ?_
  refine o_nil ?_
  refine s_seq ?_
  refine s_seq ?_
  refine s_region ?_
  refine o_p (p_pure rfl) rfl ?_
  refine o_q (q_call rfl fn_38 rfl (fun w1 h1 => c38 w1)) rfl ?_
  refine o_p (p_pure rfl) rfl ?_
  refine o_nil ?_
  refine s_cond rfl (fun h1 => ?_) (fun h1 => ?_)
  · try simp only [decide_eq_true_eq, decide_eq_false_iff_not, Bool.not_eq_true', Bool.not_eq_false', Bool.and_eq_true, Bool.or_eq_true, Bool.and_eq_false_iff, Bool.or_eq_false_iff, Bool.not_true, Bool.not_false] at h1
    exfalso; exact h1 trivial
  · try simp only [decide_eq_true_eq, decide_eq_false_iff_not, Bool.not_eq_true', Bool.not_eq_false', Bool.and_eq_true, Bool.or_eq_true, Bool.and_eq_false_iff, Bool.or_eq_false_iff, Bool.not_true, Bool.not_false] at h1
    refine s_skip ?_
    refine s_seq ?_
    refine s_region ?_
    refine o_p (p_pure rfl) rfl ?_
    refine o_h (h_buildSlice (cs := [_]) rfl rfl sl_29 zr_9 rfl rfl rfl) rfl (fun b2 _ => ?_)
    refine o_q (q_call rfl fn_25 rfl (fun w1 h1 => a25 w1 _ _ (h1.vl_blk aPk) (ht.later h1))) rfl ?_
    refine o_p (p_pure rfl) rfl ?_
    refine o_p (p_pure rfl) rfl ?_
    refine o_p (p_pure rfl) rfl ?_
    refine o_p (p_pure rfl) rfl ?_
    refine o_p (p_pure rfl) rfl ?_
    refine o_nil ?_
    refine s_seq ?_
    refine s_region ?_
    refine o_p (p_pure rfl) rfl ?_
    refine o_q (q_call rfl fn_39 rfl (fun w1 h1 => a39 w1)) rfl ?_
    refine o_p (p_pure rfl) rfl ?_
    refine o_p (p_pure rfl) rfl ?_
    refine o_p (p_pure rfl) rfl ?_
    refine o_p (p_pure rfl) rfl ?_
    refine o_p (p_pure rfl) rfl ?_
    refine o_nil ?_
    refine s_seq ?_
    refine s_region ?_
    refine o_p (p_pure rfl) rfl ?_
    refine o_q (q_call rfl fn_15 rfl (fun w1 h1 => a15 w1)) rfl ?_
    refine o_p (p_pure rfl) rfl ?_
    refine o_p (p_pure rfl) rfl ?_
    refine o_p (p_pure rfl) rfl ?_
    refine o_p (p_pure rfl) rfl ?_
    refine o_p (p_pure rfl) rfl ?_
    refine o_nil ?_
    refine s_seq ?_
    refine s_region ?_
    refine o_p (p_pure rfl) rfl ?_
    refine o_q (q_call rfl fn_42 rfl (fun w1 h1 => a42 w1)) rfl ?_
    refine o_p (p_pure rfl) rfl ?_
    refine o_p (p_pure rfl) rfl ?_
    refine o_p (p_pure rfl) rfl ?_
    refine o_p (p_pure rfl) rfl ?_
    refine o_p (p_pure rfl) rfl ?_
    refine o_nil ?_
    refine s_seq ?_
    refine s_weaken (L' := [(0, _), (1, _), (2, _), (3, _), (4, _), (5, _), (6, _), (7, _), (8, _), (9, _)]) aSx (fun _ h => h) ?_
    refine s_region ?_
    refine o_p (p_pure rfl) rfl ?_
    refine o_q (q_call rfl fn_24 rfl (fun w1 h1 => a24 w1)) rfl ?_
    refine o_p (p_pure rfl) rfl ?_
    refine o_p (p_pure rfl) rfl ?_
    refine o_p (p_pure rfl) rfl ?_
    refine o_p (p_pure rfl) rfl ?_
    refine o_p (p_pure rfl) rfl ?_
    refine o_nil ?_
    refine s_seq ?_
    refine s_region ?_
    refine o_p (p_pure rfl) rfl ?_
    refine o_p (p_pure rfl) rfl ?_
    refine o_p (p_pure rfl) rfl ?_
    refine o_and 3 44 47 _ _ rfl
      (by
        intro hg3
        have hs4 := hg3; try simp only [decide_eq_true_eq, decide_eq_false_iff_not, Bool.not_eq_true', Bool.not_eq_false', Bool.and_eq_true, Bool.or_eq_true, Bool.and_eq_false_iff, Bool.or_eq_false_iff, Bool.not_true, Bool.not_false] at hs4
        refine o_on 44 _ rfl rfl hg3 ?_
        refine o_p (p_pure rfl) rfl ?_
        refine o_on 44 _ rfl rfl hg3 ?_
        refine o_p (p_pure rfl) rfl ?_
        refine o_p (p_pickt rfl rfl hg3 rfl) rfl ?_
        refine o_nil ?_
        exact s_joinN 3 47 _ rfl rfl rfl (fun w h => by first | exact h | exact h.ent aEt))
      (by
        intro hg5
        have hs6 := hg5; try simp only [decide_eq_true_eq, decide_eq_false_iff_not, Bool.not_eq_true', Bool.not_eq_false', Bool.and_eq_true, Bool.or_eq_true, Bool.and_eq_false_iff, Bool.or_eq_false_iff, Bool.not_true, Bool.not_false] at hs6
        refine o_off 44 _ rfl rfl hg5 rfl ?_
        refine o_off 44 _ rfl rfl hg5 rfl ?_
        refine o_p (p_pickf rfl rfl hg5 rfl) rfl ?_
        refine o_nil ?_
        exact s_joinN 3 47 _ rfl rfl rfl (fun w h => by first | exact h | exact h.ent aEt)) ?_
    refine o_p (p_pure rfl) rfl ?_
    refine o_and 3 48 51 _ _ rfl
      (by
        intro hg7
        have hs8 := hg7; try simp only [decide_eq_true_eq, decide_eq_false_iff_not, Bool.not_eq_true', Bool.not_eq_false', Bool.and_eq_true, Bool.or_eq_true, Bool.and_eq_false_iff, Bool.or_eq_false_iff, Bool.not_true, Bool.not_false] at hs8
        refine o_on 48 _ rfl rfl hg7 ?_
        refine o_p (p_pure rfl) rfl ?_
        refine o_on 48 _ rfl rfl hg7 ?_
        refine o_p (p_pure rfl) rfl ?_
        refine o_p (p_pickt rfl rfl hg7 rfl) rfl ?_
        refine o_nil ?_
        exact s_joinN 3 51 _ rfl rfl rfl (fun w h => by first | exact h | exact h.ent aEt))
      (by
        intro hg9
        have hs10 := hg9; try simp only [decide_eq_true_eq, decide_eq_false_iff_not, Bool.not_eq_true', Bool.not_eq_false', Bool.and_eq_true, Bool.or_eq_true, Bool.and_eq_false_iff, Bool.or_eq_false_iff, Bool.not_true, Bool.not_false] at hs10
        refine o_off 48 _ rfl rfl hg9 rfl ?_
        refine o_off 48 _ rfl rfl hg9 rfl ?_
        refine o_p (p_pickf rfl rfl hg9 rfl) rfl ?_
        refine o_nil ?_
        exact s_joinN 3 51 _ rfl rfl rfl (fun w h => by first | exact h | exact h.ent aEt)) ?_
    refine o_p (p_pure rfl) rfl ?_
    refine o_and 3 52 55 _ _ rfl
      (by
        intro hg11
        have hs12 := hg11; try simp only [decide_eq_true_eq, decide_eq_false_iff_not, Bool.not_eq_true', Bool.not_eq_false', Bool.and_eq_true, Bool.or_eq_true, Bool.and_eq_false_iff, Bool.or_eq_false_iff, Bool.not_true, Bool.not_false] at hs12
        refine o_on 52 _ rfl rfl hg11 ?_
        refine o_p (p_pure rfl) rfl ?_
        refine o_on 52 _ rfl rfl hg11 ?_
        refine o_p (p_pure rfl) rfl ?_
        refine o_p (p_pickt rfl rfl hg11 rfl) rfl ?_
        refine o_nil ?_
        exact s_joinN 3 55 _ rfl rfl rfl (fun w h => by first | exact h | exact h.ent aEt))
      (by
        intro hg13
        have hs14 := hg13; try simp only [decide_eq_true_eq, decide_eq_false_iff_not, Bool.not_eq_true', Bool.not_eq_false', Bool.and_eq_true, Bool.or_eq_true, Bool.and_eq_false_iff, Bool.or_eq_false_iff, Bool.not_true, Bool.not_false] at hs14
        refine o_off 52 _ rfl rfl hg13 rfl ?_
        refine o_off 52 _ rfl rfl hg13 rfl ?_
        refine o_p (p_pickf rfl rfl hg13 rfl) rfl ?_
        refine o_nil ?_
        exact s_joinN 3 55 _ rfl rfl rfl (fun w h => by first | exact h | exact h.ent aEt)) ?_
    refine o_p (p_pure rfl) rfl ?_
    refine o_and 3 56 59 _ _ rfl
      (by
        intro hg15
        have hs16 := hg15; try simp only [decide_eq_true_eq, decide_eq_false_iff_not, Bool.not_eq_true', Bool.not_eq_false', Bool.and_eq_true, Bool.or_eq_true, Bool.and_eq_false_iff, Bool.or_eq_false_iff, Bool.not_true, Bool.not_false] at hs16
        refine o_on 56 _ rfl rfl hg15 ?_
        refine o_p (p_pure rfl) rfl ?_
        refine o_on 56 _ rfl rfl hg15 ?_
        refine o_p (p_pure rfl) rfl ?_
        refine o_p (p_pickt rfl rfl hg15 rfl) rfl ?_
        refine o_nil ?_
        exact s_joinN 3 59 _ rfl rfl rfl (fun w h => by first | exact h | exact h.ent aEt))
      (by
        intro hg17
        have hs18 := hg17; try simp only [decide_eq_true_eq, decide_eq_false_iff_not, Bool.not_eq_true', Bool.not_eq_false', Bool.and_eq_true, Bool.or_eq_true, Bool.and_eq_false_iff, Bool.or_eq_false_iff, Bool.not_true, Bool.not_false] at hs18
        refine o_off 56 _ rfl rfl hg17 rfl ?_
        refine o_off 56 _ rfl rfl hg17 rfl ?_
        refine o_p (p_pickf rfl rfl hg17 rfl) rfl ?_
        refine o_nil ?_
        exact s_joinN 3 59 _ rfl rfl rfl (fun w h => by first | exact h | exact h.ent aEt)) ?_
    refine o_p (p_pure rfl) rfl ?_
    refine o_and 2 60 62 _ _ rfl
      (by
        intro hg19
        have hs20 := hg19; try simp only [decide_eq_true_eq, decide_eq_false_iff_not, Bool.not_eq_true', Bool.not_eq_false', Bool.and_eq_true, Bool.or_eq_true, Bool.and_eq_false_iff, Bool.or_eq_false_iff, Bool.not_true, Bool.not_false] at hs20
        refine o_on 60 _ rfl rfl hg19 ?_
        refine o_p (p_pure rfl) rfl ?_
        refine o_p (p_pickt rfl rfl hg19 rfl) rfl ?_
        refine o_nil ?_
        exact s_joinN 2 62 _ rfl rfl rfl (fun w h => by first | exact h | exact h.ent aEt))
      (by
        intro hg21
        have hs22 := hg21; try simp only [decide_eq_true_eq, decide_eq_false_iff_not, Bool.not_eq_true', Bool.not_eq_false', Bool.and_eq_true, Bool.or_eq_true, Bool.and_eq_false_iff, Bool.or_eq_false_iff, Bool.not_true, Bool.not_false] at hs22
        refine o_off 60 _ rfl rfl hg21 rfl ?_
        refine o_p (p_pickf rfl rfl hg21 rfl) rfl ?_
        refine o_nil ?_
        exact s_joinN 2 62 _ rfl rfl rfl (fun w h => by first | exact h | exact h.ent aEt)) ?_
    refine o_p (p_pure rfl) rfl ?_
    refine o_and 3 63 66 _ _ rfl
      (by
        intro hg23
        have hs24 := hg23; try simp only [decide_eq_true_eq, decide_eq_false_iff_not, Bool.not_eq_true', Bool.not_eq_false', Bool.and_eq_true, Bool.or_eq_true, Bool.and_eq_false_iff, Bool.or_eq_false_iff, Bool.not_true, Bool.not_false] at hs24
        refine o_on 63 _ rfl rfl hg23 ?_
        refine o_p (p_pure rfl) rfl ?_
        refine o_on 63 _ rfl rfl hg23 ?_
        refine o_p (p_pure rfl) rfl ?_
        refine o_p (p_pickt rfl rfl hg23 rfl) rfl ?_
        refine o_nil ?_
        exact s_joinN 3 66 _ rfl rfl rfl (fun w h => by first | exact h | exact h.ent aEt))
      (by
        intro hg25
        have hs26 := hg25; try simp only [decide_eq_true_eq, decide_eq_false_iff_not, Bool.not_eq_true', Bool.not_eq_false', Bool.and_eq_true, Bool.or_eq_true, Bool.and_eq_false_iff, Bool.or_eq_false_iff, Bool.not_true, Bool.not_false] at hs26
        refine o_off 63 _ rfl rfl hg25 rfl ?_
        refine o_off 63 _ rfl rfl hg25 rfl ?_
        refine o_p (p_pickf rfl rfl hg25 rfl) rfl ?_
        refine o_nil ?_
        exact s_joinN 3 66 _ rfl rfl rfl (fun w h => by first | exact h | exact h.ent aEt)) ?_
    refine o_p (p_pure rfl) rfl ?_
    refine o_and 3 67 70 _ _ rfl
      (by
        intro hg27
        have hs28 := hg27; try simp only [decide_eq_true_eq, decide_eq_false_iff_not, Bool.not_eq_true', Bool.not_eq_false', Bool.and_eq_true, Bool.or_eq_true, Bool.and_eq_false_iff, Bool.or_eq_false_iff, Bool.not_true, Bool.not_false] at hs28
        refine o_on 67 _ rfl rfl hg27 ?_
        refine o_p (p_pure rfl) rfl ?_
        refine o_on 67 _ rfl rfl hg27 ?_
        refine o_p (p_pure rfl) rfl ?_
        refine o_p (p_pickt rfl rfl hg27 rfl) rfl ?_
        refine o_nil ?_
        exact s_joinN 3 70 _ rfl rfl rfl (fun w h => by first | exact h | exact h.ent aEt))
      (by
        intro hg29
        have hs30 := hg29; try simp only [decide_eq_true_eq, decide_eq_false_iff_not, Bool.not_eq_true', Bool.not_eq_false', Bool.and_eq_true, Bool.or_eq_true, Bool.and_eq_false_iff, Bool.or_eq_false_iff, Bool.not_true, Bool.not_false] at hs30
        refine o_off 67 _ rfl rfl hg29 rfl ?_
        refine o_off 67 _ rfl rfl hg29 rfl ?_
        refine o_p (p_pickf rfl rfl hg29 rfl) rfl ?_
        refine o_nil ?_
        exact s_joinN 3 70 _ rfl rfl rfl (fun w h => by first | exact h | exact h.ent aEt)) ?_
    refine o_p (p_pure rfl) rfl ?_
    refine o_and 3 71 74 _ _ rfl
      (by
        intro hg31
        have hs32 := hg31; try simp only [decide_eq_true_eq, decide_eq_false_iff_not, Bool.not_eq_true', Bool.not_eq_false', Bool.and_eq_true, Bool.or_eq_true, Bool.and_eq_false_iff, Bool.or_eq_false_iff, Bool.not_true, Bool.not_false] at hs32
        refine o_on 71 _ rfl rfl hg31 ?_
        refine o_p (p_pure rfl) rfl ?_
        refine o_on 71 _ rfl rfl hg31 ?_
        refine o_p (p_pure rfl) rfl ?_
        refine o_p (p_pickt rfl rfl hg31 rfl) rfl ?_
        refine o_nil ?_
        exact s_joinN 3 74 _ rfl rfl rfl (fun w h => by first | exact h | exact h.ent aEt))
      (by
        intro hg33
        have hs34 := hg33; try simp only [decide_eq_true_eq, decide_eq_false_iff_not, Bool.not_eq_true', Bool.not_eq_false', Bool.and_eq_true, Bool.or_eq_true, Bool.and_eq_false_iff, Bool.or_eq_false_iff, Bool.not_true, Bool.not_false] at hs34
        refine o_off 71 _ rfl rfl hg33 rfl ?_
        refine o_off 71 _ rfl rfl hg33 rfl ?_
        refine o_p (p_pickf rfl rfl hg33 rfl) rfl ?_
        refine o_nil ?_
        exact s_joinN 3 74 _ rfl rfl rfl (fun w h => by first | exact h | exact h.ent aEt)) ?_
    refine o_p (p_pure rfl) rfl ?_
    refine o_and 3 75 78 _ _ rfl
      (by
        intro hg35
        have hs36 := hg35; try simp only [decide_eq_true_eq, decide_eq_false_iff_not, Bool.not_eq_true', Bool.not_eq_false', Bool.and_eq_true, Bool.or_eq_true, Bool.and_eq_false_iff, Bool.or_eq_false_iff, Bool.not_true, Bool.not_false] at hs36
        refine o_on 75 _ rfl rfl hg35 ?_
        refine o_p (p_pure rfl) rfl ?_
        refine o_on 75 _ rfl rfl hg35 ?_
        refine o_p (p_pure rfl) rfl ?_
        refine o_p (p_pickt rfl rfl hg35 rfl) rfl ?_
        refine o_nil ?_
        exact s_joinN 3 78 _ rfl rfl rfl (fun w h => by first | exact h | exact h.ent aEt))
      (by
        intro hg37
        have hs38 := hg37; try simp only [decide_eq_true_eq, decide_eq_false_iff_not, Bool.not_eq_true', Bool.not_eq_false', Bool.and_eq_true, Bool.or_eq_true, Bool.and_eq_false_iff, Bool.or_eq_false_iff, Bool.not_true, Bool.not_false] at hs38
        refine o_off 75 _ rfl rfl hg37 rfl ?_
        refine o_off 75 _ rfl rfl hg37 rfl ?_
        refine o_p (p_pickf rfl rfl hg37 rfl) rfl ?_
        refine o_nil ?_
        exact s_joinN 3 78 _ rfl rfl rfl (fun w h => by first | exact h | exact h.ent aEt)) ?_
    refine o_p (p_pure rfl) rfl ?_
    refine o_and 2 79 81 _ _ rfl
      (by
        intro hg39
        have hs40 := hg39; try simp only [decide_eq_true_eq, decide_eq_false_iff_not, Bool.not_eq_true', Bool.not_eq_false', Bool.and_eq_true, Bool.or_eq_true, Bool.and_eq_false_iff, Bool.or_eq_false_iff, Bool.not_true, Bool.not_false] at hs40
        refine o_on 79 _ rfl rfl hg39 ?_
        refine o_q (q_call rfl fn_22 rfl (fun w1 h1 => a22 w1)) rfl ?_
        refine o_p (p_pickt rfl rfl hg39 rfl) rfl ?_
        refine o_nil ?_
        exact s_joinN 2 81 _ rfl rfl rfl (fun w h => by first | exact h | exact h.ent aEt))
      (by
        intro hg41
        have hs42 := hg41; try simp only [decide_eq_true_eq, decide_eq_false_iff_not, Bool.not_eq_true', Bool.not_eq_false', Bool.and_eq_true, Bool.or_eq_true, Bool.and_eq_false_iff, Bool.or_eq_false_iff, Bool.not_true, Bool.not_false] at hs42
        refine o_off 79 _ rfl rfl hg41 rfl ?_
        refine o_p (p_pickf rfl rfl hg41 rfl) rfl ?_
        refine o_nil ?_
        exact s_joinN 2 81 _ rfl rfl rfl (fun w h => by first | exact h | exact h.ent aEt)) ?_
    refine o_p (p_pure rfl) rfl ?_
    refine o_nil ?_
    exact s_retv (rs := [.tmp 0]) rfl (.tmp rfl (.nil)) (fun w' h' => ⟨by rfl, h'.below⟩)

end Go.Proofs

/- Chapter 5, plain: what a pattern matches (the statement NamesMatch). No program here. -/
namespace Go.Proofs
open Go Go.RowKit Gx
set_option linter.unusedVariables false
/-- A star in the place of a question mark. -/
def wdB (c : UInt8) : UInt8 := if c = 63 then 42 else c
end Go.Proofs

namespace Go.Proofs
open Go Go.RowKit Gx
set_option linter.unusedVariables false
set_option linter.unusedSimpArgs false
attribute [local irreducible] Go.Calls Gx.S Gx.O Gx.D Gx.OpP Gx.OpQ Gx.OpH

theorem fn_10 : isFn Tryd.prog 10 = true := by kernel_rfl
theorem fn_11 : isFn Tryd.prog 11 = true := by kernel_rfl
theorem fn_12 : isFn Tryd.prog 12 = true := by kernel_rfl
theorem fn_13 : isFn Tryd.prog 13 = true := by kernel_rfl


theorem matE_0 {t p s : List UInt8} (h1 : (chkTab t).2 = 0) (h2 : patE p = 0) (h3 : nameE s = 0) : matE t p s = 0 := by rw [matE, if_pos h1, if_pos h2, h3]
theorem sm2 {t p : List UInt8} (h : smallU [t, p] = true) : t.length ≤ 300 ∧ p.length ≤ 300 := by simpa [smallU] using h

end Go.Proofs

namespace Go.Proofs
open Go Go.RowKit Gx
set_option linter.unusedVariables false
set_option linter.unusedSimpArgs false
attribute [local irreducible] Go.Calls Gx.S Gx.O Gx.D Gx.OpP Gx.OpQ Gx.OpH

def dTo (t s : List UInt8) (k : Nat) : Int := if (chkTab t).2 = 0 then if hiB (s.take k) = true then 2 else 0 else (chkTab t).2
end Go.Proofs

/- Chapter 5, plain: upper case and order (the statement NamesUpper). No program here. -/
namespace Go.Proofs
open Go Go.RowKit Gx
set_option linter.unusedVariables false
/-! ## Names in their order -/
end Go.Proofs

namespace Go.Proofs
open Go Go.RowKit Gx
set_option linter.unusedVariables false
set_option linter.unusedSimpArgs false
attribute [local irreducible] Go.Calls Gx.S Gx.O Gx.D Gx.OpP Gx.OpQ Gx.OpH

end Go.Proofs

namespace Go.Proofs
open Go Go.RowKit Gx
set_option linter.unusedVariables false
set_option linter.unusedSimpArgs false
attribute [local irreducible] Go.Calls Gx.S Gx.O Gx.D Gx.OpP Gx.OpQ Gx.OpH

theorem fn_16 : isFn Tryd.prog 16 = true := by kernel_rfl
theorem fn_18 : isFn Tryd.prog 18 = true := by kernel_rfl
theorem fn_17 : isFn Tryd.prog 17 = true := by kernel_rfl
theorem fn_19 : isFn Tryd.prog 19 = true := by kernel_rfl
theorem fn_20 : isFn Tryd.prog 20 = true := by kernel_rfl
theorem fn_21 : isFn Tryd.prog 21 = true := by kernel_rfl


theorem str_one (l : List (List UInt8)) : ∀ u ∈ l.map strV, u.oneCell' = true := by
  intro u hu
  obtain ⟨x, _, rfl⟩ := List.mem_map.1 hu
  rfl
theorem na_get {ns : List Nat} {k : Nat} (h : k < ns.length) : (ns.map naV)[k]? = some (.int .i64 (ns.getD k 0 : Nat)) := by
  simp [List.getD_eq_getElem?_getD, List.getElem?_eq_getElem h, naV]

set_option maxRecDepth 20000 in
theorem c18 (w : World) (a : Option Addr) (cap : Nat) (l : List (List UInt8)) (hs : Vl w a (l.map strV)) (hm : l.length ≤ 1000000) : Calls Tryd.prog 18 #[.slice a l.length cap] w fun en w' => ∃ g : Option Addr × Nat, en = .returned (.slice g.1 l.length g.2) ∧ True ∧ HS w [] [.own (.slice g.1 l.length g.2) 9 1 l.length (l.map strV)] w' := by
  refine enter (args := [_]) Tryd.func18 Tryd.ntmps18 rfl rfl (HS.refl w []) ?_
  refine s_seq ?_
  refine s_region ?_
  refine o_p (p_pure rfl) rfl ?_
  refine o_nil ?_
  refine s_seq ?_
  refine s_region ?_
  refine o_h (h_buildSlice0 rfl sl_29) rfl (fun b1 _ => ?_)
  refine o_p (p_pure rfl) rfl ?_
  refine o_h (h_appendS (l.map strV) rfl rfl rfl sl_29 Tryd.underlying29 zr_9 rfl aPk (fun w h => hs.src h) (by simp) (str_one l) (by omega) (by simp only [maxLen]; omega)) rfl (fun b2 _ => ?_)
  refine o_p (p_pure rfl) rfl ?_
  refine o_nil ?_
  exact s_retv (rs := [.tmp 2]) rfl (.tmp rfl (.nil)) (fun w' h' => ⟨b2, by simp only [retV, Nat.zero_add], trivial, by have h2 := h'; simp only [Nat.zero_add, List.nil_append] at h2; exact h2.ent aEt⟩)

set_option maxRecDepth 20000 in
theorem c21 (w : World) (a b : Option Addr) (ca cb : Nat) (ns : List Nat) (ha : Vl w a (ns.map naV)) (hb : Vl w b (ns.map naV)) (hm : ns.length ≤ 1000000) : Calls Tryd.prog 21 #[.slice a ns.length ca, .slice b ns.length cb] w fun en w' => en = .returned (.bool true) ∧ Below w.heap.size w w' := by
  refine enter (args := [_, _]) Tryd.func21 Tryd.ntmps21 rfl rfl (HS.refl w []) ?_
  refine s_seq ?_
  refine s_region ?_
  refine o_p (p_pure rfl) rfl ?_
  refine o_nil ?_
  refine s_seq ?_
  refine s_seq ?_
  refine s_region ?_
  refine o_p (p_pure rfl) rfl ?_
  refine o_p (p_len_slice rfl rfl Tryd.underlying31) rfl ?_
  refine o_p (p_pure rfl) rfl ?_
  refine o_p (p_len_slice rfl rfl Tryd.underlying31) rfl ?_
  refine o_p (p_pure rfl) rfl ?_
  refine o_nil ?_
  refine s_cond rfl (fun h1 => ?_) (fun h1 => ?_)
  · try simp only [decide_eq_true_eq, decide_eq_false_iff_not, Bool.not_eq_true', Bool.not_eq_false', Bool.and_eq_true, Bool.or_eq_true, Bool.and_eq_false_iff, Bool.or_eq_false_iff, Bool.not_true, Bool.not_false] at h1
    exfalso; first | omega | (simp at h1; done) | (simp_all; done)
  · try simp only [decide_eq_true_eq, decide_eq_false_iff_not, Bool.not_eq_true', Bool.not_eq_false', Bool.and_eq_true, Bool.or_eq_true, Bool.and_eq_false_iff, Bool.or_eq_false_iff, Bool.not_true, Bool.not_false] at h1
    refine s_skip ?_
    refine s_seq ?_
    refine s_seq ?_
    refine s_region ?_
    refine o_p (p_pure rfl) rfl ?_
    refine o_nil ?_
    refine s_block ?_
    refine s_loopI (α := Nat) [4, 5, 11, 12, 13, 14, 15, 16, 17, 18, 19, 20, 21, 22, 23, 24, 25] (fun k => [(5, .int .i64 (k : Int))]) (fun _ => HS w [] []) (fun k => k ≤ ns.length) (fun k => ns.length - k) 0 (by simp) aSx (fun w h => h.ent aEt) (fun k hk => ?_)
    refine s_seq ?_
    refine s_seq ?_
    refine s_region ?_
    refine o_p (p_pure rfl) rfl ?_
    refine o_p (p_pure rfl) rfl ?_
    refine o_p (p_len_slice rfl rfl Tryd.underlying31) rfl ?_
    refine o_p (p_pure rfl) rfl ?_
    refine o_nil ?_
    refine s_cond rfl (fun h2 => ?_) (fun h2 => ?_)
    · try simp only [decide_eq_true_eq, decide_eq_false_iff_not, Bool.not_eq_true', Bool.not_eq_false', Bool.and_eq_true, Bool.or_eq_true, Bool.and_eq_false_iff, Bool.or_eq_false_iff, Bool.not_true, Bool.not_false] at h2
      have hkl : k < ns.length := by omega
      refine s_skip ?_
      refine s_seq ?_
      refine s_block ?_
      refine s_seq ?_
      refine s_draw [] mixed ?_
      refine d_p 0 rfl (p_pure rfl) (by kernel_rfl) rfl rfl ?_
      refine d_p 1 rfl (p_pure rfl) (by kernel_rfl) rfl rfl ?_
      refine d_p 2 rfl (p_indexAddr rfl rfl rfl sl_31 (k) (by omega) (by omega) (ha.some (by rw [List.length_map]; omega))) (by kernel_rfl) rfl rfl ?_
      refine d_q 3 [] rfl (q_load_old rfl rfl sz_3 ((ha.rd (na_get (k := k) hkl)))) (by kernel_rfl) (by kernel_rfl) (by kernel_rfl) rfl ?_
      refine d_p 4 rfl (p_pure rfl) (by kernel_rfl) rfl rfl ?_
      refine d_p 5 rfl (p_pure rfl) (by kernel_rfl) rfl rfl ?_
      refine d_p 6 rfl (p_indexAddr rfl rfl rfl sl_31 (k) (by omega) (by omega) (hb.some (by rw [List.length_map]; omega))) (by kernel_rfl) rfl rfl ?_
      refine d_q 7 [] rfl (q_load_old rfl rfl sz_3 ((hb.rd (na_get (k := k) hkl)))) (by kernel_rfl) (by kernel_rfl) (by kernel_rfl) rfl ?_
      refine d_p 8 rfl (p_pure rfl) (by kernel_rfl) rfl rfl ?_
      refine d_nil (by kernel_rfl) (fun w h => h.ent aEt) ?_
      refine s_cond rfl (fun h3 => ?_) (fun h3 => ?_)
      · try simp only [decide_eq_true_eq, decide_eq_false_iff_not, Bool.not_eq_true', Bool.not_eq_false', Bool.and_eq_true, Bool.or_eq_true, Bool.and_eq_false_iff, Bool.or_eq_false_iff, Bool.not_true, Bool.not_false] at h3
        exfalso; first | omega | (simp at h3; done) | (simp_all; done)
      · try simp only [decide_eq_true_eq, decide_eq_false_iff_not, Bool.not_eq_true', Bool.not_eq_false', Bool.and_eq_true, Bool.or_eq_true, Bool.and_eq_false_iff, Bool.or_eq_false_iff, Bool.not_true, Bool.not_false] at h3
        refine s_skip ?_
        refine s_blk ?_
        refine s_region ?_
        refine o_p (p_pure rfl) rfl ?_
        refine o_p (p_pure rfl) rfl ?_
        try (refine o_slot (i64w (by omega) (by omega)) ?_)
        refine o_p (p_pure rfl) rfl ?_
        refine o_nil ?_
        exact s_backI (k + 1) (by omega) (by omega) aSx (fun w h => h.ent aEt)
    · try simp only [decide_eq_true_eq, decide_eq_false_iff_not, Bool.not_eq_true', Bool.not_eq_false', Bool.and_eq_true, Bool.or_eq_true, Bool.and_eq_false_iff, Bool.or_eq_false_iff, Bool.not_true, Bool.not_false] at h2
      refine s_exit_to rfl ?_
      refine s_seq ?_
      refine s_region ?_
      refine o_p (p_pure rfl) rfl ?_
      refine o_nil ?_
      exact s_retv (rs := [.tmp 4]) rfl (.tmp rfl (.nil)) (fun w' h' => ⟨rfl, h'.below⟩)

theorem x21 (w : World) (x y : Value) (h : False) : Calls Tryd.prog 21 #[x, y] w fun en w' => en = .returned (.bool true) ∧ Below w.heap.size w w' := h.elim
def dU (t p : List UInt8) : Int := if (chkTab t).2 = 0 then patE p else (chkTab t).2
theorem matL_d {t p : List UInt8} {l : List (List UInt8)} : matL t p l = if dU t p = 0 then namesE l else dU t p := by
  unfold matL dU
  by_cases h : (chkTab t).2 = 0
  · rw [if_pos h, if_pos h]
  · rw [if_neg h, if_neg h, if_neg h]
theorem matE_d {t p s : List UInt8} : matE t p s = if dU t p = 0 then nameE s else dU t p := by
  unfold matE dU
  by_cases h : (chkTab t).2 = 0
  · rw [if_pos h, if_pos h]
  · rw [if_neg h, if_neg h, if_neg h]
theorem few_ok {l : List (List UInt8)} (h : fewU l = true) : l.length ≤ 210 ∧ ∀ s ∈ l, s.length ≤ 60 := by
  unfold fewU at h
  simp only [Bool.and_eq_true, List.all_eq_true, decide_eq_true_eq] at h
  exact ⟨h.2, h.1⟩

set_option maxRecDepth 20000 in
set_option maxHeartbeats 4000000 in
theorem q4 (w : World) (t p : List UInt8) (a : Option Addr) (cap : Nat) (l : List (List UInt8)) (hmt : t.length ≤ 9223372036854775807) (hmp : p.length ≤ 9223372036854775807) (hs : Vl w a (l.map strV)) (hln : l.length ≤ 9223372036854775807) (hml : ∀ s ∈ l, s.length ≤ 9223372036854775807) (ht : TabOk w) (hm0 : ¬ matL t p l = 0) : Calls Tryd.prog 4 #[.string (bs t), .string (bs p), .slice a l.length cap] w fun en w' => en = .returned (.bool true) ∧ Below w.heap.size w w' := by
  refine enter (args := [_, _, _]) Tryd.func4 Tryd.ntmps4 rfl rfl (HS.refl w []) ?_
  refine s_seq ?_
  refine s_region ?_
  refine o_p (p_pure rfl) rfl ?_
  refine o_nil ?_
  refine s_seq ?_
  refine s_seq ?_
  refine s_region ?_
  refine o_q (q_call rfl fn_10 rfl (fun w1 h1 => c10 w1 (ht.later h1))) rfl ?_
  refine o_p (p_pure rfl) rfl ?_
  refine o_nil ?_
  refine s_cond rfl (fun h1 => ?_) (fun h1 => ?_)
  · try simp only [decide_eq_true_eq, decide_eq_false_iff_not, Bool.not_eq_true', Bool.not_eq_false', Bool.and_eq_true, Bool.or_eq_true, Bool.and_eq_false_iff, Bool.or_eq_false_iff, Bool.not_true, Bool.not_false] at h1
    exfalso; cases h1
  · try simp only [decide_eq_true_eq, decide_eq_false_iff_not, Bool.not_eq_true', Bool.not_eq_false', Bool.and_eq_true, Bool.or_eq_true, Bool.and_eq_false_iff, Bool.or_eq_false_iff, Bool.not_true, Bool.not_false] at h1
    refine s_skip ?_
    refine s_seq ?_
    refine s_seq ?_
    refine s_region ?_
    refine o_p (p_pure rfl) rfl ?_
    refine o_p (p_pure rfl) rfl ?_
    refine o_h (h_buildSlice (cs := [_, _]) rfl rfl sl_29 zr_9 rfl rfl rfl) rfl (fun b2 _ => ?_)
    refine o_q (q_call rfl fn_11 rfl (fun w1 h1 => c11 w1 _ _ [t, p] (h1.vl_blk aPk) (by simp) (by intro x hx; simp only [List.mem_cons, List.mem_nil_iff, or_false] at hx; rcases hx with rfl | rfl <;> assumption))) rfl ?_
    refine o_p (p_pure rfl) rfl ?_
    refine o_p (p_pure rfl) rfl ?_
    refine o_or 4 23 27 _ _ rfl
      (by
        intro hg3
        have hs4 := hg3; try simp only [decide_eq_true_eq, decide_eq_false_iff_not, Bool.not_eq_true', Bool.not_eq_false', Bool.and_eq_true, Bool.or_eq_true, Bool.and_eq_false_iff, Bool.or_eq_false_iff, Bool.not_true, Bool.not_false] at hs4
        refine o_on 23 _ rfl rfl hg3 ?_
        refine o_p (p_pure rfl) rfl ?_
        refine o_on 23 _ rfl rfl hg3 ?_
        refine o_q (q_call rfl fn_16 rfl (fun w1 h1 => c16 w1 a cap l (hs.later h1) hln hml)) rfl ?_
        refine o_on 23 _ rfl rfl hg3 ?_
        refine o_p (p_pure rfl) rfl ?_
        refine o_p (p_pickf rfl rfl hg3 rfl) rfl ?_
        refine o_nil ?_
        exact s_joinN 4 27 _ rfl rfl rfl (fun w h => by first | exact h | exact h.ent aEt))
      (by
        intro hg5
        have hs6 := hg5; try simp only [decide_eq_true_eq, decide_eq_false_iff_not, Bool.not_eq_true', Bool.not_eq_false', Bool.and_eq_true, Bool.or_eq_true, Bool.and_eq_false_iff, Bool.or_eq_false_iff, Bool.not_true, Bool.not_false] at hs6
        refine o_off 23 _ rfl rfl hg5 rfl ?_
        refine o_off 23 _ rfl rfl hg5 rfl ?_
        refine o_off 23 _ rfl rfl hg5 rfl ?_
        refine o_p (p_pickt rfl rfl hg5 rfl) rfl ?_
        refine o_nil ?_
        exact s_joinN 4 27 _ rfl rfl rfl (fun w h => by first | exact h | exact h.ent aEt)) ?_
    refine o_nil ?_
    refine s_cond rfl (fun h7 => ?_) (fun h7 => ?_)
    · try simp only [decide_eq_true_eq, decide_eq_false_iff_not, Bool.not_eq_true', Bool.not_eq_false', Bool.and_eq_true, Bool.or_eq_true, Bool.and_eq_false_iff, Bool.or_eq_false_iff, Bool.not_true, Bool.not_false] at h7
      refine s_seq ?_
      refine s_region ?_
      refine o_p (p_pure rfl) rfl ?_
      refine o_nil ?_
      exact s_retv (rs := [.tmp 6]) rfl (.tmp rfl (.nil)) (fun w' h' => ⟨by rfl, h'.below⟩)
    · try simp only [decide_eq_true_eq, decide_eq_false_iff_not, Bool.not_eq_true', Bool.not_eq_false', Bool.and_eq_true, Bool.or_eq_true, Bool.and_eq_false_iff, Bool.or_eq_false_iff, Bool.not_true, Bool.not_false] at h7
      have hf : smallU [t, p] = true ∧ fewU l = true := by have hq := h7; grind
      have hsz := sm2 hf.1
      have hfw := few_ok hf.2
      have hml6 : ∀ s ∈ l, s.length ≤ 1000000 := fun s hA => by have := hfw.2 s hA; omega
      refine s_skip ?_
      refine s_seq ?_
      refine s_region ?_
      refine o_p (p_pure rfl) rfl ?_
      refine o_p (p_pure rfl) rfl ?_
      refine o_p (p_pure rfl) rfl ?_
      refine o_h (h_call rfl fn_18 rfl (fun w1 h1 => c18 w1 a cap l (hs.later h1) (by omega))) rfl (fun gc _ => ?_)
      refine o_q (q_call rfl fn_17 rfl (fun w1 h1 => q17 w1 t p _ _ l (by omega) (by omega) (h1.vl_own aPk) (by omega) hml6 hm0)) rfl ?_
      refine o_p (p_pure rfl) rfl ?_
      refine o_p (p_pure rfl) rfl ?_
      refine o_p (p_pure rfl) rfl ?_
      refine o_p (p_pure rfl) rfl ?_
      refine o_p (p_pure rfl) rfl ?_
      refine o_nil ?_
      refine s_seq ?_
      refine s_region ?_
      refine o_p (p_pure rfl) rfl ?_
      refine o_q (q_call rfl fn_12 rfl (fun w1 h1 => c12 w1 t (by omega))) rfl ?_
      refine o_p (p_pure rfl) rfl ?_
      refine o_nil ?_
      refine s_seq ?_
      refine s_seq ?_
      refine s_region ?_
      refine o_p (p_pure rfl) rfl ?_
      refine o_p (p_pure rfl) rfl ?_
      refine o_nil ?_
      refine s_weaken (L' := [(0, _), (1, _), (2, _), (6, _), (7, _), (8, _), (9, _), (39, _)]) aSx (fun _ h => h) ?_
      refine s_cutI (α := Unit) [9, 40, 41] (fun _ => [(9, .int .i64 (dU t p))]) (fun _ => HS w [] []) (fun _ => True) ?_ ?_
      · skip
        refine s_cond rfl (fun h8 => ?_) (fun h8 => ?_)
        · try simp only [decide_eq_true_eq, decide_eq_false_iff_not, Bool.not_eq_true', Bool.not_eq_false', Bool.and_eq_true, Bool.or_eq_true, Bool.and_eq_false_iff, Bool.or_eq_false_iff, Bool.not_true, Bool.not_false] at h8
          have h9 : dU t p = patE p := by rw [dU, if_pos h8]
          refine s_region ?_
          refine o_p (p_pure rfl) rfl ?_
          refine o_q (q_call rfl fn_13 rfl (fun w1 h1 => c13 w1 p (by omega))) rfl ?_
          refine o_p (p_pure rfl) rfl ?_
          refine o_nil ?_
          exact s_joinI () trivial (by (try dsimp only); rw [h9]; exact aSx) (fun w h => h.ent aEt)
        · try simp only [decide_eq_true_eq, decide_eq_false_iff_not, Bool.not_eq_true', Bool.not_eq_false', Bool.and_eq_true, Bool.or_eq_true, Bool.and_eq_false_iff, Bool.or_eq_false_iff, Bool.not_true, Bool.not_false] at h8
          have h9 : dU t p = (chkTab t).2 := by rw [dU, if_neg h8]
          refine s_skip ?_
          exact s_joinI () trivial (by (try dsimp only); rw [h9]; exact aSx) (fun w h => h.ent aEt)
      · intro _ _
        refine s_seq ?_
        refine s_region ?_
        refine o_p (p_pure rfl) rfl ?_
        refine o_p (p_pure rfl) rfl ?_
        refine o_nil ?_
        refine s_seq ?_
        refine s_seq ?_
        refine s_region ?_
        refine o_p (p_pure rfl) rfl ?_
        refine o_p (p_pure rfl) rfl ?_
        refine o_nil ?_
        refine s_cutI (α := Unit) [10, 45, 46] (fun _ => [(10, .int .i64 (matL t p l))]) (fun _ => HS w [] []) (fun _ => True) ?_ ?_
        · skip
          refine s_cond rfl (fun h9 => ?_) (fun h9 => ?_)
          · try simp only [decide_eq_true_eq, decide_eq_false_iff_not, Bool.not_eq_true', Bool.not_eq_false', Bool.and_eq_true, Bool.or_eq_true, Bool.and_eq_false_iff, Bool.or_eq_false_iff, Bool.not_true, Bool.not_false] at h9
            have h9 : matL t p l = namesE l := by rw [matL_d, if_pos h9]
            refine s_region ?_
            refine o_p (p_pure rfl) rfl ?_
            refine o_q (q_call rfl fn_19 rfl (fun w1 h1 => c19 w1 a cap l (hs.later h1) (by omega) hml6)) rfl ?_
            refine o_p (p_pure rfl) rfl ?_
            refine o_nil ?_
            exact s_joinI () trivial (by (try dsimp only); rw [h9]; exact aSx) (fun w h => h.ent aEt)
          · try simp only [decide_eq_true_eq, decide_eq_false_iff_not, Bool.not_eq_true', Bool.not_eq_false', Bool.and_eq_true, Bool.or_eq_true, Bool.and_eq_false_iff, Bool.or_eq_false_iff, Bool.not_true, Bool.not_false] at h9
            have h9 : matL t p l = dU t p := by rw [matL_d, if_neg h9]
            refine s_skip ?_
            exact s_joinI () trivial (by (try dsimp only); rw [h9]; exact aSx) (fun w h => h.ent aEt)
        · intro _ _
          refine s_seq ?_
          refine s_seq ?_
          refine s_region ?_
          refine o_p (p_pure rfl) rfl ?_
          refine o_p (p_pure rfl) rfl ?_
          refine o_p (p_pure rfl) rfl ?_
          refine o_and 9 49 58 _ _ rfl
            (by
              intro hg10
              have hs11 := hg10; try simp only [decide_eq_true_eq, decide_eq_false_iff_not, Bool.not_eq_true', Bool.not_eq_false', Bool.and_eq_true, Bool.or_eq_true, Bool.and_eq_false_iff, Bool.or_eq_false_iff, Bool.not_true, Bool.not_false] at hs11
              refine o_on 49 _ rfl rfl hg10 ?_
              refine o_p (p_pure rfl) rfl ?_
              refine o_on 49 _ rfl rfl hg10 ?_
              refine o_p (p_pure rfl) rfl ?_
              refine o_on 49 _ rfl rfl hg10 ?_
              refine o_p (p_pure rfl) rfl ?_
              refine o_on 49 _ rfl rfl hg10 ?_
              refine o_p (p_pure rfl) rfl ?_
              refine o_or 4 53 57 _ _ rfl
                (by
                  intro hg12
                  have hs13 := hg12; try simp only [decide_eq_true_eq, decide_eq_false_iff_not, Bool.not_eq_true', Bool.not_eq_false', Bool.and_eq_true, Bool.or_eq_true, Bool.and_eq_false_iff, Bool.or_eq_false_iff, Bool.not_true, Bool.not_false] at hs13
                  refine o_on 53 _ rfl rfl hg12 ?_
                  refine o_p (p_pure rfl) rfl ?_
                  refine o_on 53 _ rfl rfl hg12 ?_
                  refine o_p (p_len_slice rfl rfl Tryd.underlying31) rfl ?_
                  refine o_on 53 _ rfl rfl hg12 ?_
                  refine o_p (p_pure rfl) rfl ?_
                  refine o_on 49 _ rfl rfl hg10 ?_
                  refine o_p (p_pickf rfl rfl hg12 rfl) rfl ?_
                  refine o_nil ?_
                  exact s_joinN 4 57 _ rfl rfl rfl (fun w h => by first | exact h | exact h.ent aEt))
                (by
                  intro hg14
                  have hs15 := hg14; try simp only [decide_eq_true_eq, decide_eq_false_iff_not, Bool.not_eq_true', Bool.not_eq_false', Bool.and_eq_true, Bool.or_eq_true, Bool.and_eq_false_iff, Bool.or_eq_false_iff, Bool.not_true, Bool.not_false] at hs15
                  refine o_off 53 _ rfl rfl hg14 rfl ?_
                  refine o_off 53 _ rfl rfl hg14 rfl ?_
                  refine o_off 53 _ rfl rfl hg14 rfl ?_
                  refine o_on 49 _ rfl rfl hg10 ?_
                  refine o_p (p_pickt rfl rfl hg14 rfl) rfl ?_
                  refine o_nil ?_
                  exact s_joinN 4 57 _ rfl rfl rfl (fun w h => by first | exact h | exact h.ent aEt)) ?_
              refine o_p (p_pickt rfl rfl hg10 rfl) rfl ?_
              refine o_nil ?_
              exact s_joinN 6 58 _ rfl rfl rfl (fun w h => by first | exact h | exact h.ent aEt))
            (by
              intro hg16
              have hs17 := hg16; try simp only [decide_eq_true_eq, decide_eq_false_iff_not, Bool.not_eq_true', Bool.not_eq_false', Bool.and_eq_true, Bool.or_eq_true, Bool.and_eq_false_iff, Bool.or_eq_false_iff, Bool.not_true, Bool.not_false] at hs17
              refine o_off 49 _ rfl rfl hg16 rfl ?_
              refine o_off 49 _ rfl rfl hg16 rfl ?_
              refine o_off 49 _ rfl rfl hg16 rfl ?_
              refine o_off 49 _ rfl rfl hg16 rfl ?_
              refine o_off' 53 rfl rfl rfl ?_
              refine o_off' 53 rfl rfl rfl ?_
              refine o_off' 53 rfl rfl rfl ?_
              refine o_off 49 _ rfl rfl hg16 rfl ?_
              refine o_p (p_pickf rfl rfl hg16 rfl) rfl ?_
              refine o_nil ?_
              exact s_joinN 9 58 _ rfl rfl rfl (fun w h => by first | exact h | exact h.ent aEt)) ?_
          refine o_nil ?_
          refine s_cond rfl (fun h18 => ?_) (fun h18 => ?_)
          · try simp only [decide_eq_true_eq, decide_eq_false_iff_not, Bool.not_eq_true', Bool.not_eq_false', Bool.and_eq_true, Bool.or_eq_true, Bool.and_eq_false_iff, Bool.or_eq_false_iff, Bool.not_true, Bool.not_false] at h18
            exfalso; simp_all
          · try simp only [decide_eq_true_eq, decide_eq_false_iff_not, Bool.not_eq_true', Bool.not_eq_false', Bool.and_eq_true, Bool.or_eq_true, Bool.and_eq_false_iff, Bool.or_eq_false_iff, Bool.not_true, Bool.not_false] at h18
            refine s_skip ?_
            refine s_seq ?_
            refine s_region ?_
            refine o_p (p_pure rfl) rfl ?_
            refine o_nil ?_
            refine s_seq ?_
            refine s_seq ?_
            refine s_region ?_
            refine o_p (p_pure rfl) rfl ?_
            refine o_nil ?_
            refine s_block ?_
            refine s_loopI (α := Nat) [6, 11, 12, 13, 14, 15, 59, 60, 61, 62, 63, 64, 65, 66, 67, 68, 69, 70, 71, 72, 73, 74, 75, 76, 77, 78, 79, 80, 81, 82, 83, 84, 85, 86, 87, 88, 89, 90, 91, 92, 93, 94, 95, 96, 97, 98, 99, 100, 101, 102, 103, 104, 105, 106, 107, 108, 109, 110, 111, 112, 113, 114, 115, 116, 117, 118, 119, 120] (fun k => [(12, .int .i64 (k : Int)), (11, .slice none 0 0)]) (fun _ => HS w [] []) (fun k => k ≤ l.length) (fun k => l.length - k) 0 (Nat.zero_le _) aSx (fun w h => h.ent aEt) (fun k hk1 => ?_)
            refine s_seq ?_
            refine s_seq ?_
            refine s_region ?_
            refine o_p (p_pure rfl) rfl ?_
            refine o_p (p_pure rfl) rfl ?_
            refine o_p (p_len_slice rfl rfl Tryd.underlying29) rfl ?_
            refine o_p (p_pure rfl) rfl ?_
            refine o_nil ?_
            refine s_cond rfl (fun h19 => ?_) (fun h19 => ?_)
            · try simp only [decide_eq_true_eq, decide_eq_false_iff_not, Bool.not_eq_true', Bool.not_eq_false', Bool.and_eq_true, Bool.or_eq_true, Bool.and_eq_false_iff, Bool.or_eq_false_iff, Bool.not_true, Bool.not_false] at h19
              have hk : k < l.length := by omega
              have hkl := hitsTo_len (t := t) (p := p) (l := l) (k := k)
              have hsc := hitsTo_succ (t := t) (p := p) (l := l) (k := k)
              refine s_skip ?_
              refine s_seq ?_
              refine s_block ?_
              refine s_seq ?_
              refine s_region ?_
              refine o_p (p_pure rfl) rfl ?_
              refine o_p (p_pure rfl) rfl ?_
              refine o_nil ?_
              refine s_seq ?_
              refine s_seq ?_
              refine s_region ?_
              refine o_p (p_pure rfl) rfl ?_
              refine o_p (p_pure rfl) rfl ?_
              refine o_nil ?_
              refine s_cutI (α := Unit) [13, 68, 69, 70, 71, 72] (fun _ => [(13, .int .i64 (matE t p (l.getD k [])))]) (fun _ => HS w [] []) (fun _ => True) ?_ ?_
              · skip
                refine s_cond rfl (fun h20 => ?_) (fun h20 => ?_)
                · try simp only [decide_eq_true_eq, decide_eq_false_iff_not, Bool.not_eq_true', Bool.not_eq_false', Bool.and_eq_true, Bool.or_eq_true, Bool.and_eq_false_iff, Bool.or_eq_false_iff, Bool.not_true, Bool.not_false] at h20
                  have h9 : matE t p (l.getD k []) = nameE (l.getD k []) := by rw [matE_d, if_pos h20]
                  refine s_region ?_
                  refine o_p (p_pure rfl) rfl ?_
                  refine o_p (p_pure rfl) rfl ?_
                  refine o_p (p_indexAddr rfl rfl rfl sl_29 (k) (by omega) (by omega) (hs.some (by rw [List.length_map]; omega))) rfl ?_
                  refine o_q (q_load_old rfl rfl sz_9 ((hs.rd (str_get' (k := k) hk)))) rfl ?_
                  refine o_q (q_call rfl fn_14 rfl (fun w1 h1 => c14 w1 (l.getD k []) (hml _ (getD_mem hk)))) rfl ?_
                  refine o_p (p_pure rfl) rfl ?_
                  refine o_nil ?_
                  exact s_joinI () trivial (by (try dsimp only); rw [h9]; exact aSx) (fun w h => h.ent aEt)
                · try simp only [decide_eq_true_eq, decide_eq_false_iff_not, Bool.not_eq_true', Bool.not_eq_false', Bool.and_eq_true, Bool.or_eq_true, Bool.and_eq_false_iff, Bool.or_eq_false_iff, Bool.not_true, Bool.not_false] at h20
                  have h9 : matE t p (l.getD k []) = dU t p := by rw [matE_d, if_neg h20]
                  refine s_skip ?_
                  exact s_joinI () trivial (by (try dsimp only); rw [h9]; exact aSx) (fun w h => h.ent aEt)
              · intro _ _
                refine s_seq ?_
                refine s_region ?_
                refine o_p (p_pure rfl) rfl ?_
                refine o_p (p_pure rfl) rfl ?_
                refine o_p (p_pure rfl) rfl ?_
                refine o_p (p_pure rfl) rfl ?_
                refine o_p (p_indexAddr rfl rfl rfl sl_29 (k) (by omega) (by omega) (hs.some (by rw [List.length_map]; omega))) rfl ?_
                refine o_q (q_load_old rfl rfl sz_9 ((hs.rd (str_get' (k := k) hk)))) rfl ?_
                refine o_q (q_call rfl fn_15 rfl (fun w1 h1 => c15 w1 t p (l.getD k []) (by omega) (by omega) (hml6 _ (getD_mem hk)))) rfl ?_
                refine o_p (p_pure rfl) rfl ?_
                refine o_p (p_pure rfl) rfl ?_
                refine o_p (p_pure rfl) rfl ?_
                refine o_p (p_pure rfl) rfl ?_
                refine o_p (p_pure rfl) rfl ?_
                refine o_nil ?_
                refine s_seq ?_
                refine s_seq ?_
                refine s_weaken (L' := [(0, _), (1, _), (2, _), (7, _), (8, _), (9, _), (10, _), (11, _), (12, _), (13, _), (14, _), (15, _), (39, _), (42, _), (43, _), (44, _), (47, _), (48, _), (49, _), (58, _)]) aSx (fun _ h => h) ?_
                refine s_region ?_
                refine o_p (p_pure rfl) rfl ?_
                refine o_p (p_pure rfl) rfl ?_
                refine o_p (p_pure rfl) rfl ?_
                refine o_and 7 85 92 _ _ rfl
                  (by
                    intro hg21
                    have hs22 := hg21; try simp only [decide_eq_true_eq, decide_eq_false_iff_not, Bool.not_eq_true', Bool.not_eq_false', Bool.and_eq_true, Bool.or_eq_true, Bool.and_eq_false_iff, Bool.or_eq_false_iff, Bool.not_true, Bool.not_false] at hs22
                    refine o_on 85 _ rfl rfl hg21 ?_
                    refine o_p (p_pure rfl) rfl ?_
                    refine o_on 85 _ rfl rfl hg21 ?_
                    refine o_p (p_pure rfl) rfl ?_
                    refine o_on 85 _ rfl rfl hg21 ?_
                    refine o_p (p_pure rfl) rfl ?_
                    refine o_on 85 _ rfl rfl hg21 ?_
                    refine o_p (p_pure rfl) rfl ?_
                    refine o_or 2 89 91 _ _ rfl
                      (by
                        intro hg23
                        have hs24 := hg23; try simp only [decide_eq_true_eq, decide_eq_false_iff_not, Bool.not_eq_true', Bool.not_eq_false', Bool.and_eq_true, Bool.or_eq_true, Bool.and_eq_false_iff, Bool.or_eq_false_iff, Bool.not_true, Bool.not_false] at hs24
                        refine o_on 89 _ rfl rfl hg23 ?_
                        refine o_p (p_pure rfl) rfl ?_
                        refine o_on 85 _ rfl rfl hg21 ?_
                        refine o_p (p_pickf rfl rfl hg23 rfl) rfl ?_
                        refine o_nil ?_
                        exact s_joinN 2 91 _ rfl rfl rfl (fun w h => by first | exact h | exact h.ent aEt))
                      (by
                        intro hg25
                        have hs26 := hg25; try simp only [decide_eq_true_eq, decide_eq_false_iff_not, Bool.not_eq_true', Bool.not_eq_false', Bool.and_eq_true, Bool.or_eq_true, Bool.and_eq_false_iff, Bool.or_eq_false_iff, Bool.not_true, Bool.not_false] at hs26
                        refine o_off 89 _ rfl rfl hg25 rfl ?_
                        refine o_on 85 _ rfl rfl hg21 ?_
                        refine o_p (p_pickt rfl rfl hg25 rfl) rfl ?_
                        refine o_nil ?_
                        exact s_joinN 2 91 _ rfl rfl rfl (fun w h => by first | exact h | exact h.ent aEt)) ?_
                    refine o_p (p_pickt rfl rfl hg21 rfl) rfl ?_
                    refine o_nil ?_
                    exact s_joinN 6 92 _ rfl rfl rfl (fun w h => by first | exact h | exact h.ent aEt))
                  (by
                    intro hg27
                    have hs28 := hg27; try simp only [decide_eq_true_eq, decide_eq_false_iff_not, Bool.not_eq_true', Bool.not_eq_false', Bool.and_eq_true, Bool.or_eq_true, Bool.and_eq_false_iff, Bool.or_eq_false_iff, Bool.not_true, Bool.not_false] at hs28
                    refine o_off 85 _ rfl rfl hg27 rfl ?_
                    refine o_off 85 _ rfl rfl hg27 rfl ?_
                    refine o_off 85 _ rfl rfl hg27 rfl ?_
                    refine o_off 85 _ rfl rfl hg27 rfl ?_
                    refine o_off' 89 rfl rfl rfl ?_
                    refine o_off 85 _ rfl rfl hg27 rfl ?_
                    refine o_p (p_pickf rfl rfl hg27 rfl) rfl ?_
                    refine o_nil ?_
                    exact s_joinN 7 92 _ rfl rfl rfl (fun w h => by first | exact h | exact h.ent aEt)) ?_
                refine o_p (p_pure rfl) rfl ?_
                refine o_or 18 93 111 _ _ rfl
                  (by
                    intro hg29
                    have hs30 := hg29; try simp only [decide_eq_true_eq, decide_eq_false_iff_not, Bool.not_eq_true', Bool.not_eq_false', Bool.and_eq_true, Bool.or_eq_true, Bool.and_eq_false_iff, Bool.or_eq_false_iff, Bool.not_true, Bool.not_false] at hs30
                    refine o_on 93 _ rfl rfl hg29 ?_
                    refine o_p (p_pure rfl) rfl ?_
                    refine o_on 93 _ rfl rfl hg29 ?_
                    refine o_p (p_pure rfl) rfl ?_
                    refine o_on 93 _ rfl rfl hg29 ?_
                    refine o_p (p_pure rfl) rfl ?_
                    refine o_and 14 96 110 _ _ rfl
                      (by
                        intro hg31
                        have hs32 := hg31; try simp only [decide_eq_true_eq, decide_eq_false_iff_not, Bool.not_eq_true', Bool.not_eq_false', Bool.and_eq_true, Bool.or_eq_true, Bool.and_eq_false_iff, Bool.or_eq_false_iff, Bool.not_true, Bool.not_false] at hs32
                        refine o_on 96 _ rfl rfl hg31 ?_
                        refine o_p (p_pure rfl) rfl ?_
                        refine o_on 96 _ rfl rfl hg31 ?_
                        refine o_p (p_pure rfl) rfl ?_
                        refine o_on 96 _ rfl rfl hg31 ?_
                        refine o_p (p_pure rfl) rfl ?_
                        refine o_or 10 99 109 _ _ rfl
                          (by
                            intro hg33
                            have hs34 := hg33; try simp only [decide_eq_true_eq, decide_eq_false_iff_not, Bool.not_eq_true', Bool.not_eq_false', Bool.and_eq_true, Bool.or_eq_true, Bool.and_eq_false_iff, Bool.or_eq_false_iff, Bool.not_true, Bool.not_false] at hs34
                            refine o_on 99 _ rfl rfl hg33 ?_
                            refine o_p (p_pure rfl) rfl ?_
                            refine o_on 99 _ rfl rfl hg33 ?_
                            refine o_p (p_pure rfl) rfl ?_
                            refine o_on 99 _ rfl rfl hg33 ?_
                            refine o_p (p_pure rfl) rfl ?_
                            refine o_on 99 _ rfl rfl hg33 ?_
                            refine o_p (p_pure rfl) rfl ?_
                            refine o_on 99 _ rfl rfl hg33 ?_
                            refine o_p (p_pure rfl) rfl ?_
                            refine o_on 99 _ rfl rfl hg33 ?_
                            refine o_p (p_indexAddr rfl rfl rfl sl_29 (k) (by omega) (by omega) (hs.some (by rw [List.length_map]; omega))) rfl ?_
                            refine o_on 99 _ rfl rfl hg33 ?_
                            refine o_q (q_load_old rfl rfl sz_9 ((hs.rd (str_get' (k := k) hk)))) rfl ?_
                            refine o_on 99 _ rfl rfl hg33 ?_
                            refine o_q (q_call rfl fn_20 rfl (fun w1 h1 => by have hz : matE t p (l.getD k []) = 0 := (by have hq := hg33; simp at hq; grind); have ho := matE_ok hz; exact c20 w1 t p (l.getD k []) (chkTab_ok ho.1).1 (patE_ok ho.2.1).2.2 (nameE_lt ho.2.2) (by omega) (hml6 _ (getD_mem hk)))) rfl ?_
                            refine o_on 99 _ rfl rfl hg33 ?_
                            refine o_p (p_neq_bool rfl rfl rfl Tryd.underlying4) rfl ?_
                            refine o_on 96 _ rfl rfl hg31 ?_
                            refine o_p (p_pickf rfl rfl hg33 rfl) rfl ?_
                            refine o_nil ?_
                            exact s_joinN 10 109 _ rfl rfl rfl (fun w h => by first | exact h | exact h.ent aEt))
                          (by
                            intro hg35
                            have hs36 := hg35; try simp only [decide_eq_true_eq, decide_eq_false_iff_not, Bool.not_eq_true', Bool.not_eq_false', Bool.and_eq_true, Bool.or_eq_true, Bool.and_eq_false_iff, Bool.or_eq_false_iff, Bool.not_true, Bool.not_false] at hs36
                            refine o_off 99 _ rfl rfl hg35 rfl ?_
                            refine o_off 99 _ rfl rfl hg35 rfl ?_
                            refine o_off 99 _ rfl rfl hg35 rfl ?_
                            refine o_off 99 _ rfl rfl hg35 rfl ?_
                            refine o_off 99 _ rfl rfl hg35 rfl ?_
                            refine o_off 99 _ rfl rfl hg35 rfl ?_
                            refine o_off 99 _ rfl rfl hg35 rfl ?_
                            refine o_off 99 _ rfl rfl hg35 rfl ?_
                            refine o_off 99 _ rfl rfl hg35 rfl ?_
                            refine o_on 96 _ rfl rfl hg31 ?_
                            refine o_p (p_pickt rfl rfl hg35 rfl) rfl ?_
                            refine o_nil ?_
                            exact s_joinN 10 109 _ rfl rfl rfl (fun w h => by first | exact h | exact h.ent aEt)) ?_
                        refine o_on 93 _ rfl rfl hg29 ?_
                        refine o_p (p_pickt rfl rfl hg31 rfl) rfl ?_
                        refine o_nil ?_
                        exact s_joinN 5 110 _ rfl rfl rfl (fun w h => by first | exact h | exact h.ent aEt))
                      (by
                        intro hg37
                        have hs38 := hg37; try simp only [decide_eq_true_eq, decide_eq_false_iff_not, Bool.not_eq_true', Bool.not_eq_false', Bool.and_eq_true, Bool.or_eq_true, Bool.and_eq_false_iff, Bool.or_eq_false_iff, Bool.not_true, Bool.not_false] at hs38
                        refine o_off 96 _ rfl rfl hg37 rfl ?_
                        refine o_off 96 _ rfl rfl hg37 rfl ?_
                        refine o_off 96 _ rfl rfl hg37 rfl ?_
                        refine o_off' 99 rfl rfl rfl ?_
                        refine o_off' 99 rfl rfl rfl ?_
                        refine o_off' 99 rfl rfl rfl ?_
                        refine o_off' 99 rfl rfl rfl ?_
                        refine o_off' 99 rfl rfl rfl ?_
                        refine o_off' 99 rfl rfl rfl ?_
                        refine o_off' 99 rfl rfl rfl ?_
                        refine o_off' 99 rfl rfl rfl ?_
                        refine o_off' 99 rfl rfl rfl ?_
                        refine o_off 96 _ rfl rfl hg37 rfl ?_
                        refine o_on 93 _ rfl rfl hg29 ?_
                        refine o_p (p_pickf rfl rfl hg37 rfl) rfl ?_
                        refine o_nil ?_
                        exact s_joinN 14 110 _ rfl rfl rfl (fun w h => by first | exact h | exact h.ent aEt)) ?_
                    refine o_p (p_pickf rfl rfl hg29 rfl) rfl ?_
                    refine o_nil ?_
                    exact s_joinN 5 111 _ rfl rfl rfl (fun w h => by first | exact h | exact h.ent aEt))
                  (by
                    intro hg39
                    have hs40 := hg39; try simp only [decide_eq_true_eq, decide_eq_false_iff_not, Bool.not_eq_true', Bool.not_eq_false', Bool.and_eq_true, Bool.or_eq_true, Bool.and_eq_false_iff, Bool.or_eq_false_iff, Bool.not_true, Bool.not_false] at hs40
                    refine o_off 93 _ rfl rfl hg39 rfl ?_
                    refine o_off 93 _ rfl rfl hg39 rfl ?_
                    refine o_off 93 _ rfl rfl hg39 rfl ?_
                    refine o_off' 96 rfl rfl rfl ?_
                    refine o_off' 96 rfl rfl rfl ?_
                    refine o_off' 96 rfl rfl rfl ?_
                    refine o_off' 99 rfl rfl rfl ?_
                    refine o_off' 99 rfl rfl rfl ?_
                    refine o_off' 99 rfl rfl rfl ?_
                    refine o_off' 99 rfl rfl rfl ?_
                    refine o_off' 99 rfl rfl rfl ?_
                    refine o_off' 99 rfl rfl rfl ?_
                    refine o_off' 99 rfl rfl rfl ?_
                    refine o_off' 99 rfl rfl rfl ?_
                    refine o_off' 99 rfl rfl rfl ?_
                    refine o_off' 96 rfl rfl rfl ?_
                    refine o_off 93 _ rfl rfl hg39 rfl ?_
                    refine o_p (p_pickt rfl rfl hg39 rfl) rfl ?_
                    refine o_nil ?_
                    exact s_joinN 18 111 _ rfl rfl rfl (fun w h => by first | exact h | exact h.ent aEt)) ?_
                refine o_nil ?_
                refine s_cond rfl (fun h41 => ?_) (fun h41 => ?_)
                · try simp only [decide_eq_true_eq, decide_eq_false_iff_not, Bool.not_eq_true', Bool.not_eq_false', Bool.and_eq_true, Bool.or_eq_true, Bool.and_eq_false_iff, Bool.or_eq_false_iff, Bool.not_true, Bool.not_false] at h41
                  exfalso; by_cases hA : matE t p (l.getD k []) = 0 <;> simp_all
                · try simp only [decide_eq_true_eq, decide_eq_false_iff_not, Bool.not_eq_true', Bool.not_eq_false', Bool.and_eq_true, Bool.or_eq_true, Bool.and_eq_false_iff, Bool.or_eq_false_iff, Bool.not_true, Bool.not_false] at h41
                  refine s_skip ?_
                  refine s_seq ?_
                  refine s_region ?_
                  refine o_p (p_pure rfl) rfl ?_
                  refine o_p (p_pure rfl) rfl ?_
                  refine o_p (p_pure rfl) rfl ?_
                  refine o_and 2 114 116 _ _ rfl
                    (by
                      intro hg42
                      have hs43 := hg42; try simp only [decide_eq_true_eq, decide_eq_false_iff_not, Bool.not_eq_true', Bool.not_eq_false', Bool.and_eq_true, Bool.or_eq_true, Bool.and_eq_false_iff, Bool.or_eq_false_iff, Bool.not_true, Bool.not_false] at hs43
                      refine o_on 114 _ rfl rfl hg42 ?_
                      refine o_p (p_pure rfl) rfl ?_
                      refine o_p (p_pickt rfl rfl hg42 rfl) rfl ?_
                      refine o_nil ?_
                      exact s_joinN 2 116 _ rfl rfl rfl (fun w h => by first | exact h | exact h.ent aEt))
                    (by
                      intro hg44
                      have hs45 := hg44; try simp only [decide_eq_true_eq, decide_eq_false_iff_not, Bool.not_eq_true', Bool.not_eq_false', Bool.and_eq_true, Bool.or_eq_true, Bool.and_eq_false_iff, Bool.or_eq_false_iff, Bool.not_true, Bool.not_false] at hs45
                      refine o_off 114 _ rfl rfl hg44 rfl ?_
                      refine o_p (p_pickf rfl rfl hg44 rfl) rfl ?_
                      refine o_nil ?_
                      exact s_joinN 2 116 _ rfl rfl rfl (fun w h => by first | exact h | exact h.ent aEt)) ?_
                  refine o_nil ?_
                  refine s_cond rfl (fun h46 => ?_) (fun h46 => ?_)
                  · try simp only [decide_eq_true_eq, decide_eq_false_iff_not, Bool.not_eq_true', Bool.not_eq_false', Bool.and_eq_true, Bool.or_eq_true, Bool.and_eq_false_iff, Bool.or_eq_false_iff, Bool.not_true, Bool.not_false] at h46
                    exfalso; exact hm0 (h46).1
                  · try simp only [decide_eq_true_eq, decide_eq_false_iff_not, Bool.not_eq_true', Bool.not_eq_false', Bool.and_eq_true, Bool.or_eq_true, Bool.and_eq_false_iff, Bool.or_eq_false_iff, Bool.not_true, Bool.not_false] at h46
                    refine s_skip ?_
                    refine s_blk ?_
                    refine s_weaken (L' := [(0, _), (1, _), (2, _), (7, _), (8, _), (9, _), (10, _), (11, _), (12, _), (39, _), (42, _), (43, _), (44, _), (47, _), (48, _), (49, _), (58, _)]) aSx (fun _ h => h) ?_
                    refine s_region ?_
                    refine o_p (p_pure rfl) rfl ?_
                    refine o_p (p_pure rfl) rfl ?_
                    try (refine o_slot (i64w (by omega) (by omega)) ?_)
                    refine o_p (p_pure rfl) rfl ?_
                    refine o_nil ?_
                    exact s_backI (k + 1) (by omega) (by omega) aSx (fun w h => h.ent aEt)
            · try simp only [decide_eq_true_eq, decide_eq_false_iff_not, Bool.not_eq_true', Bool.not_eq_false', Bool.and_eq_true, Bool.or_eq_true, Bool.and_eq_false_iff, Bool.or_eq_false_iff, Bool.not_true, Bool.not_false] at h19
              obtain rfl : k = l.length := by omega
              have hkl := hitsTo_len (t := t) (p := p) (l := l) (k := l.length)
              refine s_exit_to rfl ?_
              refine s_seq ?_
              refine s_region ?_
              refine o_p (p_pure rfl) rfl ?_
              refine o_p (p_pure rfl) rfl ?_
              refine o_p (p_pure rfl) rfl ?_
              refine o_or 8 123 131 _ _ rfl
                (by
                  intro hg47
                  have hs48 := hg47; try simp only [decide_eq_true_eq, decide_eq_false_iff_not, Bool.not_eq_true', Bool.not_eq_false', Bool.and_eq_true, Bool.or_eq_true, Bool.and_eq_false_iff, Bool.or_eq_false_iff, Bool.not_true, Bool.not_false] at hs48
                  refine o_on 123 _ rfl rfl hg47 ?_
                  refine o_p (p_pure rfl) rfl ?_
                  refine o_on 123 _ rfl rfl hg47 ?_
                  refine o_p (p_pure rfl) rfl ?_
                  refine o_on 123 _ rfl rfl hg47 ?_
                  refine o_p (p_pure rfl) rfl ?_
                  refine o_and 4 126 130 _ _ rfl
                    (by
                      intro hg49
                      have hs50 := hg49; try simp only [decide_eq_true_eq, decide_eq_false_iff_not, Bool.not_eq_true', Bool.not_eq_false', Bool.and_eq_true, Bool.or_eq_true, Bool.and_eq_false_iff, Bool.or_eq_false_iff, Bool.not_true, Bool.not_false] at hs50
                      refine o_on 126 _ rfl rfl hg49 ?_
                      refine o_p (p_pure rfl) rfl ?_
                      refine o_on 126 _ rfl rfl hg49 ?_
                      refine o_p (p_pure rfl) rfl ?_
                      refine o_on 126 _ rfl rfl hg49 ?_
                      refine o_q (q_call rfl fn_21 rfl (fun w1 h1 => x21 w1 _ _ (by have hq := hg49; simp at hq; grind))) rfl ?_
                      refine o_on 123 _ rfl rfl hg47 ?_
                      refine o_p (p_pickt rfl rfl hg49 rfl) rfl ?_
                      refine o_nil ?_
                      exact s_joinN 4 130 _ rfl rfl rfl (fun w h => by first | exact h | exact h.ent aEt))
                    (by
                      intro hg51
                      have hs52 := hg51; try simp only [decide_eq_true_eq, decide_eq_false_iff_not, Bool.not_eq_true', Bool.not_eq_false', Bool.and_eq_true, Bool.or_eq_true, Bool.and_eq_false_iff, Bool.or_eq_false_iff, Bool.not_true, Bool.not_false] at hs52
                      refine o_off 126 _ rfl rfl hg51 rfl ?_
                      refine o_off 126 _ rfl rfl hg51 rfl ?_
                      refine o_off 126 _ rfl rfl hg51 rfl ?_
                      refine o_on 123 _ rfl rfl hg47 ?_
                      refine o_p (p_pickf rfl rfl hg51 rfl) rfl ?_
                      refine o_nil ?_
                      exact s_joinN 4 130 _ rfl rfl rfl (fun w h => by first | exact h | exact h.ent aEt)) ?_
                  refine o_p (p_pickf rfl rfl hg47 rfl) rfl ?_
                  refine o_nil ?_
                  exact s_joinN 5 131 _ rfl rfl rfl (fun w h => by first | exact h | exact h.ent aEt))
                (by
                  intro hg53
                  have hs54 := hg53; try simp only [decide_eq_true_eq, decide_eq_false_iff_not, Bool.not_eq_true', Bool.not_eq_false', Bool.and_eq_true, Bool.or_eq_true, Bool.and_eq_false_iff, Bool.or_eq_false_iff, Bool.not_true, Bool.not_false] at hs54
                  refine o_off 123 _ rfl rfl hg53 rfl ?_
                  refine o_off 123 _ rfl rfl hg53 rfl ?_
                  refine o_off 123 _ rfl rfl hg53 rfl ?_
                  refine o_off' 126 rfl rfl rfl ?_
                  refine o_off' 126 rfl rfl rfl ?_
                  refine o_off' 126 rfl rfl rfl ?_
                  refine o_off 123 _ rfl rfl hg53 rfl ?_
                  refine o_p (p_pickt rfl rfl hg53 rfl) rfl ?_
                  refine o_nil ?_
                  exact s_joinN 8 131 _ rfl rfl rfl (fun w h => by first | exact h | exact h.ent aEt)) ?_
              refine o_p (p_pure rfl) rfl ?_
              refine o_nil ?_
              exact s_retv (rs := [.tmp 6]) rfl (.tmp rfl (.nil)) (fun w' h' => ⟨by simp [hm0, retV], h'.below⟩)

theorem matE_of {t p : List UInt8} {l : List (List UInt8)} {k : Nat} (h : matL t p l = 0) (hk : k < l.length) : matE t p (l.getD k []) = 0 := by
  obtain ⟨h1, h2, h3⟩ := matL_ok h
  exact matE_0 h1 h2 ((namesE_ok h3).2 _ (getD_mem hk))

set_option maxRecDepth 20000 in
set_option maxHeartbeats 4000000 in
theorem e4 (w : World) (t p : List UInt8) (a : Option Addr) (cap : Nat) (l : List (List UInt8)) (hmt : t.length ≤ 9223372036854775807) (hmp : p.length ≤ 9223372036854775807) (hs : Vl w a (l.map strV)) (hln : l.length ≤ 9223372036854775807) (hml : ∀ s ∈ l, s.length ≤ 9223372036854775807) (ht : TabOk w) (hm0 : matL t p l = 0) : Calls Tryd.prog 4 #[.string (bs t), .string (bs p), .slice a l.length cap] w fun en w' => en = .returned (.bool true) ∧ Below w.heap.size w w' := by
  refine enter (args := [_, _, _]) Tryd.func4 Tryd.ntmps4 rfl rfl (HS.refl w []) ?_
  refine s_seq ?_
  refine s_region ?_
  refine o_p (p_pure rfl) rfl ?_
  refine o_nil ?_
  refine s_seq ?_
  refine s_seq ?_
  refine s_region ?_
  refine o_q (q_call rfl fn_10 rfl (fun w1 h1 => c10 w1 (ht.later h1))) rfl ?_
  refine o_p (p_pure rfl) rfl ?_
  refine o_nil ?_
  refine s_cond rfl (fun h1 => ?_) (fun h1 => ?_)
  · try simp only [decide_eq_true_eq, decide_eq_false_iff_not, Bool.not_eq_true', Bool.not_eq_false', Bool.and_eq_true, Bool.or_eq_true, Bool.and_eq_false_iff, Bool.or_eq_false_iff, Bool.not_true, Bool.not_false] at h1
    exfalso; cases h1
  · try simp only [decide_eq_true_eq, decide_eq_false_iff_not, Bool.not_eq_true', Bool.not_eq_false', Bool.and_eq_true, Bool.or_eq_true, Bool.and_eq_false_iff, Bool.or_eq_false_iff, Bool.not_true, Bool.not_false] at h1
    refine s_skip ?_
    refine s_seq ?_
    refine s_seq ?_
    refine s_region ?_
    refine o_p (p_pure rfl) rfl ?_
    refine o_p (p_pure rfl) rfl ?_
    refine o_h (h_buildSlice (cs := [_, _]) rfl rfl sl_29 zr_9 rfl rfl rfl) rfl (fun b2 _ => ?_)
    refine o_q (q_call rfl fn_11 rfl (fun w1 h1 => c11 w1 _ _ [t, p] (h1.vl_blk aPk) (by simp) (by intro x hx; simp only [List.mem_cons, List.mem_nil_iff, or_false] at hx; rcases hx with rfl | rfl <;> assumption))) rfl ?_
    refine o_p (p_pure rfl) rfl ?_
    refine o_p (p_pure rfl) rfl ?_
    refine o_or 4 23 27 _ _ rfl
      (by
        intro hg3
        have hs4 := hg3; try simp only [decide_eq_true_eq, decide_eq_false_iff_not, Bool.not_eq_true', Bool.not_eq_false', Bool.and_eq_true, Bool.or_eq_true, Bool.and_eq_false_iff, Bool.or_eq_false_iff, Bool.not_true, Bool.not_false] at hs4
        refine o_on 23 _ rfl rfl hg3 ?_
        refine o_p (p_pure rfl) rfl ?_
        refine o_on 23 _ rfl rfl hg3 ?_
        refine o_q (q_call rfl fn_16 rfl (fun w1 h1 => c16 w1 a cap l (hs.later h1) hln hml)) rfl ?_
        refine o_on 23 _ rfl rfl hg3 ?_
        refine o_p (p_pure rfl) rfl ?_
        refine o_p (p_pickf rfl rfl hg3 rfl) rfl ?_
        refine o_nil ?_
        exact s_joinN 4 27 _ rfl rfl rfl (fun w h => by first | exact h | exact h.ent aEt))
      (by
        intro hg5
        have hs6 := hg5; try simp only [decide_eq_true_eq, decide_eq_false_iff_not, Bool.not_eq_true', Bool.not_eq_false', Bool.and_eq_true, Bool.or_eq_true, Bool.and_eq_false_iff, Bool.or_eq_false_iff, Bool.not_true, Bool.not_false] at hs6
        refine o_off 23 _ rfl rfl hg5 rfl ?_
        refine o_off 23 _ rfl rfl hg5 rfl ?_
        refine o_off 23 _ rfl rfl hg5 rfl ?_
        refine o_p (p_pickt rfl rfl hg5 rfl) rfl ?_
        refine o_nil ?_
        exact s_joinN 4 27 _ rfl rfl rfl (fun w h => by first | exact h | exact h.ent aEt)) ?_
    refine o_nil ?_
    refine s_cond rfl (fun h7 => ?_) (fun h7 => ?_)
    · try simp only [decide_eq_true_eq, decide_eq_false_iff_not, Bool.not_eq_true', Bool.not_eq_false', Bool.and_eq_true, Bool.or_eq_true, Bool.and_eq_false_iff, Bool.or_eq_false_iff, Bool.not_true, Bool.not_false] at h7
      refine s_seq ?_
      refine s_region ?_
      refine o_p (p_pure rfl) rfl ?_
      refine o_nil ?_
      exact s_retv (rs := [.tmp 6]) rfl (.tmp rfl (.nil)) (fun w' h' => ⟨by rfl, h'.below⟩)
    · try simp only [decide_eq_true_eq, decide_eq_false_iff_not, Bool.not_eq_true', Bool.not_eq_false', Bool.and_eq_true, Bool.or_eq_true, Bool.and_eq_false_iff, Bool.or_eq_false_iff, Bool.not_true, Bool.not_false] at h7
      have hf : smallU [t, p] = true ∧ fewU l = true := by have hq := h7; grind
      have hsz := sm2 hf.1
      have hfw := few_ok hf.2
      have hml6 : ∀ s ∈ l, s.length ≤ 1000000 := fun s hA => by have := hfw.2 s hA; omega
      refine s_skip ?_
      refine s_seq ?_
      refine s_region ?_
      refine o_p (p_pure rfl) rfl ?_
      refine o_p (p_pure rfl) rfl ?_
      refine o_p (p_pure rfl) rfl ?_
      refine o_h (h_call rfl fn_18 rfl (fun w1 h1 => c18 w1 a cap l (hs.later h1) (by omega))) rfl (fun gc _ => ?_)
      refine o_h (h_call rfl fn_17 rfl (fun w1 h1 => e17 w1 t p _ _ l (by omega) (by omega) (h1.vl_own aPk) (by omega) hml6 hm0)) rfl (fun gm _ => ?_)
      refine o_p (p_pure rfl) rfl ?_
      refine o_p (p_pure rfl) rfl ?_
      refine o_p (p_pure rfl) rfl ?_
      refine o_p (p_pure rfl) rfl ?_
      refine o_p (p_pure rfl) rfl ?_
      refine o_nil ?_
      refine s_seq ?_
      refine s_region ?_
      refine o_p (p_pure rfl) rfl ?_
      refine o_q (q_call rfl fn_12 rfl (fun w1 h1 => c12 w1 t (by omega))) rfl ?_
      refine o_p (p_pure rfl) rfl ?_
      refine o_nil ?_
      refine s_seq ?_
      refine s_seq ?_
      refine s_region ?_
      refine o_p (p_pure rfl) rfl ?_
      refine o_p (p_pure rfl) rfl ?_
      refine o_nil ?_
      refine s_weaken (L' := [(0, _), (1, _), (2, _), (6, _), (7, _), (8, _), (9, _), (39, _)]) aSx (fun _ h => h) ?_
      refine s_cutI (α := Unit) [9, 40, 41] (fun _ => [(9, .int .i64 (dU t p))]) (fun _ => HS w [] [.own (.slice gm.1 (hitsTo t p l l.length).length gm.2) 3 1 (hitsTo t p l l.length).length ((hitsTo t p l l.length).map naV)]) (fun _ => True) ?_ ?_
      · skip
        refine s_cond rfl (fun h8 => ?_) (fun h8 => ?_)
        · try simp only [decide_eq_true_eq, decide_eq_false_iff_not, Bool.not_eq_true', Bool.not_eq_false', Bool.and_eq_true, Bool.or_eq_true, Bool.and_eq_false_iff, Bool.or_eq_false_iff, Bool.not_true, Bool.not_false] at h8
          have h9 : dU t p = patE p := by rw [dU, if_pos h8]
          refine s_region ?_
          refine o_p (p_pure rfl) rfl ?_
          refine o_q (q_call rfl fn_13 rfl (fun w1 h1 => c13 w1 p (by omega))) rfl ?_
          refine o_p (p_pure rfl) rfl ?_
          refine o_nil ?_
          exact s_joinI () trivial (by (try dsimp only); rw [h9]; exact aSx) (fun w h => h.ent aEt)
        · try simp only [decide_eq_true_eq, decide_eq_false_iff_not, Bool.not_eq_true', Bool.not_eq_false', Bool.and_eq_true, Bool.or_eq_true, Bool.and_eq_false_iff, Bool.or_eq_false_iff, Bool.not_true, Bool.not_false] at h8
          have h9 : dU t p = (chkTab t).2 := by rw [dU, if_neg h8]
          refine s_skip ?_
          exact s_joinI () trivial (by (try dsimp only); rw [h9]; exact aSx) (fun w h => h.ent aEt)
      · intro _ _
        refine s_seq ?_
        refine s_region ?_
        refine o_p (p_pure rfl) rfl ?_
        refine o_p (p_pure rfl) rfl ?_
        refine o_nil ?_
        refine s_seq ?_
        refine s_seq ?_
        refine s_region ?_
        refine o_p (p_pure rfl) rfl ?_
        refine o_p (p_pure rfl) rfl ?_
        refine o_nil ?_
        refine s_cutI (α := Unit) [10, 45, 46] (fun _ => [(10, .int .i64 (matL t p l))]) (fun _ => HS w [] [.own (.slice gm.1 (hitsTo t p l l.length).length gm.2) 3 1 (hitsTo t p l l.length).length ((hitsTo t p l l.length).map naV)]) (fun _ => True) ?_ ?_
        · skip
          refine s_cond rfl (fun h9 => ?_) (fun h9 => ?_)
          · try simp only [decide_eq_true_eq, decide_eq_false_iff_not, Bool.not_eq_true', Bool.not_eq_false', Bool.and_eq_true, Bool.or_eq_true, Bool.and_eq_false_iff, Bool.or_eq_false_iff, Bool.not_true, Bool.not_false] at h9
            have h9 : matL t p l = namesE l := by rw [matL_d, if_pos h9]
            refine s_region ?_
            refine o_p (p_pure rfl) rfl ?_
            refine o_q (q_call rfl fn_19 rfl (fun w1 h1 => c19 w1 a cap l (hs.later h1) (by omega) hml6)) rfl ?_
            refine o_p (p_pure rfl) rfl ?_
            refine o_nil ?_
            exact s_joinI () trivial (by (try dsimp only); rw [h9]; exact aSx) (fun w h => h.ent aEt)
          · try simp only [decide_eq_true_eq, decide_eq_false_iff_not, Bool.not_eq_true', Bool.not_eq_false', Bool.and_eq_true, Bool.or_eq_true, Bool.and_eq_false_iff, Bool.or_eq_false_iff, Bool.not_true, Bool.not_false] at h9
            have h9 : matL t p l = dU t p := by rw [matL_d, if_neg h9]
            refine s_skip ?_
            exact s_joinI () trivial (by (try dsimp only); rw [h9]; exact aSx) (fun w h => h.ent aEt)
        · intro _ _
          refine s_seq ?_
          refine s_seq ?_
          refine s_region ?_
          refine o_p (p_pure rfl) rfl ?_
          refine o_p (p_pure rfl) rfl ?_
          refine o_p (p_pure rfl) rfl ?_
          refine o_and 9 49 58 _ _ rfl
            (by
              intro hg10
              have hs11 := hg10; try simp only [decide_eq_true_eq, decide_eq_false_iff_not, Bool.not_eq_true', Bool.not_eq_false', Bool.and_eq_true, Bool.or_eq_true, Bool.and_eq_false_iff, Bool.or_eq_false_iff, Bool.not_true, Bool.not_false] at hs11
              refine o_on 49 _ rfl rfl hg10 ?_
              refine o_p (p_pure rfl) rfl ?_
              refine o_on 49 _ rfl rfl hg10 ?_
              refine o_p (p_pure rfl) rfl ?_
              refine o_on 49 _ rfl rfl hg10 ?_
              refine o_p (p_pure rfl) rfl ?_
              refine o_on 49 _ rfl rfl hg10 ?_
              refine o_p (p_pure rfl) rfl ?_
              refine o_or 4 53 57 _ _ rfl
                (by
                  intro hg12
                  have hs13 := hg12; try simp only [decide_eq_true_eq, decide_eq_false_iff_not, Bool.not_eq_true', Bool.not_eq_false', Bool.and_eq_true, Bool.or_eq_true, Bool.and_eq_false_iff, Bool.or_eq_false_iff, Bool.not_true, Bool.not_false] at hs13
                  refine o_on 53 _ rfl rfl hg12 ?_
                  refine o_p (p_pure rfl) rfl ?_
                  refine o_on 53 _ rfl rfl hg12 ?_
                  refine o_p (p_len_slice rfl rfl Tryd.underlying31) rfl ?_
                  refine o_on 53 _ rfl rfl hg12 ?_
                  refine o_p (p_pure rfl) rfl ?_
                  refine o_on 49 _ rfl rfl hg10 ?_
                  refine o_p (p_pickf rfl rfl hg12 rfl) rfl ?_
                  refine o_nil ?_
                  exact s_joinN 4 57 _ rfl rfl rfl (fun w h => by first | exact h | exact h.ent aEt))
                (by
                  intro hg14
                  have hs15 := hg14; try simp only [decide_eq_true_eq, decide_eq_false_iff_not, Bool.not_eq_true', Bool.not_eq_false', Bool.and_eq_true, Bool.or_eq_true, Bool.and_eq_false_iff, Bool.or_eq_false_iff, Bool.not_true, Bool.not_false] at hs15
                  refine o_off 53 _ rfl rfl hg14 rfl ?_
                  refine o_off 53 _ rfl rfl hg14 rfl ?_
                  refine o_off 53 _ rfl rfl hg14 rfl ?_
                  refine o_on 49 _ rfl rfl hg10 ?_
                  refine o_p (p_pickt rfl rfl hg14 rfl) rfl ?_
                  refine o_nil ?_
                  exact s_joinN 4 57 _ rfl rfl rfl (fun w h => by first | exact h | exact h.ent aEt)) ?_
              refine o_p (p_pickt rfl rfl hg10 rfl) rfl ?_
              refine o_nil ?_
              exact s_joinN 6 58 _ rfl rfl rfl (fun w h => by first | exact h | exact h.ent aEt))
            (by
              intro hg16
              have hs17 := hg16; try simp only [decide_eq_true_eq, decide_eq_false_iff_not, Bool.not_eq_true', Bool.not_eq_false', Bool.and_eq_true, Bool.or_eq_true, Bool.and_eq_false_iff, Bool.or_eq_false_iff, Bool.not_true, Bool.not_false] at hs17
              refine o_off 49 _ rfl rfl hg16 rfl ?_
              refine o_off 49 _ rfl rfl hg16 rfl ?_
              refine o_off 49 _ rfl rfl hg16 rfl ?_
              refine o_off 49 _ rfl rfl hg16 rfl ?_
              refine o_off' 53 rfl rfl rfl ?_
              refine o_off' 53 rfl rfl rfl ?_
              refine o_off' 53 rfl rfl rfl ?_
              refine o_off 49 _ rfl rfl hg16 rfl ?_
              refine o_p (p_pickf rfl rfl hg16 rfl) rfl ?_
              refine o_nil ?_
              exact s_joinN 9 58 _ rfl rfl rfl (fun w h => by first | exact h | exact h.ent aEt)) ?_
          refine o_nil ?_
          refine s_cond rfl (fun h18 => ?_) (fun h18 => ?_)
          · try simp only [decide_eq_true_eq, decide_eq_false_iff_not, Bool.not_eq_true', Bool.not_eq_false', Bool.and_eq_true, Bool.or_eq_true, Bool.and_eq_false_iff, Bool.or_eq_false_iff, Bool.not_true, Bool.not_false] at h18
            exfalso; simp_all
          · try simp only [decide_eq_true_eq, decide_eq_false_iff_not, Bool.not_eq_true', Bool.not_eq_false', Bool.and_eq_true, Bool.or_eq_true, Bool.and_eq_false_iff, Bool.or_eq_false_iff, Bool.not_true, Bool.not_false] at h18
            refine s_skip ?_
            refine s_seq ?_
            refine s_region ?_
            refine o_p (p_pure rfl) rfl ?_
            refine o_nil ?_
            refine s_seq ?_
            refine s_seq ?_
            refine s_region ?_
            refine o_p (p_pure rfl) rfl ?_
            refine o_nil ?_
            refine s_block ?_
            refine s_loopI (α := Nat × (Option Addr × Nat)) [6, 11, 12, 13, 14, 15, 59, 60, 61, 62, 63, 64, 65, 66, 67, 68, 69, 70, 71, 72, 73, 74, 75, 76, 77, 78, 79, 80, 81, 82, 83, 84, 85, 86, 87, 88, 89, 90, 91, 92, 93, 94, 95, 96, 97, 98, 99, 100, 101, 102, 103, 104, 105, 106, 107, 108, 109, 110, 111, 112, 113, 114, 115, 116, 117, 118, 119, 120] (fun y => [(12, .int .i64 (y.1 : Int)), (11, .slice y.2.1 (hitsTo t p l y.1).length y.2.2)]) (fun y => HS w [] [.own (.slice y.2.1 (hitsTo t p l y.1).length y.2.2) 3 1 (hitsTo t p l y.1).length ((hitsTo t p l y.1).map naV), .own (.slice gm.1 (hitsTo t p l l.length).length gm.2) 3 1 (hitsTo t p l l.length).length ((hitsTo t p l l.length).map naV)]) (fun y => y.1 ≤ l.length) (fun y => l.length - y.1) (0, (none, 0)) (Nat.zero_le _) aSx (fun w h => (h.own_nil 3 1).ent aEt) (fun ⟨k, A⟩ hk1 => ?_)
            dsimp only at hk1 ⊢
            refine s_seq ?_
            refine s_seq ?_
            refine s_region ?_
            refine o_p (p_pure rfl) rfl ?_
            refine o_p (p_pure rfl) rfl ?_
            refine o_p (p_len_slice rfl rfl Tryd.underlying29) rfl ?_
            refine o_p (p_pure rfl) rfl ?_
            refine o_nil ?_
            refine s_cond rfl (fun h19 => ?_) (fun h19 => ?_)
            · try simp only [decide_eq_true_eq, decide_eq_false_iff_not, Bool.not_eq_true', Bool.not_eq_false', Bool.and_eq_true, Bool.or_eq_true, Bool.and_eq_false_iff, Bool.or_eq_false_iff, Bool.not_true, Bool.not_false] at h19
              have hk : k < l.length := by omega
              have hkl := hitsTo_len (t := t) (p := p) (l := l) (k := k)
              have hsc := hitsTo_succ (t := t) (p := p) (l := l) (k := k)
              refine s_skip ?_
              refine s_seq ?_
              refine s_block ?_
              refine s_seq ?_
              refine s_region ?_
              refine o_p (p_pure rfl) rfl ?_
              refine o_p (p_pure rfl) rfl ?_
              refine o_nil ?_
              refine s_seq ?_
              refine s_seq ?_
              refine s_region ?_
              refine o_p (p_pure rfl) rfl ?_
              refine o_p (p_pure rfl) rfl ?_
              refine o_nil ?_
              refine s_cutI (α := Unit) [13, 68, 69, 70, 71, 72] (fun _ => [(13, .int .i64 (matE t p (l.getD k [])))]) (fun _ => HS w [] [.own (.slice A.1 (hitsTo t p l k).length A.2) 3 1 (hitsTo t p l k).length ((hitsTo t p l k).map naV), .own (.slice gm.1 (hitsTo t p l l.length).length gm.2) 3 1 (hitsTo t p l l.length).length ((hitsTo t p l l.length).map naV)]) (fun _ => True) ?_ ?_
              · skip
                refine s_cond rfl (fun h20 => ?_) (fun h20 => ?_)
                · try simp only [decide_eq_true_eq, decide_eq_false_iff_not, Bool.not_eq_true', Bool.not_eq_false', Bool.and_eq_true, Bool.or_eq_true, Bool.and_eq_false_iff, Bool.or_eq_false_iff, Bool.not_true, Bool.not_false] at h20
                  have h9 : matE t p (l.getD k []) = nameE (l.getD k []) := by rw [matE_d, if_pos h20]
                  refine s_region ?_
                  refine o_p (p_pure rfl) rfl ?_
                  refine o_p (p_pure rfl) rfl ?_
                  refine o_p (p_indexAddr rfl rfl rfl sl_29 (k) (by omega) (by omega) (hs.some (by rw [List.length_map]; omega))) rfl ?_
                  refine o_q (q_load_old rfl rfl sz_9 ((hs.rd (str_get' (k := k) hk)))) rfl ?_
                  refine o_q (q_call rfl fn_14 rfl (fun w1 h1 => c14 w1 (l.getD k []) (hml _ (getD_mem hk)))) rfl ?_
                  refine o_p (p_pure rfl) rfl ?_
                  refine o_nil ?_
                  exact s_joinI () trivial (by (try dsimp only); rw [h9]; exact aSx) (fun w h => h.ent aEt)
                · try simp only [decide_eq_true_eq, decide_eq_false_iff_not, Bool.not_eq_true', Bool.not_eq_false', Bool.and_eq_true, Bool.or_eq_true, Bool.and_eq_false_iff, Bool.or_eq_false_iff, Bool.not_true, Bool.not_false] at h20
                  have h9 : matE t p (l.getD k []) = dU t p := by rw [matE_d, if_neg h20]
                  refine s_skip ?_
                  exact s_joinI () trivial (by (try dsimp only); rw [h9]; exact aSx) (fun w h => h.ent aEt)
              · intro _ _
                refine s_seq ?_
                refine s_region ?_
                refine o_p (p_pure rfl) rfl ?_
                refine o_p (p_pure rfl) rfl ?_
                refine o_p (p_pure rfl) rfl ?_
                refine o_p (p_pure rfl) rfl ?_
                refine o_p (p_indexAddr rfl rfl rfl sl_29 (k) (by omega) (by omega) (hs.some (by rw [List.length_map]; omega))) rfl ?_
                refine o_q (q_load_old rfl rfl sz_9 ((hs.rd (str_get' (k := k) hk)))) rfl ?_
                refine o_q (q_call rfl fn_15 rfl (fun w1 h1 => c15 w1 t p (l.getD k []) (by omega) (by omega) (hml6 _ (getD_mem hk)))) rfl ?_
                refine o_p (p_pure rfl) rfl ?_
                refine o_p (p_pure rfl) rfl ?_
                refine o_p (p_pure rfl) rfl ?_
                refine o_p (p_pure rfl) rfl ?_
                refine o_p (p_pure rfl) rfl ?_
                refine o_nil ?_
                refine s_seq ?_
                refine s_seq ?_
                refine s_weaken (L' := [(0, _), (1, _), (2, _), (7, _), (8, _), (9, _), (10, _), (11, _), (12, _), (13, _), (14, _), (15, _), (39, _), (42, _), (43, _), (44, _), (47, _), (48, _), (49, _), (58, _)]) aSx (fun _ h => h) ?_
                refine s_region ?_
                refine o_p (p_pure rfl) rfl ?_
                refine o_p (p_pure rfl) rfl ?_
                refine o_p (p_pure rfl) rfl ?_
                refine o_and 7 85 92 _ _ rfl
                  (by
                    intro hg21
                    have hs22 := hg21; try simp only [decide_eq_true_eq, decide_eq_false_iff_not, Bool.not_eq_true', Bool.not_eq_false', Bool.and_eq_true, Bool.or_eq_true, Bool.and_eq_false_iff, Bool.or_eq_false_iff, Bool.not_true, Bool.not_false] at hs22
                    refine o_on 85 _ rfl rfl hg21 ?_
                    refine o_p (p_pure rfl) rfl ?_
                    refine o_on 85 _ rfl rfl hg21 ?_
                    refine o_p (p_pure rfl) rfl ?_
                    refine o_on 85 _ rfl rfl hg21 ?_
                    refine o_p (p_pure rfl) rfl ?_
                    refine o_on 85 _ rfl rfl hg21 ?_
                    refine o_p (p_pure rfl) rfl ?_
                    refine o_or 2 89 91 _ _ rfl
                      (by
                        intro hg23
                        have hs24 := hg23; try simp only [decide_eq_true_eq, decide_eq_false_iff_not, Bool.not_eq_true', Bool.not_eq_false', Bool.and_eq_true, Bool.or_eq_true, Bool.and_eq_false_iff, Bool.or_eq_false_iff, Bool.not_true, Bool.not_false] at hs24
                        refine o_on 89 _ rfl rfl hg23 ?_
                        refine o_p (p_pure rfl) rfl ?_
                        refine o_on 85 _ rfl rfl hg21 ?_
                        refine o_p (p_pickf rfl rfl hg23 rfl) rfl ?_
                        refine o_nil ?_
                        exact s_joinN 2 91 _ rfl rfl rfl (fun w h => by first | exact h | exact h.ent aEt))
                      (by
                        intro hg25
                        have hs26 := hg25; try simp only [decide_eq_true_eq, decide_eq_false_iff_not, Bool.not_eq_true', Bool.not_eq_false', Bool.and_eq_true, Bool.or_eq_true, Bool.and_eq_false_iff, Bool.or_eq_false_iff, Bool.not_true, Bool.not_false] at hs26
                        refine o_off 89 _ rfl rfl hg25 rfl ?_
                        refine o_on 85 _ rfl rfl hg21 ?_
                        refine o_p (p_pickt rfl rfl hg25 rfl) rfl ?_
                        refine o_nil ?_
                        exact s_joinN 2 91 _ rfl rfl rfl (fun w h => by first | exact h | exact h.ent aEt)) ?_
                    refine o_p (p_pickt rfl rfl hg21 rfl) rfl ?_
                    refine o_nil ?_
                    exact s_joinN 6 92 _ rfl rfl rfl (fun w h => by first | exact h | exact h.ent aEt))
                  (by
                    intro hg27
                    have hs28 := hg27; try simp only [decide_eq_true_eq, decide_eq_false_iff_not, Bool.not_eq_true', Bool.not_eq_false', Bool.and_eq_true, Bool.or_eq_true, Bool.and_eq_false_iff, Bool.or_eq_false_iff, Bool.not_true, Bool.not_false] at hs28
                    refine o_off 85 _ rfl rfl hg27 rfl ?_
                    refine o_off 85 _ rfl rfl hg27 rfl ?_
                    refine o_off 85 _ rfl rfl hg27 rfl ?_
                    refine o_off 85 _ rfl rfl hg27 rfl ?_
                    refine o_off' 89 rfl rfl rfl ?_
                    refine o_off 85 _ rfl rfl hg27 rfl ?_
                    refine o_p (p_pickf rfl rfl hg27 rfl) rfl ?_
                    refine o_nil ?_
                    exact s_joinN 7 92 _ rfl rfl rfl (fun w h => by first | exact h | exact h.ent aEt)) ?_
                refine o_p (p_pure rfl) rfl ?_
                refine o_or 18 93 111 _ _ rfl
                  (by
                    intro hg29
                    have hs30 := hg29; try simp only [decide_eq_true_eq, decide_eq_false_iff_not, Bool.not_eq_true', Bool.not_eq_false', Bool.and_eq_true, Bool.or_eq_true, Bool.and_eq_false_iff, Bool.or_eq_false_iff, Bool.not_true, Bool.not_false] at hs30
                    refine o_on 93 _ rfl rfl hg29 ?_
                    refine o_p (p_pure rfl) rfl ?_
                    refine o_on 93 _ rfl rfl hg29 ?_
                    refine o_p (p_pure rfl) rfl ?_
                    refine o_on 93 _ rfl rfl hg29 ?_
                    refine o_p (p_pure rfl) rfl ?_
                    refine o_and 14 96 110 _ _ rfl
                      (by
                        intro hg31
                        have hs32 := hg31; try simp only [decide_eq_true_eq, decide_eq_false_iff_not, Bool.not_eq_true', Bool.not_eq_false', Bool.and_eq_true, Bool.or_eq_true, Bool.and_eq_false_iff, Bool.or_eq_false_iff, Bool.not_true, Bool.not_false] at hs32
                        refine o_on 96 _ rfl rfl hg31 ?_
                        refine o_p (p_pure rfl) rfl ?_
                        refine o_on 96 _ rfl rfl hg31 ?_
                        refine o_p (p_pure rfl) rfl ?_
                        refine o_on 96 _ rfl rfl hg31 ?_
                        refine o_p (p_pure rfl) rfl ?_
                        refine o_or 10 99 109 _ _ rfl
                          (by
                            intro hg33
                            have hs34 := hg33; try simp only [decide_eq_true_eq, decide_eq_false_iff_not, Bool.not_eq_true', Bool.not_eq_false', Bool.and_eq_true, Bool.or_eq_true, Bool.and_eq_false_iff, Bool.or_eq_false_iff, Bool.not_true, Bool.not_false] at hs34
                            refine o_on 99 _ rfl rfl hg33 ?_
                            refine o_p (p_pure rfl) rfl ?_
                            refine o_on 99 _ rfl rfl hg33 ?_
                            refine o_p (p_pure rfl) rfl ?_
                            refine o_on 99 _ rfl rfl hg33 ?_
                            refine o_p (p_pure rfl) rfl ?_
                            refine o_on 99 _ rfl rfl hg33 ?_
                            refine o_p (p_pure rfl) rfl ?_
                            refine o_on 99 _ rfl rfl hg33 ?_
                            refine o_p (p_pure rfl) rfl ?_
                            refine o_on 99 _ rfl rfl hg33 ?_
                            refine o_p (p_indexAddr rfl rfl rfl sl_29 (k) (by omega) (by omega) (hs.some (by rw [List.length_map]; omega))) rfl ?_
                            refine o_on 99 _ rfl rfl hg33 ?_
                            refine o_q (q_load_old rfl rfl sz_9 ((hs.rd (str_get' (k := k) hk)))) rfl ?_
                            refine o_on 99 _ rfl rfl hg33 ?_
                            refine o_q (q_call rfl fn_20 rfl (fun w1 h1 => by have hz : matE t p (l.getD k []) = 0 := (by have hq := hg33; simp at hq; grind); have ho := matE_ok hz; exact c20 w1 t p (l.getD k []) (chkTab_ok ho.1).1 (patE_ok ho.2.1).2.2 (nameE_lt ho.2.2) (by omega) (hml6 _ (getD_mem hk)))) rfl ?_
                            refine o_on 99 _ rfl rfl hg33 ?_
                            refine o_p (p_neq_bool rfl rfl rfl Tryd.underlying4) rfl ?_
                            refine o_on 96 _ rfl rfl hg31 ?_
                            refine o_p (p_pickf rfl rfl hg33 rfl) rfl ?_
                            refine o_nil ?_
                            exact s_joinN 10 109 _ rfl rfl rfl (fun w h => by first | exact h | exact h.ent aEt))
                          (by
                            intro hg35
                            have hs36 := hg35; try simp only [decide_eq_true_eq, decide_eq_false_iff_not, Bool.not_eq_true', Bool.not_eq_false', Bool.and_eq_true, Bool.or_eq_true, Bool.and_eq_false_iff, Bool.or_eq_false_iff, Bool.not_true, Bool.not_false] at hs36
                            refine o_off 99 _ rfl rfl hg35 rfl ?_
                            refine o_off 99 _ rfl rfl hg35 rfl ?_
                            refine o_off 99 _ rfl rfl hg35 rfl ?_
                            refine o_off 99 _ rfl rfl hg35 rfl ?_
                            refine o_off 99 _ rfl rfl hg35 rfl ?_
                            refine o_off 99 _ rfl rfl hg35 rfl ?_
                            refine o_off 99 _ rfl rfl hg35 rfl ?_
                            refine o_off 99 _ rfl rfl hg35 rfl ?_
                            refine o_off 99 _ rfl rfl hg35 rfl ?_
                            refine o_on 96 _ rfl rfl hg31 ?_
                            refine o_p (p_pickt rfl rfl hg35 rfl) rfl ?_
                            refine o_nil ?_
                            exact s_joinN 10 109 _ rfl rfl rfl (fun w h => by first | exact h | exact h.ent aEt)) ?_
                        refine o_on 93 _ rfl rfl hg29 ?_
                        refine o_p (p_pickt rfl rfl hg31 rfl) rfl ?_
                        refine o_nil ?_
                        exact s_joinN 5 110 _ rfl rfl rfl (fun w h => by first | exact h | exact h.ent aEt))
                      (by
                        intro hg37
                        have hs38 := hg37; try simp only [decide_eq_true_eq, decide_eq_false_iff_not, Bool.not_eq_true', Bool.not_eq_false', Bool.and_eq_true, Bool.or_eq_true, Bool.and_eq_false_iff, Bool.or_eq_false_iff, Bool.not_true, Bool.not_false] at hs38
                        refine o_off 96 _ rfl rfl hg37 rfl ?_
                        refine o_off 96 _ rfl rfl hg37 rfl ?_
                        refine o_off 96 _ rfl rfl hg37 rfl ?_
                        refine o_off' 99 rfl rfl rfl ?_
                        refine o_off' 99 rfl rfl rfl ?_
                        refine o_off' 99 rfl rfl rfl ?_
                        refine o_off' 99 rfl rfl rfl ?_
                        refine o_off' 99 rfl rfl rfl ?_
                        refine o_off' 99 rfl rfl rfl ?_
                        refine o_off' 99 rfl rfl rfl ?_
                        refine o_off' 99 rfl rfl rfl ?_
                        refine o_off' 99 rfl rfl rfl ?_
                        refine o_off 96 _ rfl rfl hg37 rfl ?_
                        refine o_on 93 _ rfl rfl hg29 ?_
                        refine o_p (p_pickf rfl rfl hg37 rfl) rfl ?_
                        refine o_nil ?_
                        exact s_joinN 14 110 _ rfl rfl rfl (fun w h => by first | exact h | exact h.ent aEt)) ?_
                    refine o_p (p_pickf rfl rfl hg29 rfl) rfl ?_
                    refine o_nil ?_
                    exact s_joinN 5 111 _ rfl rfl rfl (fun w h => by first | exact h | exact h.ent aEt))
                  (by
                    intro hg39
                    have hs40 := hg39; try simp only [decide_eq_true_eq, decide_eq_false_iff_not, Bool.not_eq_true', Bool.not_eq_false', Bool.and_eq_true, Bool.or_eq_true, Bool.and_eq_false_iff, Bool.or_eq_false_iff, Bool.not_true, Bool.not_false] at hs40
                    refine o_off 93 _ rfl rfl hg39 rfl ?_
                    refine o_off 93 _ rfl rfl hg39 rfl ?_
                    refine o_off 93 _ rfl rfl hg39 rfl ?_
                    refine o_off' 96 rfl rfl rfl ?_
                    refine o_off' 96 rfl rfl rfl ?_
                    refine o_off' 96 rfl rfl rfl ?_
                    refine o_off' 99 rfl rfl rfl ?_
                    refine o_off' 99 rfl rfl rfl ?_
                    refine o_off' 99 rfl rfl rfl ?_
                    refine o_off' 99 rfl rfl rfl ?_
                    refine o_off' 99 rfl rfl rfl ?_
                    refine o_off' 99 rfl rfl rfl ?_
                    refine o_off' 99 rfl rfl rfl ?_
                    refine o_off' 99 rfl rfl rfl ?_
                    refine o_off' 99 rfl rfl rfl ?_
                    refine o_off' 96 rfl rfl rfl ?_
                    refine o_off 93 _ rfl rfl hg39 rfl ?_
                    refine o_p (p_pickt rfl rfl hg39 rfl) rfl ?_
                    refine o_nil ?_
                    exact s_joinN 18 111 _ rfl rfl rfl (fun w h => by first | exact h | exact h.ent aEt)) ?_
                refine o_nil ?_
                refine s_cond rfl (fun h41 => ?_) (fun h41 => ?_)
                · try simp only [decide_eq_true_eq, decide_eq_false_iff_not, Bool.not_eq_true', Bool.not_eq_false', Bool.and_eq_true, Bool.or_eq_true, Bool.and_eq_false_iff, Bool.or_eq_false_iff, Bool.not_true, Bool.not_false] at h41
                  exfalso; by_cases hA : matE t p (l.getD k []) = 0 <;> simp_all
                · try simp only [decide_eq_true_eq, decide_eq_false_iff_not, Bool.not_eq_true', Bool.not_eq_false', Bool.and_eq_true, Bool.or_eq_true, Bool.and_eq_false_iff, Bool.or_eq_false_iff, Bool.not_true, Bool.not_false] at h41
                  refine s_skip ?_
                  refine s_seq ?_
                  refine s_region ?_
                  refine o_p (p_pure rfl) rfl ?_
                  refine o_p (p_pure rfl) rfl ?_
                  refine o_p (p_pure rfl) rfl ?_
                  refine o_and 2 114 116 _ _ rfl
                    (by
                      intro hg42
                      have hs43 := hg42; try simp only [decide_eq_true_eq, decide_eq_false_iff_not, Bool.not_eq_true', Bool.not_eq_false', Bool.and_eq_true, Bool.or_eq_true, Bool.and_eq_false_iff, Bool.or_eq_false_iff, Bool.not_true, Bool.not_false] at hs43
                      refine o_on 114 _ rfl rfl hg42 ?_
                      refine o_p (p_pure rfl) rfl ?_
                      refine o_p (p_pickt rfl rfl hg42 rfl) rfl ?_
                      refine o_nil ?_
                      exact s_joinN 2 116 _ rfl rfl rfl (fun w h => by first | exact h | exact h.ent aEt))
                    (by
                      intro hg44
                      have hs45 := hg44; try simp only [decide_eq_true_eq, decide_eq_false_iff_not, Bool.not_eq_true', Bool.not_eq_false', Bool.and_eq_true, Bool.or_eq_true, Bool.and_eq_false_iff, Bool.or_eq_false_iff, Bool.not_true, Bool.not_false] at hs45
                      refine o_off 114 _ rfl rfl hg44 rfl ?_
                      refine o_p (p_pickf rfl rfl hg44 rfl) rfl ?_
                      refine o_nil ?_
                      exact s_joinN 2 116 _ rfl rfl rfl (fun w h => by first | exact h | exact h.ent aEt)) ?_
                  refine o_nil ?_
                  refine s_cond rfl (fun h46 => ?_) (fun h46 => ?_)
                  · try simp only [decide_eq_true_eq, decide_eq_false_iff_not, Bool.not_eq_true', Bool.not_eq_false', Bool.and_eq_true, Bool.or_eq_true, Bool.and_eq_false_iff, Bool.or_eq_false_iff, Bool.not_true, Bool.not_false] at h46
                    have hz : matE t p (l.getD k []) = 0 ∧ mtU t p (l.getD k []) = true := by have hq := (h46).2; by_cases hA : matE t p (l.getD k []) = 0 <;> simp_all
                    rw [if_pos hz.2] at hsc
                    refine s_weaken (L' := [(0, _), (1, _), (2, _), (7, _), (8, _), (9, _), (10, _), (11, _), (12, _), (39, _), (42, _), (43, _), (44, _), (47, _), (48, _), (49, _), (58, _)]) aSx (fun _ h => h) ?_
                    refine s_region ?_
                    refine o_p (p_pure rfl) rfl ?_
                    refine o_p (p_pure rfl) rfl ?_
                    refine o_h (h_buildSlice (cs := [_]) rfl rfl sl_31 zr_3 rfl rfl rfl) rfl (fun b47 _ => ?_)
                    refine o_h (h_appendS (n := (hitsTo t p l k).length) [.int .i64 (k : Int)] rfl rfl rfl sl_31 Tryd.underlying31 zr_3 rfl aPk (src_blk aPk) rfl (by intro u hu; simp only [List.mem_cons, List.mem_nil_iff, or_false] at hu; subst hu; rfl) (by omega) (by simp only [maxLen]; omega)) rfl (fun b48 _ => ?_)
                    refine o_p (p_pure rfl) rfl ?_
                    refine o_nil ?_
                    refine s_blk ?_
                    refine s_region ?_
                    refine o_p (p_pure rfl) rfl ?_
                    refine o_p (p_pure rfl) rfl ?_
                    try (refine o_slot (i64w (by omega) (by omega)) ?_)
                    refine o_p (p_pure rfl) rfl ?_
                    refine o_nil ?_
                    exact s_backI (k + 1, b48) (by show l.length - (k + 1) < l.length - k; omega) (by show k + 1 ≤ l.length; omega) (by (try dsimp only); rw [hsc, List.length_append]; exact aSx) (fun w h => by dsimp only; rw [hsc, List.length_append, List.map_append]; exact h.ent aEt)
                  · try simp only [decide_eq_true_eq, decide_eq_false_iff_not, Bool.not_eq_true', Bool.not_eq_false', Bool.and_eq_true, Bool.or_eq_true, Bool.and_eq_false_iff, Bool.or_eq_false_iff, Bool.not_true, Bool.not_false] at h46
                    have hz : mtU t p (l.getD k []) = false := by have hq := h46; have hB := matE_of hm0 hk; simp_all
                    rw [hz] at hsc
                    simp only [Bool.false_eq_true, if_false, List.append_nil] at hsc
                    refine s_skip ?_
                    refine s_blk ?_
                    refine s_weaken (L' := [(0, _), (1, _), (2, _), (7, _), (8, _), (9, _), (10, _), (11, _), (12, _), (39, _), (42, _), (43, _), (44, _), (47, _), (48, _), (49, _), (58, _)]) aSx (fun _ h => h) ?_
                    refine s_region ?_
                    refine o_p (p_pure rfl) rfl ?_
                    refine o_p (p_pure rfl) rfl ?_
                    try (refine o_slot (i64w (by omega) (by omega)) ?_)
                    refine o_p (p_pure rfl) rfl ?_
                    refine o_nil ?_
                    exact s_backI (k + 1, A) (by show l.length - (k + 1) < l.length - k; omega) (by show k + 1 ≤ l.length; omega) (by (try dsimp only); rw [hsc]; exact aSx) (fun w h => by dsimp only; rw [hsc]; exact h.ent aEt)
            · try simp only [decide_eq_true_eq, decide_eq_false_iff_not, Bool.not_eq_true', Bool.not_eq_false', Bool.and_eq_true, Bool.or_eq_true, Bool.and_eq_false_iff, Bool.or_eq_false_iff, Bool.not_true, Bool.not_false] at h19
              obtain rfl : k = l.length := by omega
              have hkl := hitsTo_len (t := t) (p := p) (l := l) (k := l.length)
              refine s_exit_to rfl ?_
              refine s_seq ?_
              refine s_region ?_
              refine o_p (p_pure rfl) rfl ?_
              refine o_p (p_pure rfl) rfl ?_
              refine o_p (p_pure rfl) rfl ?_
              refine o_or 8 123 131 _ _ rfl
                (by
                  intro hg49
                  have hs50 := hg49; try simp only [decide_eq_true_eq, decide_eq_false_iff_not, Bool.not_eq_true', Bool.not_eq_false', Bool.and_eq_true, Bool.or_eq_true, Bool.and_eq_false_iff, Bool.or_eq_false_iff, Bool.not_true, Bool.not_false] at hs50
                  refine o_on 123 _ rfl rfl hg49 ?_
                  refine o_p (p_pure rfl) rfl ?_
                  refine o_on 123 _ rfl rfl hg49 ?_
                  refine o_p (p_pure rfl) rfl ?_
                  refine o_on 123 _ rfl rfl hg49 ?_
                  refine o_p (p_pure rfl) rfl ?_
                  refine o_and 4 126 130 _ _ rfl
                    (by
                      intro hg51
                      have hs52 := hg51; try simp only [decide_eq_true_eq, decide_eq_false_iff_not, Bool.not_eq_true', Bool.not_eq_false', Bool.and_eq_true, Bool.or_eq_true, Bool.and_eq_false_iff, Bool.or_eq_false_iff, Bool.not_true, Bool.not_false] at hs52
                      refine o_on 126 _ rfl rfl hg51 ?_
                      refine o_p (p_pure rfl) rfl ?_
                      refine o_on 126 _ rfl rfl hg51 ?_
                      refine o_p (p_pure rfl) rfl ?_
                      refine o_on 126 _ rfl rfl hg51 ?_
                      refine o_q (q_call rfl fn_21 rfl (fun w1 h1 => c21 w1 gm.1 A.1 _ _ (hitsTo t p l l.length) (h1.vl_own (a := gm.1) aPk) (h1.vl_own (a := A.1) aPk) (by omega))) rfl ?_
                      refine o_on 123 _ rfl rfl hg49 ?_
                      refine o_p (p_pickt rfl rfl hg51 rfl) rfl ?_
                      refine o_nil ?_
                      exact s_joinN 4 130 _ rfl rfl rfl (fun w h => by first | exact h | exact h.ent aEt))
                    (by
                      intro hg53
                      have hs54 := hg53; try simp only [decide_eq_true_eq, decide_eq_false_iff_not, Bool.not_eq_true', Bool.not_eq_false', Bool.and_eq_true, Bool.or_eq_true, Bool.and_eq_false_iff, Bool.or_eq_false_iff, Bool.not_true, Bool.not_false] at hs54
                      refine o_off 126 _ rfl rfl hg53 rfl ?_
                      refine o_off 126 _ rfl rfl hg53 rfl ?_
                      refine o_off 126 _ rfl rfl hg53 rfl ?_
                      refine o_on 123 _ rfl rfl hg49 ?_
                      refine o_p (p_pickf rfl rfl hg53 rfl) rfl ?_
                      refine o_nil ?_
                      exact s_joinN 4 130 _ rfl rfl rfl (fun w h => by first | exact h | exact h.ent aEt)) ?_
                  refine o_p (p_pickf rfl rfl hg49 rfl) rfl ?_
                  refine o_nil ?_
                  exact s_joinN 5 131 _ rfl rfl rfl (fun w h => by first | exact h | exact h.ent aEt))
                (by
                  intro hg55
                  have hs56 := hg55; try simp only [decide_eq_true_eq, decide_eq_false_iff_not, Bool.not_eq_true', Bool.not_eq_false', Bool.and_eq_true, Bool.or_eq_true, Bool.and_eq_false_iff, Bool.or_eq_false_iff, Bool.not_true, Bool.not_false] at hs56
                  refine o_off 123 _ rfl rfl hg55 rfl ?_
                  refine o_off 123 _ rfl rfl hg55 rfl ?_
                  refine o_off 123 _ rfl rfl hg55 rfl ?_
                  refine o_off' 126 rfl rfl rfl ?_
                  refine o_off' 126 rfl rfl rfl ?_
                  refine o_off' 126 rfl rfl rfl ?_
                  refine o_off 123 _ rfl rfl hg55 rfl ?_
                  refine o_p (p_pickt rfl rfl hg55 rfl) rfl ?_
                  refine o_nil ?_
                  exact s_joinN 8 131 _ rfl rfl rfl (fun w h => by first | exact h | exact h.ent aEt)) ?_
              refine o_p (p_pure rfl) rfl ?_
              refine o_nil ?_
              exact s_retv (rs := [.tmp 6]) rfl (.tmp rfl (.nil)) (fun w' h' => ⟨by simp [hm0, retV], h'.below⟩)

theorem c4 (w : World) (t p : List UInt8) (a : Option Addr) (cap : Nat) (l : List (List UInt8)) (hmt : t.length ≤ 9223372036854775807) (hmp : p.length ≤ 9223372036854775807) (hs : Vl w a (l.map strV)) (hln : l.length ≤ 9223372036854775807) (hml : ∀ s ∈ l, s.length ≤ 9223372036854775807) (ht : TabOk w) : Calls Tryd.prog 4 #[.string (bs t), .string (bs p), .slice a l.length cap] w fun en w' => en = .returned (.bool true) ∧ Below w.heap.size w w' := by
  by_cases hm0 : matL t p l = 0
  · exact e4 w t p a cap l hmt hmp hs hln hml ht hm0
  · exact q4 w t p a cap l hmt hmp hs hln hml ht hm0

end Go.Proofs

