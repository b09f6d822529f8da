/- Contracts of the program's functions, proved by walking them with the rules of the Gx texts; without conditions beyond those that each contract names. -/
import Derived.Test.YtaffndpaehiafaaC07A
import Derived.Test.YtaffndpaehiafaaGxLib
namespace Go.Proofs
open Go Go.RowKit Gx
set_option linter.unusedVariables false
set_option linter.unusedSimpArgs false
attribute [local irreducible] Go.Calls Gx.S Gx.O Gx.D Gx.OpP Gx.OpQ Gx.OpH

theorem sl_140 : tsl Try.prog 140 = some (24, 1, 8) := by kernel_rfl
theorem sz_24 : tsz Try.prog 24 = some (1, false) := by kernel_rfl
theorem fn_65 : isFn Try.prog 65 = true := by kernel_rfl
theorem fd_31_0 : tfd Try.prog 31 0 = some (0, 3) := by kernel_rfl
theorem sz_3 : tsz Try.prog 3 = some (1, false) := by kernel_rfl
theorem fd_31_1 : tfd Try.prog 31 1 = some (1, 9) := by kernel_rfl
theorem sz_9 : tsz Try.prog 9 = some (1, false) := by kernel_rfl
theorem fn_61 : isFn Try.prog 61 = true := by kernel_rfl
theorem fn_59 : isFn Try.prog 59 = true := by kernel_rfl
theorem mixed : Try.prog.follows .mixedOrders = true := by kernel_rfl
theorem zr_24 : tzero Try.prog 24 = some [.int .i64 0] := by kernel_rfl
theorem fn_63 : isFn Try.prog 63 = true := by kernel_rfl
theorem fn_19 : isFn Try.prog 19 = true := by kernel_rfl

/-- The error of a key, of a holder. -/
def keyE (key : List UInt8) : Int := if key.length = 8 then 0 else 10
def holdE (u : Int) (key : List UInt8) : Int := if 10 ≤ u ∧ u ≤ 999 then keyE key else 2

set_option maxRecDepth 20000 in
theorem c59 (w : World) (a : Option Addr) (cap : Nat) (es : List Int) (hs : Sl w [] a 1 es.length (fun i => [.int .i64 (es.getD i 0)])) (hm : es.length ≤ 1000) : Calls Try.prog 59 #[.slice a es.length cap] w fun en w' => en = .returned (.int .i64 (firstI es)) ∧ Below w.heap.size w w' := by
  refine enter (args := [_]) Try.func59 Try.ntmps59 rfl rfl (HS.refl w []) ?_
  refine s_seq ?_
  refine s_region ?_
  refine o_p (p_pure rfl) rfl ?_
  refine o_nil ?_
  refine s_seq ?_
  refine s_seq ?_
  refine s_region ?_
  refine o_p (p_pure rfl) rfl ?_
  first | refine o_p (p_len_slice rfl rfl Try.underlying140) rfl ?_ | refine o_q (q_len_own rfl rfl Try.underlying140 (by repeat (first | exact .here | apply Pick.there))) rfl ?_
  refine o_p (p_pure rfl) rfl ?_
  refine o_nil ?_
  refine s_block ?_
  refine s_loopI (α := Nat) [2, 4, 7, 8, 9, 10, 11, 12, 13, 14] (fun k => [(7, .int .i64 (k : Int))]) (fun _ => _) (fun k => k ≤ es.length ∧ firstI es = firstI (es.drop k)) (fun k => es.length - k) 0 ⟨by omega, rfl⟩ (by repeat (first | exact sl_n | refine sl_c rfl ?_)) (fun w h => h) (fun k hk => ?_)
  obtain ⟨hk1, hk2⟩ := hk
  refine s_seq ?_
  refine s_region ?_
  refine o_p (p_pure rfl) rfl ?_
  refine o_nil ?_
  refine s_seq ?_
  refine s_cond rfl (fun h1 => ?_) (fun h1 => ?_)
  · try simp only [decide_eq_true_eq, decide_eq_false_iff_not, Bool.not_eq_true', Bool.not_eq_false', Bool.and_eq_true, Bool.or_eq_true, Bool.and_eq_false_iff, Bool.or_eq_false_iff, Bool.not_true, Bool.not_false] at h1
    refine s_skip ?_
    refine s_seq ?_
    refine s_block ?_
    refine s_seq ?_
    refine s_region ?_
    first | refine o_p (p_indexAddr rfl rfl rfl sl_140 _ rfl (by omega) rfl) rfl ?_ | refine o_p (p_indexAddr rfl rfl rfl sl_140 (Int.toNat _) (Int.toNat_of_nonneg (by omega)).symm (by omega) rfl) rfl ?_ | refine o_p (p_indexAddr rfl rfl rfl sl_140 _ rfl (by omega) (hs.some (by omega))) rfl ?_ | refine o_p (p_indexAddr rfl rfl rfl sl_140 (Int.toNat _) (Int.toNat_of_nonneg (by omega)).symm (by omega) (hs.some (by omega))) rfl ?_
    first | refine o_q (q_load rfl rfl sz_24 (by repeat (first | exact .here | apply Pick.there)) rfl) rfl ?_ | refine o_q (q_load_old rfl rfl sz_24 (hs.rd (i := k) (j := 0) (by omega) rfl)) rfl ?_
    refine o_p (p_pure rfl) rfl ?_
    refine o_nil ?_
    refine s_seq ?_
    refine s_region ?_
    refine o_p (p_pure rfl) rfl ?_
    refine o_p (p_pure rfl) rfl ?_
    refine o_nil ?_
    refine s_cond rfl (fun h2 => ?_) (fun h2 => ?_)
    · try simp only [decide_eq_true_eq, decide_eq_false_iff_not, Bool.not_eq_true', Bool.not_eq_false', Bool.and_eq_true, Bool.or_eq_true, Bool.and_eq_false_iff, Bool.or_eq_false_iff, Bool.not_true, Bool.not_false] at h2
      refine s_seq ?_
      refine s_region ?_
      refine o_p (p_pure rfl) rfl ?_
      refine o_p (p_pure rfl) rfl ?_
      refine o_nil ?_
      exact s_retv (rs := [.tmp 2]) rfl (.tmp rfl (.nil)) (fun w' h' => ⟨by simp only [retV]; rw [hk2, firstI_drop (by omega), if_neg (by assumption)], h'.below⟩)
    · try simp only [decide_eq_true_eq, decide_eq_false_iff_not, Bool.not_eq_true', Bool.not_eq_false', Bool.and_eq_true, Bool.or_eq_true, Bool.and_eq_false_iff, Bool.or_eq_false_iff, Bool.not_true, Bool.not_false] at h2
      refine s_skip ?_
      refine s_blk ?_
      refine s_region ?_
      refine o_p (p_pure rfl) rfl ?_
      try (refine o_slot (i64w (by omega) (by omega)) ?_)
      refine o_p (p_pure rfl) rfl ?_
      refine o_nil ?_
      exact s_backI (k+1) (by omega) ⟨by omega, by rw [hk2, firstI_drop (by omega), if_pos (by assumption)]⟩ (by repeat (first | exact sl_n | refine sl_c rfl ?_)) (fun w h => h)
  · try simp only [decide_eq_true_eq, decide_eq_false_iff_not, Bool.not_eq_true', Bool.not_eq_false', Bool.and_eq_true, Bool.or_eq_true, Bool.and_eq_false_iff, Bool.or_eq_false_iff, Bool.not_true, Bool.not_false] at h1
    refine s_exit_to rfl ?_
    refine s_seq ?_
    refine s_region ?_
    refine o_p (p_pure rfl) rfl ?_
    refine o_nil ?_
    exact s_retv (rs := [.tmp 2]) rfl (.tmp rfl (.nil)) (fun w' h' => ⟨by simp only [retV]; rw [hk2, firstI_end (by omega)], h'.below⟩)

theorem f59 {w0 w : World} {M : List Nat} {As As' : List HA} {b cap n : Nat} {t : TypeId} {tot : Nat} {cs : List Value} (h : HS w0 M As w) (hp : Pick As (.blk b t tot cs) As') (hc : cs.all isI64 = true) (hn : cs.length = n) (hl : n ≤ 1000) :
    Calls Try.prog 59 #[.slice (some ⟨b, 0, none⟩) n cap] w fun en w' => en = .returned (.int .i64 (firstV cs)) ∧ Below w.heap.size w w' := by
  subst hn
  have := c59 w (some ⟨b, 0, none⟩) cap (cs.map intOf) (by simpa using h.sl_ints hp hc) (by simpa using hl)
  rw [firstV_eq hc] at this
  simpa using this

set_option maxRecDepth 20000 in
theorem c61 (w : World) (key : List UInt8) : Calls Try.prog 61 #[.string (bs key)] w fun en w' => en = .returned (.int .i64 (keyE key)) ∧ Below w.heap.size w w' := by
  refine enter (args := [_]) Try.func61 Try.ntmps61 rfl rfl (HS.refl w []) ?_
  refine s_seq ?_
  refine s_region ?_
  refine o_p (p_pure rfl) rfl ?_
  refine o_nil ?_
  refine s_seq ?_
  refine s_region ?_
  refine o_p (p_pure rfl) rfl ?_
  refine o_p (p_len_str rfl rfl Try.underlying9) rfl ?_
  refine o_p (p_pure rfl) rfl ?_
  refine o_q (q_call rfl fn_65 rfl (fun w1 h1 => c65 w1 _ _)) rfl ?_
  refine o_p (p_pure rfl) rfl ?_
  refine o_nil ?_
  exact s_retv (rs := [.tmp 2]) rfl (.tmp rfl (.nil)) (fun w' h' => ⟨by simp only [retV, keyE]; grind, h'.below⟩)

set_option maxRecDepth 20000 in
theorem c19 (w : World) (key : List UInt8) : Calls Try.prog 19 #[.string (bs key)] w fun en w' => en = .returned (.int .i64 (keyE key)) ∧ Below w.heap.size w w' := by
  refine enter (args := [_]) Try.func19 Try.ntmps19 rfl rfl (HS.refl w []) ?_
  refine s_seq ?_
  refine s_region ?_
  refine o_p (p_pure rfl) rfl ?_
  refine o_nil ?_
  refine s_seq ?_
  refine s_seq ?_
  refine s_region ?_
  refine o_p (p_pure rfl) rfl ?_
  refine o_p (p_len_str rfl rfl Try.underlying9) rfl ?_
  refine o_p (p_pure rfl) rfl ?_
  refine o_nil ?_
  refine s_cond rfl (fun h1 => ?_) (fun h1 => ?_)
  · try simp only [decide_eq_true_eq, decide_eq_false_iff_not, Bool.not_eq_true', Bool.not_eq_false', Bool.and_eq_true, Bool.or_eq_true, Bool.and_eq_false_iff, Bool.or_eq_false_iff, Bool.not_true, Bool.not_false] at h1
    refine s_seq ?_
    refine s_region ?_
    refine o_p (p_pure rfl) rfl ?_
    refine o_nil ?_
    exact s_retv (rs := [.tmp 2]) rfl (.tmp rfl (.nil)) (fun w' h' => ⟨by simp only [retV, keyE]; first | rw [if_neg (by omega)] | rw [if_pos (by omega)], h'.below⟩)
  · try simp only [decide_eq_true_eq, decide_eq_false_iff_not, Bool.not_eq_true', Bool.not_eq_false', Bool.and_eq_true, Bool.or_eq_true, Bool.and_eq_false_iff, Bool.or_eq_false_iff, Bool.not_true, Bool.not_false] at h1
    refine s_skip ?_
    refine s_seq ?_
    refine s_region ?_
    refine o_p (p_pure rfl) rfl ?_
    refine o_nil ?_
    exact s_retv (rs := [.tmp 2]) rfl (.tmp rfl (.nil)) (fun w' h' => ⟨by simp only [retV, keyE]; first | rw [if_neg (by omega)] | rw [if_pos (by omega)], h'.below⟩)

set_option maxRecDepth 20000 in
theorem c63 (w : World) (u : Int) : Calls Try.prog 63 #[.int .i64 u] w fun en w' => en = .returned (.bool (decide (10 ≤ u) && decide (u ≤ 999))) ∧ Below w.heap.size w w' := by
  refine enter (args := [_]) Try.func63 Try.ntmps63 rfl rfl (HS.refl w []) ?_
  refine s_seq ?_
  refine s_region ?_
  refine o_p (p_pure rfl) rfl ?_
  refine o_nil ?_
  refine s_seq ?_
  refine s_region ?_
  refine o_p (p_pure rfl) rfl ?_
  refine o_q (q_call rfl fn_27 rfl (fun w1 h1 => c27 w1 _ _ _)) rfl ?_
  refine o_p (p_pure rfl) rfl ?_
  refine o_nil ?_
  exact s_retv (rs := [.tmp 2]) rfl (.tmp rfl (.nil)) (fun w' h' => ⟨rfl, h'.below⟩)

set_option maxRecDepth 20000 in
theorem c60 (w : World) (u : Int) (key : List UInt8) : Calls Try.prog 60 #[.agg #[.int .i64 u, .string (bs key)]] w fun en w' => en = .returned (.int .i64 (holdE u key)) ∧ Below w.heap.size w w' := by
  refine enter (args := [_]) Try.func60 Try.ntmps60 rfl rfl (HS.refl w []) ?_
  refine s_seq ?_
  refine s_region ?_
  refine o_h (h_box rfl rfl) rfl (fun b1 _ => ?_)
  refine o_p (p_pure rfl) rfl ?_
  refine o_nil ?_
  refine s_seq ?_
  refine s_draw [] mixed ?_
  refine d_p 0 rfl (p_fieldAddr rfl rfl fd_31_0 sz_3 rfl) (by kernel_rfl) rfl rfl ?_
  refine d_q 1 [] rfl (q_load rfl rfl sz_3 (by repeat (first | exact .here | apply Pick.there)) rfl) (by kernel_rfl) (by kernel_rfl) (by kernel_rfl) rfl ?_
  refine d_q 2 [] rfl (q_call rfl fn_68 rfl (fun w1 h1 => c68 w1 _ _ _)) (by kernel_rfl) (by kernel_rfl) (by kernel_rfl) rfl ?_
  refine d_q 3 [] rfl (q_call rfl fn_65 rfl (fun w1 h1 => c65 w1 _ _)) (by kernel_rfl) (by kernel_rfl) (by kernel_rfl) rfl ?_
  refine d_p 4 rfl (p_fieldAddr rfl rfl fd_31_1 sz_9 rfl) (by kernel_rfl) rfl rfl ?_
  refine d_q 5 [] rfl (q_load rfl rfl sz_9 (by repeat (first | exact .here | apply Pick.there)) rfl) (by kernel_rfl) (by kernel_rfl) (by kernel_rfl) rfl ?_
  refine d_q 6 [] rfl (q_call rfl fn_61 rfl (fun w1 h1 => c61 w1 _)) (by kernel_rfl) (by kernel_rfl) (by kernel_rfl) rfl ?_
  refine d_h 7 rfl (h_buildSlice (cs := [_, _]) rfl rfl sl_140 zr_24 rfl rfl rfl) (by kernel_rfl) (fun w h => h.ent (by repeat (first | exact .nil | refine .cons (by repeat (first | exact .here | apply Pick.there)) ?_))) rfl (fun b2 _ => ?_)
  refine d_base (fun w h => h.ent (by repeat (first | exact .nil | refine .cons (by repeat (first | exact .here | apply Pick.there)) ?_))) ?_
  refine d_q 8 [] rfl (q_call rfl fn_59 rfl (fun w1 h1 => f59 h1 (by repeat (first | exact .here | apply Pick.there)) (by rfl) (by rfl) (by decide))) (by kernel_rfl) (by kernel_rfl) (by kernel_rfl) rfl ?_
  refine d_p 9 rfl (p_pure rfl) (by kernel_rfl) rfl rfl ?_
  refine d_nil (by kernel_rfl) (fun w h => h.ent (by repeat (first | exact .nil | refine .cons (by repeat (first | exact .here | apply Pick.there)) ?_))) ?_
  exact s_retv (rs := [.tmp 2]) rfl (.tmp rfl (.nil)) (fun w' h' => ⟨by simp only [retV, firstV, holdE]; grind, h'.below⟩)

set_option maxRecDepth 20000 in
theorem c18 (w : World) (u : Int) (key : List UInt8) : Calls Try.prog 18 #[.agg #[.int .i64 u, .string (bs key)]] w fun en w' => en = .returned (.int .i64 (holdE u key)) ∧ Below w.heap.size w w' := by
  refine enter (args := [_]) Try.func18 Try.ntmps18 rfl rfl (HS.refl w []) ?_
  refine s_seq ?_
  refine s_region ?_
  refine o_h (h_box rfl rfl) rfl (fun b1 _ => ?_)
  refine o_p (p_pure rfl) rfl ?_
  refine o_nil ?_
  refine s_seq ?_
  refine s_seq ?_
  refine s_region ?_
  refine o_p (p_fieldAddr rfl rfl fd_31_0 sz_3 rfl) rfl ?_
  refine o_q (q_load rfl rfl sz_3 (by repeat (first | exact .here | apply Pick.there)) rfl) rfl ?_
  refine o_q (q_call rfl fn_63 rfl (fun w1 h1 => c63 w1 _)) rfl ?_
  refine o_p (p_pure rfl) rfl ?_
  refine o_nil ?_
  refine s_cond rfl (fun h2 => ?_) (fun h2 => ?_)
  · try simp only [decide_eq_true_eq, decide_eq_false_iff_not, Bool.not_eq_true', Bool.not_eq_false', Bool.and_eq_true, Bool.or_eq_true, Bool.and_eq_false_iff, Bool.or_eq_false_iff, Bool.not_true, Bool.not_false] at h2
    refine s_seq ?_
    refine s_region ?_
    refine o_p (p_pure rfl) rfl ?_
    refine o_nil ?_
    exact s_retv (rs := [.tmp 2]) rfl (.tmp rfl (.nil)) (fun w' h' => ⟨by simp only [retV, holdE]; grind, h'.below⟩)
  · try simp only [decide_eq_true_eq, decide_eq_false_iff_not, Bool.not_eq_true', Bool.not_eq_false', Bool.and_eq_true, Bool.or_eq_true, Bool.and_eq_false_iff, Bool.or_eq_false_iff, Bool.not_true, Bool.not_false] at h2
    refine s_skip ?_
    refine s_seq ?_
    refine s_region ?_
    refine o_p (p_fieldAddr rfl rfl fd_31_1 sz_9 rfl) rfl ?_
    refine o_q (q_load rfl rfl sz_9 (by repeat (first | exact .here | apply Pick.there)) rfl) rfl ?_
    refine o_q (q_call rfl fn_19 rfl (fun w1 h1 => c19 w1 _)) rfl ?_
    refine o_p (p_pure rfl) rfl ?_
    refine o_nil ?_
    exact s_retv (rs := [.tmp 2]) rfl (.tmp rfl (.nil)) (fun w' h' => ⟨by simp only [retV, holdE]; grind, h'.below⟩)

end Go.Proofs
