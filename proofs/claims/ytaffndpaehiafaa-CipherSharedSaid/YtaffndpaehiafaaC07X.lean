/- Contracts of the program's functions, proved by walking them with the rules of the Gx texts; without conditions beyond those that each contract names. -/
import Derived.Test.YtaffndpaehiafaaC07W
namespace Go.Proofs
open Go Go.RowKit Gx
set_option linter.unusedVariables false
set_option linter.unusedSimpArgs false
attribute [local irreducible] Go.Calls Gx.S Gx.O Gx.D Gx.OpP Gx.OpQ Gx.OpH

theorem sz_69 : tsz Try.prog 69 = some (1, false) := by kernel_rfl
theorem fn_82 : isFn Try.prog 82 = true := by kernel_rfl


theorem bsR_step {fs : Fds} {u : Int} {m lo hi : Nat} (hl : lo < hi) (hn : hi - lo ≤ m) : ∃ q, m = q + 1 ∧ (bsR fs u m lo hi = if IntKind.i64.wrap ((fd fs ((lo + hi) / 2)).1 - u) < 0 then bsR fs u q ((lo + hi) / 2 + 1) hi else bsR fs u q lo ((lo + hi) / 2)) := by
  cases m with
  | zero => omega
  | succ q => exact ⟨q, rfl, by rw [bsR, if_pos hl]⟩
def atV (fs : Fds) (u : Int) : Value := .tuple #[.int .i64 (bsF fs u : Int), .bool (bsB fs u)]

set_option maxRecDepth 20000 in
theorem d111 (w : World) (a : Option Addr) (cap : Nat) (fs : Fds) (u : Int) (hs : Fl w a fs) (hm : fs.length ≤ 1000) : Calls Try.prog 111 #[.slice a fs.length cap, .int .i64 u, .func (.func 112) #[] #[]] w fun en w' => en = .returned (atV fs u) ∧ Below w.heap.size w w' := by
  refine enter (args := [_, _, _]) Try.func111 Try.ntmps111 rfl rfl (HS.refl w []) ?_
  refine s_seq ?_
  refine s_region ?_
  refine o_p (p_pure rfl) rfl ?_
  refine o_p (p_pure rfl) rfl ?_
  refine o_nil ?_
  refine s_seq ?_
  refine s_region ?_
  refine o_p (p_pure rfl) rfl ?_
  first | refine o_p (p_len_slice rfl rfl Try.underlying41) rfl ?_ | refine o_q (q_len_own rfl rfl Try.underlying41 (by repeat (first | exact .here | apply Pick.there))) rfl ?_
  refine o_p (p_pure rfl) rfl ?_
  refine o_nil ?_
  refine s_seq ?_
  refine s_region ?_
  refine o_p (p_pure rfl) rfl ?_
  refine o_p (p_pure rfl) rfl ?_
  refine o_p (p_pure rfl) rfl ?_
  refine o_nil ?_
  refine s_seq ?_
  refine s_block ?_
  refine s_loopI (α := Nat × Nat × Nat) [9, 10, 11, 15, 16, 17, 18, 19, 20, 21, 22, 23, 24, 25, 26, 27, 28, 29, 30, 31, 32, 33, 34] (fun x => [(9, .int .i64 (x.2.1 : Int)), (10, .int .i64 (x.2.2 : Int))]) (fun _ => _) (fun x => x.2.1 ≤ x.2.2 ∧ x.2.2 ≤ fs.length ∧ x.2.2 - x.2.1 ≤ x.1 ∧ bsR fs u x.1 x.2.1 x.2.2 = bsF fs u) (fun x => x.1) (fs.length, 0, fs.length) ⟨by simp, by simp, by simp, rfl⟩ (by repeat (first | exact sl_n | refine sl_c rfl ?_)) (fun w h => h) (fun ⟨m, lo, hi⟩ hx => ?_)
  dsimp only
  obtain ⟨hx1, hx2, hx3, hx4⟩ := hx
  simp only [] at hx1 hx2 hx3 hx4
  refine s_seq ?_
  refine s_seq ?_
  refine s_region ?_
  refine o_p (p_pure rfl) rfl ?_
  refine o_p (p_pure rfl) rfl ?_
  refine o_p (p_pure rfl) rfl ?_
  refine o_nil ?_
  refine s_cond rfl (fun h1 => ?_) (fun h1 => ?_)
  · try simp only [decide_eq_true_eq, decide_eq_false_iff_not, Bool.not_eq_true', Bool.not_eq_false', Bool.and_eq_true, Bool.or_eq_true, Bool.and_eq_false_iff, Bool.or_eq_false_iff, Bool.not_true, Bool.not_false] at h1
    refine s_skip ?_
    refine s_block ?_
    refine s_seq ?_
    refine s_region ?_
    refine o_p (p_pure rfl) rfl ?_
    refine o_p (p_pure rfl) rfl ?_
    refine o_p (p_pure rfl) rfl ?_
    try (refine o_slot (i64w (by omega) (by omega)) ?_)
    refine o_p (p_conv_int rfl rfl ki_3 ki_135) rfl ?_
    rw [show IntKind.u64.wrap ((lo : Int) + (hi : Int)) = ((lo + hi : Nat) : Int) from u64w _ (by omega)]
    refine o_p (p_shr rfl rfl rfl (by decide) 1 rfl) rfl ?_
    refine o_p (p_conv_int rfl rfl ki_135 ki_3) rfl ?_
    try (refine o_slot (i64w (by omega) (by omega)) ?_)
    refine o_slot (show _ = Value.int .i64 (((lo + hi) / 2 : Nat) : Int) from by congr 1) ?_
    obtain ⟨q, hq1, hq2⟩ := bsR_step (fs := fs) (u := u) (show lo < hi by omega) hx3
    refine o_p (p_pure rfl) rfl ?_
    refine o_nil ?_
    refine s_seq ?_
    refine s_region ?_
    refine o_p (p_pure rfl) rfl ?_
    refine o_p (p_pure rfl) rfl ?_
    refine o_p (p_pure rfl) rfl ?_
    first | refine o_p (p_indexAddr rfl rfl rfl sl_41 ((lo + hi) / 2) (by omega) (by omega) rfl) rfl ?_ | refine o_p (p_indexAddr rfl rfl rfl sl_41 ((lo + hi) / 2) (by omega) (by omega) (Sl.some hs (by omega))) rfl ?_
    refine o_q (q_load_oldn _ rfl rfl sz_96 rfl (hs.rd (i := (lo + hi) / 2) (by omega))) rfl ?_
    refine o_p (p_pure rfl) rfl ?_
    refine o_q (q_callv rfl rfl fn_112 rfl (fun w1 h1 => d112 w1 (fd fs ((lo + hi) / 2)).1 u (fd fs ((lo + hi) / 2)).2)) rfl ?_
    refine o_p (p_pure rfl) rfl ?_
    refine o_nil ?_
    refine s_cond rfl (fun h2 => ?_) (fun h2 => ?_)
    · try simp only [decide_eq_true_eq, decide_eq_false_iff_not, Bool.not_eq_true', Bool.not_eq_false', Bool.and_eq_true, Bool.or_eq_true, Bool.and_eq_false_iff, Bool.or_eq_false_iff, Bool.not_true, Bool.not_false] at h2
      refine s_region ?_
      refine o_p (p_pure rfl) rfl ?_
      refine o_p (p_pure rfl) rfl ?_
      try (refine o_slot (i64w (by omega) (by omega)) ?_)
      refine o_p (p_pure rfl) rfl ?_
      refine o_nil ?_
      refine s_blk ?_
      exact s_backI (q, (lo + hi) / 2 + 1, hi) (by (try simp only []); omega) ⟨by (try simp only []); omega, hx2, by (try simp only []); omega, by simp only []; rw [← hx4, hq2, if_pos h2]⟩ (by refine sl_c (congrArg (fun e => some (Value.int .i64 e)) (show (((lo + hi) / 2 : Nat) : Int) + 1 = (((lo + hi) / 2 + 1 : Nat) : Int) by omega)) ?_; repeat (first | exact sl_n | refine sl_c rfl ?_)) (fun w h => h)
    · try simp only [decide_eq_true_eq, decide_eq_false_iff_not, Bool.not_eq_true', Bool.not_eq_false', Bool.and_eq_true, Bool.or_eq_true, Bool.and_eq_false_iff, Bool.or_eq_false_iff, Bool.not_true, Bool.not_false] at h2
      refine s_region ?_
      refine o_p (p_pure rfl) rfl ?_
      refine o_p (p_pure rfl) rfl ?_
      refine o_nil ?_
      refine s_blk ?_
      exact s_backI (q, lo, (lo + hi) / 2) (by (try simp only []); omega) ⟨by (try simp only []); omega, by (try simp only []); omega, by (try simp only []); omega, by simp only []; rw [← hx4, hq2, if_neg h2]⟩ (by repeat (first | exact sl_n | refine sl_c rfl ?_)) (fun w h => h)
  · try simp only [decide_eq_true_eq, decide_eq_false_iff_not, Bool.not_eq_true', Bool.not_eq_false', Bool.and_eq_true, Bool.or_eq_true, Bool.and_eq_false_iff, Bool.or_eq_false_iff, Bool.not_true, Bool.not_false] at h1
    refine s_exit_to rfl ?_
    refine s_seq ?_
    refine s_region ?_
    refine o_p (p_pure rfl) rfl ?_
    have hlo : bsF fs u = lo := by rw [← hx4, bsR_end _ _ _ _ _ (by omega)]
    refine o_p (p_pure rfl) rfl ?_
    refine o_p (p_pure rfl) rfl ?_
    refine o_p (p_pure rfl) rfl ?_
    refine o_p (p_pure rfl) rfl ?_
    refine o_and 9 39 48 _ _ rfl
      (by
        intro hg3
        have hs4 := hg3; try simp only [decide_eq_true_eq, decide_eq_false_iff_not, Bool.not_eq_true', Bool.not_eq_false', Bool.and_eq_true, Bool.or_eq_true, Bool.and_eq_false_iff, Bool.or_eq_false_iff, Bool.not_true, Bool.not_false] at hs4
        refine o_on 39 _ rfl rfl hg3 ?_
        refine o_p (p_pure rfl) rfl ?_
        refine o_on 39 _ rfl rfl hg3 ?_
        refine o_p (p_pure rfl) rfl ?_
        refine o_on 39 _ rfl rfl hg3 ?_
        refine o_p (p_pure rfl) rfl ?_
        refine o_on 39 _ rfl rfl hg3 ?_
        first | refine o_p (p_indexAddr rfl rfl rfl sl_41 (lo) (by omega) (by omega) rfl) rfl ?_ | refine o_p (p_indexAddr rfl rfl rfl sl_41 (lo) (by omega) (by omega) (Sl.some hs (by omega))) rfl ?_
        refine o_on 39 _ rfl rfl hg3 ?_
        refine o_q (q_load_oldn _ rfl rfl sz_96 rfl (hs.rd (i := lo) (by omega))) rfl ?_
        refine o_on 39 _ rfl rfl hg3 ?_
        refine o_p (p_pure rfl) rfl ?_
        refine o_on 39 _ rfl rfl hg3 ?_
        refine o_q (q_callv rfl rfl fn_112 rfl (fun w1 h1 => d112 w1 (fd fs (lo)).1 u (fd fs (lo)).2)) rfl ?_
        refine o_on 39 _ rfl rfl hg3 ?_
        refine o_p (p_pure rfl) rfl ?_
        refine o_p (p_pickt rfl rfl hg3 rfl) rfl ?_
        refine o_nil ?_
        exact s_join () (by repeat (first | exact sl_n | refine sl_c rfl ?_)) (fun w h => by first | exact h | exact h.ent (by repeat (first | exact .nil | refine .cons (by repeat (first | exact .here | apply Pick.there)) ?_))))
      (by
        intro hg5
        have hs6 := hg5; try simp only [decide_eq_true_eq, decide_eq_false_iff_not, Bool.not_eq_true', Bool.not_eq_false', Bool.and_eq_true, Bool.or_eq_true, Bool.and_eq_false_iff, Bool.or_eq_false_iff, Bool.not_true, Bool.not_false] at hs6
        refine o_off 39 _ rfl rfl hg5 rfl ?_
        refine o_off 39 _ rfl rfl hg5 rfl ?_
        refine o_off 39 _ rfl rfl hg5 rfl ?_
        refine o_off 39 _ rfl rfl hg5 rfl ?_
        refine o_off 39 _ rfl rfl hg5 rfl ?_
        refine o_off 39 _ rfl rfl hg5 rfl ?_
        refine o_off 39 _ rfl rfl hg5 rfl ?_
        refine o_off 39 _ rfl rfl hg5 rfl ?_
        refine o_p (p_pickf rfl rfl hg5 rfl) rfl ?_
        refine o_nil ?_
        exact s_join () (by repeat (first | exact sl_n | refine sl_c rfl ?_)) (fun w h => by first | exact h | exact h.ent (by repeat (first | exact .nil | refine .cons (by repeat (first | exact .here | apply Pick.there)) ?_)))) ?_
    refine o_p (p_pure rfl) rfl ?_
    refine o_p (p_pure rfl) rfl ?_
    refine o_nil ?_
    exact s_retv (rs := [.tmp 6, .tmp 7]) rfl (.tmp rfl (.tmp rfl (.nil))) (fun w' h' => ⟨by simp only [retV, atV, bsB, hlo]; have e1 : ((lo : Int) < (fs.length : Int)) ↔ lo < fs.length := Int.ofNat_lt; simp only [e1], h'.below⟩)

set_option maxRecDepth 20000 in
theorem d85 (w : World) (a : Option Addr) (cap : Nat) (fs : Fds) (u : Int) (hs : Fl w a fs) (hm : fs.length ≤ 1000) : Calls Try.prog 85 #[.slice a fs.length cap, .int .i64 u] w fun en w' => en = .returned (atV fs u) ∧ Below w.heap.size w w' := by
  refine enter (args := [_, _]) Try.func85 Try.ntmps85 rfl rfl (HS.refl w []) ?_
  refine s_seq ?_
  refine s_region ?_
  refine o_p (p_pure rfl) rfl ?_
  refine o_p (p_pure rfl) rfl ?_
  refine o_nil ?_
  refine s_seq ?_
  refine s_region ?_
  refine o_p (p_pure rfl) rfl ?_
  refine o_p (p_pure rfl) rfl ?_
  refine o_q (q_call rfl fn_111 rfl (fun w1 h1 => d111 w1 a cap fs u (hs.later h1) hm)) rfl ?_
  refine o_p (p_pure rfl) rfl ?_
  refine o_p (p_pure rfl) rfl ?_
  refine o_p (p_pure rfl) rfl ?_
  refine o_p (p_pure rfl) rfl ?_
  refine o_nil ?_
  exact s_retv (rs := [.tmp 4, .tmp 5]) rfl (.tmp rfl (.tmp rfl (.nil))) (fun w' h' => ⟨rfl, h'.below⟩)

def hldE (k : Nat) (prev u : Int) (key : List UInt8) : Int := if holdE u key = 0 then if k = 0 ∨ prev < u then 0 else 9 else holdE u key
def hdE (hs : Fds) (k : Nat) : Int := hldE k (fd hs (k - 1)).1 (fd hs k).1 (fd hs k).2
def hdEs (hs : Fds) : List Int := (List.range hs.length).map (hdE hs)
theorem hdEs_length (hs : Fds) : (hdEs hs).length = hs.length := by simp [hdEs]
theorem hdEs_getD {hs : Fds} {k : Nat} (h : k < hs.length) : (hdEs hs).getD k 0 = hdE hs k := by simp [hdEs, List.getD_eq_getElem?_getD, h]
def hasU (hs : Fds) (u : Int) : Bool := (hs.map fun p => decide (p.1 = u)).any id
theorem mapB_getD {hs : Fds} {p : Int × List UInt8 → Bool} {k : Nat} (h : k < hs.length) : (hs.map p).getD k false = p (fd hs k) := by
  simp [List.getD_eq_getElem?_getD, List.getElem?_eq_getElem h, fd_get h]

set_option maxRecDepth 20000 in
theorem c80 (w : World) (k : Nat) (u : Int) (s : List UInt8) (pb : Nat) (a : Option Addr) (cap : Nat) (fs : Fds) (hp : Rd w [] pb 0 (.slice a fs.length cap)) (hs : Fl w a fs) (hk : k < fs.length) (hm : fs.length ≤ 1000) : Calls Try.prog 80 #[.int .i64 (k : Int), .agg #[.int .i64 u, .string (bs s)], .pointer (some ⟨pb, 0, none⟩)] w fun en w' => en = .returned (.int .i64 (hldE k (fd fs (k - 1)).1 u s)) ∧ Below w.heap.size w w' := by
  refine enter (args := [_, _, _]) Try.func80 Try.ntmps80 rfl rfl (HS.refl w []) ?_
  refine s_seq ?_
  refine s_region ?_
  refine o_h (h_box rfl rfl) rfl (fun b1 _ => ?_)
  refine o_p (p_pure rfl) rfl ?_
  refine o_nil ?_
  refine s_seq ?_
  refine s_draw [] mixed ?_
  first | refine d_q 0 [] rfl (q_loadn rfl rfl sz_31 (by repeat (first | exact .here | apply Pick.there)) rfl) (by kernel_rfl) (by kernel_rfl) (by kernel_rfl) rfl ?_ | refine d_q 0 [] rfl (q_load_oldn _ rfl rfl sz_31 hp) (by kernel_rfl) (by kernel_rfl) (by kernel_rfl) rfl ?_ | refine d_q 0 [] rfl (q_load_oldn _ rfl rfl sz_31 hs.rd0 (i := k - 1) (by omega)) (by kernel_rfl) (by kernel_rfl) (by kernel_rfl) rfl ?_
  refine d_q 1 [] rfl (q_call rfl fn_60 rfl (fun w1 h1 => c60 w1 _ _)) (by kernel_rfl) (by kernel_rfl) (by kernel_rfl) rfl ?_
  refine d_p 2 rfl (p_pure rfl) (by kernel_rfl) rfl rfl ?_
  refine d_p 3 rfl (p_pure rfl) (by kernel_rfl) rfl rfl ?_
  refine d_p 4 rfl (p_pure rfl) (by kernel_rfl) rfl rfl ?_
  apply d_split 10
  · exact rfl
  · intro hg2
    have hs3 := hg2; try simp only [decide_eq_true_eq, decide_eq_false_iff_not, Bool.not_eq_true', Bool.not_eq_false', Bool.and_eq_true, Bool.or_eq_true, Bool.and_eq_false_iff, Bool.or_eq_false_iff, Bool.not_true, Bool.not_false] at hs3
    refine d_off 5 10 rfl rfl rfl hg2 (by kernel_rfl) rfl rfl ?_
    refine d_off 6 10 rfl rfl rfl hg2 (by kernel_rfl) rfl rfl ?_
    refine d_off 7 10 rfl rfl rfl hg2 (by kernel_rfl) rfl rfl ?_
    refine d_off 8 10 rfl rfl rfl hg2 (by kernel_rfl) rfl rfl ?_
    refine d_off 9 10 rfl rfl rfl hg2 (by kernel_rfl) rfl rfl ?_
    refine d_off 10 10 rfl rfl rfl hg2 (by kernel_rfl) rfl rfl ?_
    refine d_off 11 10 rfl rfl rfl hg2 (by kernel_rfl) rfl rfl ?_
    refine d_off 12 10 rfl rfl rfl hg2 (by kernel_rfl) rfl rfl ?_
    refine d_off 13 10 rfl rfl rfl hg2 (by kernel_rfl) rfl rfl ?_
    refine d_off 14 10 rfl rfl rfl hg2 (by kernel_rfl) rfl rfl ?_
    refine d_p 15 rfl (p_pickt rfl rfl hg2 rfl) (by kernel_rfl) rfl rfl ?_
    refine d_q 16 [] rfl (q_call rfl fn_65 rfl (fun w1 h1 => c65 w1 _ _)) (by kernel_rfl) (by kernel_rfl) (by kernel_rfl) rfl ?_
    refine d_h 17 rfl (h_buildSlice (cs := [_, _]) rfl rfl sl_140 zr_24 rfl rfl rfl) (by kernel_rfl) (fun w h => h.ent (by repeat (first | exact .nil | refine .cons (by repeat (first | exact .here | apply Pick.there)) ?_))) rfl (fun b4 _ => ?_)
    refine d_base (fun w h => h.ent (by repeat (first | exact .nil | refine .cons (by repeat (first | exact .here | apply Pick.there)) ?_))) ?_
    refine d_q 18 [] rfl (q_call rfl fn_59 rfl (fun w1 h1 => f59 h1 (by repeat (first | exact .here | apply Pick.there)) (by rfl) (by rfl) (by decide))) (by kernel_rfl) (by kernel_rfl) (by kernel_rfl) rfl ?_
    refine d_p 19 rfl (p_pure rfl) (by kernel_rfl) rfl rfl ?_
    refine d_nil (by kernel_rfl) (fun w h => h.ent (by repeat (first | exact .nil | refine .cons (by repeat (first | exact .here | apply Pick.there)) ?_))) ?_
    exact s_retv (rs := [.tmp 5]) rfl (.tmp rfl (.nil)) (fun w' h' => ⟨by simp only [retV, firstV, hldE, cond_eq_ite, decide_eq_true_eq, Bool.and_eq_true, Bool.or_eq_true, Bool.true_or]; grind, h'.below⟩)
  · intro hg5
    have hs6 := hg5; try simp only [decide_eq_true_eq, decide_eq_false_iff_not, Bool.not_eq_true', Bool.not_eq_false', Bool.and_eq_true, Bool.or_eq_true, Bool.and_eq_false_iff, Bool.or_eq_false_iff, Bool.not_true, Bool.not_false] at hs6
    first | refine d_qon 5 10 [] rfl rfl rfl hg5 (q_load rfl rfl sz_69 (by repeat (first | exact .here | apply Pick.there)) rfl) (by kernel_rfl) (by kernel_rfl) (by kernel_rfl) rfl ?_ | refine d_qon 5 10 [] rfl rfl rfl hg5 (q_load_old rfl rfl sz_69 (hp)) (by kernel_rfl) (by kernel_rfl) (by kernel_rfl) rfl ?_ | refine d_qon 5 10 [] rfl rfl rfl hg5 (q_load_old rfl rfl sz_69 (hs.rd0 (i := k - 1) (by omega))) (by kernel_rfl) (by kernel_rfl) (by kernel_rfl) rfl ?_
    refine d_pon 6 10 rfl rfl rfl hg5 (p_pure rfl) (by kernel_rfl) rfl rfl ?_
    refine d_pon 7 10 rfl rfl rfl hg5 (p_max2 rfl rfl rfl ) (by kernel_rfl) rfl rfl ?_
    refine d_slot (show _ = Value.int .i64 (k : Int) from by rw [if_neg (by omega)]) ?_
    refine d_pon 8 10 rfl rfl rfl hg5 (p_pure rfl) (by kernel_rfl) rfl rfl ?_
    try (refine d_slot (i64w (by omega) (by omega)) ?_)
    first | refine d_pon 9 10 rfl rfl rfl hg5 (p_indexAddr rfl rfl rfl sl_69 (k - 1) (by omega) (by omega) rfl) (by kernel_rfl) rfl rfl ?_ | refine d_pon 9 10 rfl rfl rfl hg5 (p_indexAddr rfl rfl rfl sl_69 (k - 1) (by omega) (by omega) (Sl.some hs (by omega))) (by kernel_rfl) rfl rfl ?_
    refine d_pon 10 10 rfl rfl rfl hg5 (p_fieldAddr rfl rfl fd_31_0 sz_3 rfl) (by kernel_rfl) rfl rfl ?_
    first | refine d_qon 11 10 [] rfl rfl rfl hg5 (q_load rfl rfl sz_3 (by repeat (first | exact .here | apply Pick.there)) rfl) (by kernel_rfl) (by kernel_rfl) (by kernel_rfl) rfl ?_ | refine d_qon 11 10 [] rfl rfl rfl hg5 (q_load_old rfl rfl sz_3 (hp)) (by kernel_rfl) (by kernel_rfl) (by kernel_rfl) rfl ?_ | refine d_qon 11 10 [] rfl rfl rfl hg5 (q_load_old rfl rfl sz_3 (hs.rd0 (i := k - 1) (by omega))) (by kernel_rfl) (by kernel_rfl) (by kernel_rfl) rfl ?_
    refine d_pon 12 10 rfl rfl rfl hg5 (p_fieldAddr rfl rfl fd_31_0 sz_3 rfl) (by kernel_rfl) rfl rfl ?_
    first | refine d_qon 13 10 [] rfl rfl rfl hg5 (q_load rfl rfl sz_3 (by repeat (first | exact .here | apply Pick.there)) rfl) (by kernel_rfl) (by kernel_rfl) (by kernel_rfl) rfl ?_ | refine d_qon 13 10 [] rfl rfl rfl hg5 (q_load_old rfl rfl sz_3 (hp)) (by kernel_rfl) (by kernel_rfl) (by kernel_rfl) rfl ?_ | refine d_qon 13 10 [] rfl rfl rfl hg5 (q_load_old rfl rfl sz_3 (hs.rd0 (i := k - 1) (by omega))) (by kernel_rfl) (by kernel_rfl) (by kernel_rfl) rfl ?_
    refine d_pon 14 10 rfl rfl rfl hg5 (p_pure rfl) (by kernel_rfl) rfl rfl ?_
    refine d_p 15 rfl (p_pickf rfl rfl hg5 rfl) (by kernel_rfl) rfl rfl ?_
    refine d_q 16 [] rfl (q_call rfl fn_65 rfl (fun w1 h1 => c65 w1 _ _)) (by kernel_rfl) (by kernel_rfl) (by kernel_rfl) rfl ?_
    refine d_h 17 rfl (h_buildSlice (cs := [_, _]) rfl rfl sl_140 zr_24 rfl rfl rfl) (by kernel_rfl) (fun w h => h.ent (by repeat (first | exact .nil | refine .cons (by repeat (first | exact .here | apply Pick.there)) ?_))) rfl (fun b7 _ => ?_)
    refine d_base (fun w h => h.ent (by repeat (first | exact .nil | refine .cons (by repeat (first | exact .here | apply Pick.there)) ?_))) ?_
    refine d_q 18 [] rfl (q_call rfl fn_59 rfl (fun w1 h1 => f59 h1 (by repeat (first | exact .here | apply Pick.there)) (by rfl) (by rfl) (by decide))) (by kernel_rfl) (by kernel_rfl) (by kernel_rfl) rfl ?_
    refine d_p 19 rfl (p_pure rfl) (by kernel_rfl) rfl rfl ?_
    refine d_nil (by kernel_rfl) (fun w h => h.ent (by repeat (first | exact .nil | refine .cons (by repeat (first | exact .here | apply Pick.there)) ?_))) ?_
    exact s_retv (rs := [.tmp 5]) rfl (.tmp rfl (.nil)) (fun w' h' => ⟨by simp only [retV, firstV, hldE, cond_eq_ite, decide_eq_true_eq, Bool.and_eq_true, Bool.or_eq_true, Bool.true_or]; grind, h'.below⟩)

set_option maxRecDepth 20000 in
theorem c83 (w : World) (u hu : Int) (hk : List UInt8) (pb : Nat) (hp : Rd w [] pb 0 (.int .i64 u)) : Calls Try.prog 83 #[.agg #[.int .i64 hu, .string (bs hk)], .pointer (some ⟨pb, 0, none⟩)] w fun en w' => en = .returned (.bool (decide (hu = u))) ∧ Below w.heap.size w w' := by
  refine enter (args := [_, _]) Try.func83 Try.ntmps83 rfl rfl (HS.refl w []) ?_
  refine s_seq ?_
  refine s_region ?_
  refine o_h (h_box rfl rfl) rfl (fun b1 _ => ?_)
  refine o_p (p_pure rfl) rfl ?_
  refine o_nil ?_
  refine s_seq ?_
  refine s_region ?_
  refine o_p (p_fieldAddr rfl rfl fd_31_0 sz_3 rfl) rfl ?_
  first | refine o_q (q_load rfl rfl sz_3 (by repeat (first | exact .here | apply Pick.there)) rfl) rfl ?_ | refine o_q (q_load_old rfl rfl sz_3 (hp)) rfl ?_
  refine o_p (p_fieldAddr rfl rfl fd_96_0 sz_3 rfl) rfl ?_
  first | refine o_q (q_load rfl rfl sz_3 (by repeat (first | exact .here | apply Pick.there)) rfl) rfl ?_ | refine o_q (q_load_old rfl rfl sz_3 (hp)) rfl ?_
  refine o_p (p_pure rfl) rfl ?_
  refine o_p (p_pure rfl) rfl ?_
  refine o_nil ?_
  exact s_retv (rs := [.tmp 3]) rfl (.tmp rfl (.nil)) (fun w' h' => ⟨rfl, h'.below⟩)

set_option maxRecDepth 20000 in
theorem c81 (w : World) (u : Int) (s : List UInt8) (pb : Nat) (a : Option Addr) (cap : Nat) (fs : Fds) (hp : Rd w [] pb 0 (.slice a fs.length cap)) (hs : Fl w a fs) (hm : fs.length ≤ 1000) : Calls Try.prog 81 #[.agg #[.int .i64 u, .string (bs s)], .pointer (some ⟨pb, 0, none⟩)] w fun en w' => en = .returned (.bool (!hasU fs u)) ∧ Below w.heap.size w w' := by
  refine enter (args := [_, _]) Try.func81 Try.ntmps81 rfl rfl (HS.refl w []) ?_
  refine s_seq ?_
  refine s_region ?_
  refine o_h (h_box rfl rfl) rfl (fun b1 _ => ?_)
  refine o_p (p_pure rfl) rfl ?_
  refine o_nil ?_
  refine s_seq ?_
  refine s_region ?_
  first | refine o_q (q_load rfl rfl sz_69 (by repeat (first | exact .here | apply Pick.there)) rfl) rfl ?_ | refine o_q (q_load_old rfl rfl sz_69 (hp)) rfl ?_
  refine o_p (p_pure rfl) rfl ?_
  refine o_q (q_call rfl fn_82 rfl (fun w1 h1 => c82 w1 a cap fs 83 #[.pointer (some ⟨b1, 0, none⟩)] (fs.map fun p => decide (p.1 = u)) (hs.later h1) hm (by kernel_rfl) (by simp) (fun k w2 hk h2 => by rw [mapB_getD hk]; exact c83 w2 u _ _ b1 ((h1.rd_blk (by repeat (first | exact .here | apply Pick.there)) rfl (by simp)).later h2 (by simp))))) rfl ?_
  refine o_p (p_pure rfl) rfl ?_
  refine o_p (p_pure rfl) rfl ?_
  refine o_nil ?_
  exact s_retv (rs := [.tmp 3]) rfl (.tmp rfl (.nil)) (fun w' h' => ⟨rfl, h'.below⟩)

set_option maxRecDepth 20000 in
theorem c84 (w : World) (hu : Int) (hk : List UInt8) (pb : Nat) (a : Option Addr) (cap : Nat) (fs : Fds) (hp : Rd w [] pb 0 (.slice a fs.length cap)) (hs : Fl w a fs) (hm : fs.length ≤ 1000) : Calls Try.prog 84 #[.agg #[.int .i64 hu, .string (bs hk)], .pointer (some ⟨pb, 0, none⟩)] w fun en w' => en = .returned (.bool (!bsB fs hu)) ∧ Below w.heap.size w w' := by
  refine enter (args := [_, _]) Try.func84 Try.ntmps84 rfl rfl (HS.refl w []) ?_
  refine s_seq ?_
  refine s_region ?_
  refine o_h (h_box rfl rfl) rfl (fun b1 _ => ?_)
  refine o_p (p_pure rfl) rfl ?_
  refine o_nil ?_
  refine s_seq ?_
  refine s_region ?_
  refine o_p (p_fieldAddr rfl rfl fd_43_0 sz_41 rfl) rfl ?_
  first | refine o_q (q_load rfl rfl sz_41 (by repeat (first | exact .here | apply Pick.there)) rfl) rfl ?_ | refine o_q (q_load_old rfl rfl sz_41 (hp)) rfl ?_
  refine o_p (p_fieldAddr rfl rfl fd_31_0 sz_3 rfl) rfl ?_
  first | refine o_q (q_load rfl rfl sz_3 (by repeat (first | exact .here | apply Pick.there)) rfl) rfl ?_ | refine o_q (q_load_old rfl rfl sz_3 (hp)) rfl ?_
  refine o_q (q_call rfl fn_85 rfl (fun w1 h1 => d85 w1 a cap fs _ (hs.later h1) hm)) rfl ?_
  refine o_p (p_pure rfl) rfl ?_
  refine o_p (p_pure rfl) rfl ?_
  refine o_p (p_pure rfl) rfl ?_
  refine o_p (p_pure rfl) rfl ?_
  refine o_p (p_pure rfl) rfl ?_
  refine o_nil ?_
  refine s_seq ?_
  refine s_region ?_
  refine o_p (p_pure rfl) rfl ?_
  refine o_p (p_pure rfl) rfl ?_
  refine o_p (p_pure rfl) rfl ?_
  refine o_nil ?_
  exact s_retv (rs := [.tmp 3]) rfl (.tmp rfl (.nil)) (fun w' h' => ⟨rfl, h'.below⟩)

end Go.Proofs
