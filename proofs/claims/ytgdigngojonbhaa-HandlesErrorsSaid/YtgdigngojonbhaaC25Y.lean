/- Contracts of the program's functions, proved by walking them with the rules of the Gx texts; without conditions beyond those that each contract names. -/
import Derived.Test.YtgdigngojonbhaaC25X
namespace Go.Proofs
open Go Go.RowKit Gx
set_option linter.unusedVariables false
set_option linter.unusedSimpArgs false
attribute [local irreducible] Go.Calls Gx.S Gx.O Gx.D Gx.OpP Gx.OpQ Gx.OpH



/-- Whether two handles conflict, or the error. -/
def cflT (a b : Opn) : Bool × Int := if openE a.ac a.sh = 0 then if openE b.ac b.sh = 0 then (cfl a b, 0) else (false, openE b.ac b.sh) else (false, openE a.ac a.sh)
theorem cflT_e {a b : Opn} (h : ¬ firstV [.int .i64 (openE a.ac a.sh), .int .i64 (openE b.ac b.sh)] = 0) : cflT a b = (false, firstV [.int .i64 (openE a.ac a.sh), .int .i64 (openE b.ac b.sh)]) := by
  rw [firstV2] at h ⊢
  unfold cflT
  grind
theorem cflT_0 {a b : Opn} (h : openE a.ac a.sh = 0 ∧ openE b.ac b.sh = 0) : cflT a b = (cfl a b, 0) := by rw [cflT, if_pos h.1, if_pos h.2]

set_option maxRecDepth 20000 in
theorem c21 (w : World) (x y : LOpn) : Calls Try.prog 21 #[.agg #[.int .i64 x.hd, .int .i64 x.ac, .int .i64 x.sh, .bool x.dl, .slice x.la x.lk.length x.lc], .agg #[.int .i64 y.hd, .int .i64 y.ac, .int .i64 y.sh, .bool y.dl, .slice y.la y.lk.length y.lc]] w fun en w' => en = .returned (.tuple #[.bool (cflT x.pl y.pl).1, .int .i64 (cflT x.pl y.pl).2]) ∧ Below w.heap.size w w' := by
  refine enter (args := [_, _]) Try.func21 Try.ntmps21 rfl rfl (HS.refl w []) ?_
  refine s_seq ?_
  refine s_region ?_
  refine o_h (h_box rfl rfl) rfl (fun b1 _ => ?_)
  refine o_h (h_box rfl rfl) rfl (fun b2 _ => ?_)
  refine o_p (p_pure rfl) rfl ?_
  refine o_p (p_pure rfl) rfl ?_
  refine o_nil ?_
  refine s_seq ?_
  refine s_seq ?_
  refine s_draw [] mixed ?_
  refine d_q 0 [] rfl (q_loadn rfl rfl sz_48 (by repeat (first | exact .here | apply Pick.there)) rfl) (by kernel_rfl) (by kernel_rfl) (by kernel_rfl) rfl ?_
  refine d_q 1 [] rfl (q_call rfl fn_62 rfl (fun w1 h1 => c62 w1 x)) (by kernel_rfl) (by kernel_rfl) (by kernel_rfl) rfl ?_
  refine d_q 2 [] rfl (q_loadn rfl rfl sz_48 (by repeat (first | exact .here | apply Pick.there)) rfl) (by kernel_rfl) (by kernel_rfl) (by kernel_rfl) rfl ?_
  refine d_q 3 [] rfl (q_call rfl fn_62 rfl (fun w1 h1 => c62 w1 y)) (by kernel_rfl) (by kernel_rfl) (by kernel_rfl) rfl ?_
  refine d_h 4 rfl (h_buildSlice (cs := [_, _]) rfl rfl sl_146 zr_28 rfl rfl rfl) (by kernel_rfl) (fun w h => h.ent (by repeat (first | exact .nil | refine .cons (by repeat (first | exact .here | apply Pick.there)) ?_))) rfl (fun b3 _ => ?_)
  refine d_base (fun w h => h.ent (by repeat (first | exact .nil | refine .cons (by repeat (first | exact .here | apply Pick.there)) ?_))) ?_
  refine d_q 5 [] rfl (q_call rfl fn_52 rfl (fun w1 h1 => f52 h1 (by repeat (first | exact .here | apply Pick.there)) (by rfl) (by rfl) (by decide))) (by kernel_rfl) (by kernel_rfl) (by kernel_rfl) rfl ?_
  refine d_p 6 rfl (p_pure rfl) (by kernel_rfl) rfl rfl ?_
  refine d_nil (by kernel_rfl) (fun w h => h.ent (by repeat (first | exact .nil | refine .cons (by repeat (first | exact .here | apply Pick.there)) ?_))) ?_
  refine s_seq ?_
  refine s_region ?_
  refine o_p (p_pure rfl) rfl ?_
  refine o_p (p_pure rfl) rfl ?_
  refine o_nil ?_
  refine s_cond rfl (fun h4 => ?_) (fun h4 => ?_)
  · try simp only [decide_eq_true_eq, decide_eq_false_iff_not, Bool.not_eq_true', Bool.not_eq_false', Bool.and_eq_true, Bool.or_eq_true, Bool.and_eq_false_iff, Bool.or_eq_false_iff, Bool.not_true, Bool.not_false] at h4
    have he : ¬ firstV [.int .i64 (openE x.pl.ac x.pl.sh), .int .i64 (openE y.pl.ac y.pl.sh)] = 0 := h4
    refine s_seq ?_
    refine s_region ?_
    refine o_p (p_pure rfl) rfl ?_
    refine o_p (p_pure rfl) rfl ?_
    refine o_p (p_pure rfl) rfl ?_
    refine o_nil ?_
    exact s_retv (rs := [.tmp 4, .tmp 5]) rfl (.tmp rfl (.tmp rfl (.nil))) (fun w' h' => ⟨by rw [cflT_e he]; rfl, h'.below⟩)
  · try simp only [decide_eq_true_eq, decide_eq_false_iff_not, Bool.not_eq_true', Bool.not_eq_false', Bool.and_eq_true, Bool.or_eq_true, Bool.and_eq_false_iff, Bool.or_eq_false_iff, Bool.not_true, Bool.not_false] at h4
    have hz := first2_0 h4
    refine s_skip ?_
    refine s_seq ?_
    refine s_region ?_
    refine o_q (q_loadn rfl rfl sz_48 (by repeat (first | exact .here | apply Pick.there)) rfl) rfl ?_
    refine o_q (q_loadn rfl rfl sz_48 (by repeat (first | exact .here | apply Pick.there)) rfl) rfl ?_
    refine o_q (q_call rfl fn_63 rfl (fun w1 h1 => c63 w1 x y hz.1 hz.2)) rfl ?_
    refine o_p (p_pure rfl) rfl ?_
    refine o_p (p_pure rfl) rfl ?_
    refine o_nil ?_
    exact s_retv (rs := [.tmp 4, .tmp 5]) rfl (.tmp rfl (.tmp rfl (.nil))) (fun w' h' => ⟨by rw [cflT_0 (a := x.pl) (b := y.pl) hz]; rfl, h'.below⟩)

end Go.Proofs
