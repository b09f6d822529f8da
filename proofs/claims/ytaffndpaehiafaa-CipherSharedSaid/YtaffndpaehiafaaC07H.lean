/- Contracts of the program's functions, proved by walking them with the rules of the Gx texts; without conditions beyond those that each contract names. -/
import Derived.Test.YtaffndpaehiafaaC07G
import Derived.Test.YtaffndpaehiafaaGxCipher2
import Derived.Test.YtaffndpaehiafaaC07Rep
namespace Go.Proofs
open Go Go.RowKit Gx
set_option linter.unusedVariables false
set_option linter.unusedSimpArgs false
attribute [local irreducible] Go.Calls Gx.S Gx.O Gx.D Gx.OpP Gx.OpQ Gx.OpH

theorem sl_41 : tsl Try.prog 41 = some (96, 2, 24) := by kernel_rfl
theorem sz_96 : tsz Try.prog 96 = some (2, true) := by kernel_rfl
theorem zr_96 : tzero Try.prog 96 = some [.int .i64 0, .string (bs [])] := by kernel_rfl
theorem fn_91 : isFn Try.prog 91 = true := by kernel_rfl
theorem fd_96_0 : tfd Try.prog 96 0 = some (0, 3) := by kernel_rfl
theorem sz_41 : tsz Try.prog 41 = some (1, false) := by kernel_rfl
theorem fd_96_1 : tfd Try.prog 96 1 = some (1, 9) := by kernel_rfl
theorem fn_90 : isFn Try.prog 90 = true := by kernel_rfl
theorem fn_40 : isFn Try.prog 40 = true := by kernel_rfl
theorem fn_112 : isFn Try.prog 112 = true := by kernel_rfl
theorem fn_111 : isFn Try.prog 111 = true := by kernel_rfl
theorem fn_85 : isFn Try.prog 85 = true := by kernel_rfl
theorem fd_43_0 : tfd Try.prog 43 0 = some (0, 41) := by kernel_rfl
theorem fn_92 : isFn Try.prog 92 = true := by kernel_rfl
theorem fd_43_1 : tfd Try.prog 43 1 = some (1, 3) := by kernel_rfl
theorem fd_43_2 : tfd Try.prog 43 2 = some (2, 9) := by kernel_rfl


set_option maxRecDepth 20000 in
theorem c90 (w : World) (a : Option Addr) (cap : Nat) (fs : Fds) (cv : Array Value) (es : List Int) (hs : Fl w a fs) (hm : fs.length ≤ 1000) (he : es.length = fs.length) (hc : ∀ k w1, k < fs.length → HS w [] [] w1 → Calls Try.prog 91 (#[] ++ [.int .i64 (k : Int), .agg #[.int .i64 (fd fs k).1, .string (bs (fd fs k).2)]].toArray ++ cv) w1 fun en w2 => en = .returned (.int .i64 (es.getD k 0)) ∧ Below w1.heap.size w1 w2) : Calls Try.prog 90 #[.slice a fs.length cap, .func (.func 91) #[] cv] w fun en w' => en = .returned (.tuple #[.int .i64 (eachL es 0).1, .int .i64 (eachL es 0).2]) ∧ Below w.heap.size w w' := by
  refine enter (args := [_, _]) Try.func90 Try.ntmps90 rfl rfl (HS.refl w []) ?_
  refine s_seq ?_
  refine s_region ?_
  refine o_p (p_pure rfl) rfl ?_
  refine o_p (p_pure rfl) rfl ?_
  refine o_nil ?_
  refine s_seq ?_
  refine s_seq ?_
  refine s_region ?_
  refine o_p (p_pure rfl) rfl ?_
  first | refine o_p (p_len_slice rfl rfl Try.underlying41) rfl ?_ | refine o_q (q_len_own rfl rfl Try.underlying41 (by repeat (first | exact .here | apply Pick.there))) rfl ?_
  refine o_p (p_pure rfl) rfl ?_
  refine o_nil ?_
  refine s_block ?_
  refine s_loopI (α := Nat) [4, 5, 6, 7, 8, 11, 12, 13, 14, 15, 16, 17, 18, 19, 20, 21, 22, 23, 24] (fun k => [(11, .int .i64 (k : Int))]) (fun _ => HS w [] []) (fun k => k ≤ fs.length ∧ eachL es 0 = eachL (es.drop k) k) (fun k => fs.length - k) 0 ⟨by omega, rfl⟩ (by repeat (first | exact sl_n | refine sl_c rfl ?_)) (fun w h => h.ent (by repeat (first | exact .nil | refine .cons (by repeat (first | exact .here | apply Pick.there)) ?_))) (fun k hk => ?_)
  obtain ⟨hk1, hk2⟩ := hk
  refine s_seq ?_
  refine s_region ?_
  refine o_p (p_pure rfl) rfl ?_
  refine o_nil ?_
  refine s_seq ?_
  refine s_cond rfl (fun h1 => ?_) (fun h1 => ?_)
  · try simp only [decide_eq_true_eq, decide_eq_false_iff_not, Bool.not_eq_true', Bool.not_eq_false', Bool.and_eq_true, Bool.or_eq_true, Bool.and_eq_false_iff, Bool.or_eq_false_iff, Bool.not_true, Bool.not_false] at h1
    refine s_skip ?_
    refine s_seq ?_
    refine s_block ?_
    refine s_seq ?_
    refine s_region ?_
    refine o_p (p_pure rfl) rfl ?_
    first | refine o_p (p_indexAddr rfl rfl rfl sl_41 (k) (by omega) (by omega) rfl) rfl ?_ | refine o_p (p_indexAddr rfl rfl rfl sl_41 (k) (by omega) (by omega) (Sl.some hs (by omega))) rfl ?_
    first | refine o_q (q_loadn rfl rfl sz_96 (by repeat (first | exact .here | apply Pick.there)) rfl) rfl ?_ | refine o_q (q_load_oldn _ rfl rfl sz_96 rfl (hs.rd (by omega))) rfl ?_
    refine o_h (h_alloc rfl zr_96) rfl (fun b2 _ => ?_)
    refine o_p (p_pure rfl) rfl ?_
    refine o_h0 (h_store rfl rfl rfl sz_96 rfl (by repeat (first | exact .here | apply Put.there)) (by simp only [setMany_length, List.length_set, List.length_cons, List.length_nil, List.length_map]; omega) rfl) (fun _ _ => ?_)
    refine o_nil ?_
    refine s_seq ?_
    refine s_region ?_
    refine o_p (p_pure rfl) rfl ?_
    refine o_p (p_pure rfl) rfl ?_
    first | refine o_q (q_loadn rfl rfl sz_96 (by repeat (first | exact .here | apply Pick.there)) rfl) rfl ?_ | refine o_q (q_load_oldn _ rfl rfl sz_96 rfl (hs.rd (by omega))) rfl ?_
    refine o_q (q_callv rfl rfl fn_91 rfl (fun w1 h1 => hc k w1 (by omega) (h1.ent (by repeat (first | exact .nil | refine .cons (by repeat (first | exact .here | apply Pick.there)) ?_))))) rfl ?_
    refine o_p (p_pure rfl) rfl ?_
    refine o_nil ?_
    refine s_seq ?_
    refine s_region ?_
    refine o_p (p_pure rfl) rfl ?_
    refine o_p (p_pure rfl) rfl ?_
    refine o_nil ?_
    refine s_cond rfl (fun h3 => ?_) (fun h3 => ?_)
    · try simp only [decide_eq_true_eq, decide_eq_false_iff_not, Bool.not_eq_true', Bool.not_eq_false', Bool.and_eq_true, Bool.or_eq_true, Bool.and_eq_false_iff, Bool.or_eq_false_iff, Bool.not_true, Bool.not_false] at h3
      refine s_seq ?_
      refine s_region ?_
      refine o_p (p_pure rfl) rfl ?_
      refine o_p (p_pure rfl) rfl ?_
      refine o_p (p_pure rfl) rfl ?_
      refine o_p (p_pure rfl) rfl ?_
      refine o_nil ?_
      exact s_retv (rs := [.tmp 4, .tmp 5]) rfl (.tmp rfl (.tmp rfl (.nil))) (fun w' h' => ⟨by simp only [retV]; rw [hk2, eachL_drop (by omega), if_neg (by assumption)], h'.below⟩)
    · try simp only [decide_eq_true_eq, decide_eq_false_iff_not, Bool.not_eq_true', Bool.not_eq_false', Bool.and_eq_true, Bool.or_eq_true, Bool.and_eq_false_iff, Bool.or_eq_false_iff, Bool.not_true, Bool.not_false] at h3
      refine s_skip ?_
      refine s_blk ?_
      refine s_region ?_
      refine o_p (p_pure rfl) rfl ?_
      try (refine o_slot (i64w (by omega) (by omega)) ?_)
      refine o_p (p_pure rfl) rfl ?_
      refine o_nil ?_
      exact s_backI (k+1) (by omega) ⟨by omega, by rw [hk2, eachL_drop (by omega), if_pos (by assumption)]⟩ (by repeat (first | exact sl_n | refine sl_c rfl ?_)) (fun w h => h.ent (by repeat (first | exact .nil | refine .cons (by repeat (first | exact .here | apply Pick.there)) ?_)))
  · try simp only [decide_eq_true_eq, decide_eq_false_iff_not, Bool.not_eq_true', Bool.not_eq_false', Bool.and_eq_true, Bool.or_eq_true, Bool.and_eq_false_iff, Bool.or_eq_false_iff, Bool.not_true, Bool.not_false] at h1
    refine s_exit_to rfl ?_
    refine s_seq ?_
    refine s_region ?_
    refine o_p (p_pure rfl) rfl ?_
    refine o_p (p_pure rfl) rfl ?_
    refine o_nil ?_
    exact s_retv (rs := [.tmp 4, .tmp 5]) rfl (.tmp rfl (.tmp rfl (.nil))) (fun w' h' => ⟨by simp only [retV]; rw [hk2, eachL_end (by omega)], h'.below⟩)

set_option maxRecDepth 20000 in
theorem c91 (w : World) (k : Nat) (u : Int) (s : List UInt8) (pb : Nat) (a : Option Addr) (cap : Nat) (fs : Fds) (hp : Rd w [] pb 0 (.slice a fs.length cap)) (hs : Fl w a fs) (hk : k < fs.length) (hm : fs.length ≤ 1000) : Calls Try.prog 91 #[.int .i64 (k : Int), .agg #[.int .i64 u, .string (bs s)], .pointer (some ⟨pb, 0, none⟩)] w fun en w' => en = .returned (.int .i64 (fieldE k (fd fs (k - 1)).1 u s.length)) ∧ Below w.heap.size w w' := by
  refine enter (args := [_, _, _]) Try.func91 Try.ntmps91 rfl rfl (HS.refl w []) ?_
  refine s_seq ?_
  refine s_region ?_
  refine o_h (h_box rfl rfl) rfl (fun b1 _ => ?_)
  refine o_p (p_pure rfl) rfl ?_
  refine o_nil ?_
  refine s_seq ?_
  refine s_draw [] mixed ?_
  refine d_p 0 rfl (p_fieldAddr rfl rfl fd_96_0 sz_3 rfl) (by kernel_rfl) rfl rfl ?_
  first | refine d_q 1 [] rfl (q_load rfl rfl sz_3 (by repeat (first | exact .here | apply Pick.there)) rfl) (by kernel_rfl) (by kernel_rfl) (by kernel_rfl) rfl ?_ | refine d_q 1 [] rfl (q_load_old rfl rfl sz_3 (hp)) (by kernel_rfl) (by kernel_rfl) (by kernel_rfl) rfl ?_ | refine d_q 1 [] rfl (q_load_old rfl rfl sz_3 (hs.rd0 (i := k - 1) (by omega))) (by kernel_rfl) (by kernel_rfl) (by kernel_rfl) rfl ?_
  refine d_q 2 [] rfl (q_call rfl fn_68 rfl (fun w1 h1 => c68 w1 _ _ _)) (by kernel_rfl) (by kernel_rfl) (by kernel_rfl) rfl ?_
  refine d_q 3 [] rfl (q_call rfl fn_65 rfl (fun w1 h1 => c65 w1 _ _)) (by kernel_rfl) (by kernel_rfl) (by kernel_rfl) rfl ?_
  refine d_p 4 rfl (p_pure rfl) (by kernel_rfl) rfl rfl ?_
  refine d_p 5 rfl (p_pure rfl) (by kernel_rfl) rfl rfl ?_
  refine d_p 6 rfl (p_pure rfl) (by kernel_rfl) rfl rfl ?_
  apply d_split 12
  · exact rfl
  · intro hg2
    have hs3 := hg2; try simp only [decide_eq_true_eq, decide_eq_false_iff_not, Bool.not_eq_true', Bool.not_eq_false', Bool.and_eq_true, Bool.or_eq_true, Bool.and_eq_false_iff, Bool.or_eq_false_iff, Bool.not_true, Bool.not_false] at hs3
    refine d_off 7 12 rfl rfl rfl hg2 (by kernel_rfl) rfl rfl ?_
    refine d_off 8 12 rfl rfl rfl hg2 (by kernel_rfl) rfl rfl ?_
    refine d_off 9 12 rfl rfl rfl hg2 (by kernel_rfl) rfl rfl ?_
    refine d_off 10 12 rfl rfl rfl hg2 (by kernel_rfl) rfl rfl ?_
    refine d_off 11 12 rfl rfl rfl hg2 (by kernel_rfl) rfl rfl ?_
    refine d_off 12 12 rfl rfl rfl hg2 (by kernel_rfl) rfl rfl ?_
    refine d_off 13 12 rfl rfl rfl hg2 (by kernel_rfl) rfl rfl ?_
    refine d_off 14 12 rfl rfl rfl hg2 (by kernel_rfl) rfl rfl ?_
    refine d_off 15 12 rfl rfl rfl hg2 (by kernel_rfl) rfl rfl ?_
    refine d_off 16 12 rfl rfl rfl hg2 (by kernel_rfl) rfl rfl ?_
    refine d_p 17 rfl (p_pickt rfl rfl hg2 rfl) (by kernel_rfl) rfl rfl ?_
    refine d_q 18 [] rfl (q_call rfl fn_65 rfl (fun w1 h1 => c65 w1 _ _)) (by kernel_rfl) (by kernel_rfl) (by kernel_rfl) rfl ?_
    refine d_p 19 rfl (p_fieldAddr rfl rfl fd_96_1 sz_9 rfl) (by kernel_rfl) rfl rfl ?_
    first | refine d_q 20 [] rfl (q_load rfl rfl sz_9 (by repeat (first | exact .here | apply Pick.there)) rfl) (by kernel_rfl) (by kernel_rfl) (by kernel_rfl) rfl ?_ | refine d_q 20 [] rfl (q_load_old rfl rfl sz_9 (hp)) (by kernel_rfl) (by kernel_rfl) (by kernel_rfl) rfl ?_ | refine d_q 20 [] rfl (q_load_old rfl rfl sz_9 (hs.rd0 (i := k - 1) (by omega))) (by kernel_rfl) (by kernel_rfl) (by kernel_rfl) rfl ?_
    refine d_p 21 rfl (p_len_str rfl rfl Try.underlying9) (by kernel_rfl) rfl rfl ?_
    refine d_p 22 rfl (p_pure rfl) (by kernel_rfl) rfl rfl ?_
    refine d_q 23 [] rfl (q_call rfl fn_65 rfl (fun w1 h1 => c65 w1 _ _)) (by kernel_rfl) (by kernel_rfl) (by kernel_rfl) rfl ?_
    refine d_h 24 rfl (h_buildSlice (cs := [_, _, _]) rfl rfl sl_140 zr_24 rfl rfl rfl) (by kernel_rfl) (fun w h => h.ent (by repeat (first | exact .nil | refine .cons (by repeat (first | exact .here | apply Pick.there)) ?_))) rfl (fun b4 _ => ?_)
    refine d_base (fun w h => h.ent (by repeat (first | exact .nil | refine .cons (by repeat (first | exact .here | apply Pick.there)) ?_))) ?_
    refine d_q 25 [] rfl (q_call rfl fn_59 rfl (fun w1 h1 => f59 h1 (by repeat (first | exact .here | apply Pick.there)) (by rfl) (by rfl) (by decide))) (by kernel_rfl) (by kernel_rfl) (by kernel_rfl) rfl ?_
    refine d_p 26 rfl (p_pure rfl) (by kernel_rfl) rfl rfl ?_
    refine d_nil (by kernel_rfl) (fun w h => h.ent (by repeat (first | exact .nil | refine .cons (by repeat (first | exact .here | apply Pick.there)) ?_))) ?_
    exact s_retv (rs := [.tmp 5]) rfl (.tmp rfl (.nil)) (fun w' h' => ⟨by simp only [retV, firstV, fieldE, cond_eq_ite, decide_eq_true_eq, Bool.and_eq_true, Bool.or_eq_true, Bool.true_or]; grind, h'.below⟩)
  · intro hg5
    have hs6 := hg5; try simp only [decide_eq_true_eq, decide_eq_false_iff_not, Bool.not_eq_true', Bool.not_eq_false', Bool.and_eq_true, Bool.or_eq_true, Bool.and_eq_false_iff, Bool.or_eq_false_iff, Bool.not_true, Bool.not_false] at hs6
    first | refine d_qon 7 12 [] rfl rfl rfl hg5 (q_load rfl rfl sz_41 (by repeat (first | exact .here | apply Pick.there)) rfl) (by kernel_rfl) (by kernel_rfl) (by kernel_rfl) rfl ?_ | refine d_qon 7 12 [] rfl rfl rfl hg5 (q_load_old rfl rfl sz_41 (hp)) (by kernel_rfl) (by kernel_rfl) (by kernel_rfl) rfl ?_ | refine d_qon 7 12 [] rfl rfl rfl hg5 (q_load_old rfl rfl sz_41 (hs.rd0 (i := k - 1) (by omega))) (by kernel_rfl) (by kernel_rfl) (by kernel_rfl) rfl ?_
    refine d_pon 8 12 rfl rfl rfl hg5 (p_pure rfl) (by kernel_rfl) rfl rfl ?_
    refine d_pon 9 12 rfl rfl rfl hg5 (p_max2 rfl rfl rfl ) (by kernel_rfl) rfl rfl ?_
    refine d_slot (show _ = Value.int .i64 (k : Int) from by rw [if_neg (by omega)]) ?_
    refine d_pon 10 12 rfl rfl rfl hg5 (p_pure rfl) (by kernel_rfl) rfl rfl ?_
    try (refine d_slot (i64w (by omega) (by omega)) ?_)
    first | refine d_pon 11 12 rfl rfl rfl hg5 (p_indexAddr rfl rfl rfl sl_41 (k - 1) (by omega) (by omega) rfl) (by kernel_rfl) rfl rfl ?_ | refine d_pon 11 12 rfl rfl rfl hg5 (p_indexAddr rfl rfl rfl sl_41 (k - 1) (by omega) (by omega) (Sl.some hs (by omega))) (by kernel_rfl) rfl rfl ?_
    refine d_pon 12 12 rfl rfl rfl hg5 (p_fieldAddr rfl rfl fd_96_0 sz_3 rfl) (by kernel_rfl) rfl rfl ?_
    first | refine d_qon 13 12 [] rfl rfl rfl hg5 (q_load rfl rfl sz_3 (by repeat (first | exact .here | apply Pick.there)) rfl) (by kernel_rfl) (by kernel_rfl) (by kernel_rfl) rfl ?_ | refine d_qon 13 12 [] rfl rfl rfl hg5 (q_load_old rfl rfl sz_3 (hp)) (by kernel_rfl) (by kernel_rfl) (by kernel_rfl) rfl ?_ | refine d_qon 13 12 [] rfl rfl rfl hg5 (q_load_old rfl rfl sz_3 (hs.rd0 (i := k - 1) (by omega))) (by kernel_rfl) (by kernel_rfl) (by kernel_rfl) rfl ?_
    refine d_pon 14 12 rfl rfl rfl hg5 (p_fieldAddr rfl rfl fd_96_0 sz_3 rfl) (by kernel_rfl) rfl rfl ?_
    first | refine d_qon 15 12 [] rfl rfl rfl hg5 (q_load rfl rfl sz_3 (by repeat (first | exact .here | apply Pick.there)) rfl) (by kernel_rfl) (by kernel_rfl) (by kernel_rfl) rfl ?_ | refine d_qon 15 12 [] rfl rfl rfl hg5 (q_load_old rfl rfl sz_3 (hp)) (by kernel_rfl) (by kernel_rfl) (by kernel_rfl) rfl ?_ | refine d_qon 15 12 [] rfl rfl rfl hg5 (q_load_old rfl rfl sz_3 (hs.rd0 (i := k - 1) (by omega))) (by kernel_rfl) (by kernel_rfl) (by kernel_rfl) rfl ?_
    refine d_pon 16 12 rfl rfl rfl hg5 (p_pure rfl) (by kernel_rfl) rfl rfl ?_
    refine d_p 17 rfl (p_pickf rfl rfl hg5 rfl) (by kernel_rfl) rfl rfl ?_
    refine d_q 18 [] rfl (q_call rfl fn_65 rfl (fun w1 h1 => c65 w1 _ _)) (by kernel_rfl) (by kernel_rfl) (by kernel_rfl) rfl ?_
    refine d_p 19 rfl (p_fieldAddr rfl rfl fd_96_1 sz_9 rfl) (by kernel_rfl) rfl rfl ?_
    first | refine d_q 20 [] rfl (q_load rfl rfl sz_9 (by repeat (first | exact .here | apply Pick.there)) rfl) (by kernel_rfl) (by kernel_rfl) (by kernel_rfl) rfl ?_ | refine d_q 20 [] rfl (q_load_old rfl rfl sz_9 (hp)) (by kernel_rfl) (by kernel_rfl) (by kernel_rfl) rfl ?_ | refine d_q 20 [] rfl (q_load_old rfl rfl sz_9 (hs.rd0 (i := k - 1) (by omega))) (by kernel_rfl) (by kernel_rfl) (by kernel_rfl) rfl ?_
    refine d_p 21 rfl (p_len_str rfl rfl Try.underlying9) (by kernel_rfl) rfl rfl ?_
    refine d_p 22 rfl (p_pure rfl) (by kernel_rfl) rfl rfl ?_
    refine d_q 23 [] rfl (q_call rfl fn_65 rfl (fun w1 h1 => c65 w1 _ _)) (by kernel_rfl) (by kernel_rfl) (by kernel_rfl) rfl ?_
    refine d_h 24 rfl (h_buildSlice (cs := [_, _, _]) rfl rfl sl_140 zr_24 rfl rfl rfl) (by kernel_rfl) (fun w h => h.ent (by repeat (first | exact .nil | refine .cons (by repeat (first | exact .here | apply Pick.there)) ?_))) rfl (fun b7 _ => ?_)
    refine d_base (fun w h => h.ent (by repeat (first | exact .nil | refine .cons (by repeat (first | exact .here | apply Pick.there)) ?_))) ?_
    refine d_q 25 [] rfl (q_call rfl fn_59 rfl (fun w1 h1 => f59 h1 (by repeat (first | exact .here | apply Pick.there)) (by rfl) (by rfl) (by decide))) (by kernel_rfl) (by kernel_rfl) (by kernel_rfl) rfl ?_
    refine d_p 26 rfl (p_pure rfl) (by kernel_rfl) rfl rfl ?_
    refine d_nil (by kernel_rfl) (fun w h => h.ent (by repeat (first | exact .nil | refine .cons (by repeat (first | exact .here | apply Pick.there)) ?_))) ?_
    exact s_retv (rs := [.tmp 5]) rfl (.tmp rfl (.nil)) (fun w' h' => ⟨by simp only [retV, firstV, fieldE, cond_eq_ite, decide_eq_true_eq, Bool.and_eq_true, Bool.or_eq_true, Bool.true_or]; grind, h'.below⟩)

set_option maxRecDepth 20000 in
theorem c40 (w : World) (a : Option Addr) (cap : Nat) (fs : Fds) (hs : Fl w a fs) (hm : fs.length ≤ 1000) : Calls Try.prog 40 #[.slice a fs.length cap] w fun en w' => en = .returned (.tuple #[.int .i64 (chkF fs).1, .int .i64 (chkF fs).2]) ∧ Below w.heap.size w w' := by
  refine enter (args := [_]) Try.func40 Try.ntmps40 rfl rfl (HS.refl w []) ?_
  refine s_seq ?_
  refine s_region ?_
  refine o_h (h_box rfl rfl) rfl (fun b1 _ => ?_)
  refine o_p (p_pure rfl) rfl ?_
  refine o_p (p_pure rfl) rfl ?_
  refine o_nil ?_
  refine s_seq ?_
  refine s_seq ?_
  refine s_draw [] mixed ?_
  refine d_q 0 [] rfl (q_load rfl rfl sz_41 (by repeat (first | exact .here | apply Pick.there)) rfl) (by kernel_rfl) (by kernel_rfl) (by kernel_rfl) rfl ?_
  first | refine d_p 1 rfl (p_len_slice rfl rfl Try.underlying41) (by kernel_rfl) rfl rfl ?_ | refine d_q 1 [] rfl (q_len_own rfl rfl Try.underlying41 (by repeat (first | exact .here | apply Pick.there))) (by kernel_rfl) (by kernel_rfl) (by kernel_rfl) rfl ?_
  refine d_p 2 rfl (p_pure rfl) (by kernel_rfl) rfl rfl ?_
  refine d_q 3 [] rfl (q_call rfl fn_65 rfl (fun w1 h1 => c65 w1 _ _)) (by kernel_rfl) (by kernel_rfl) (by kernel_rfl) rfl ?_
  refine d_q 4 [] rfl (q_load rfl rfl sz_41 (by repeat (first | exact .here | apply Pick.there)) rfl) (by kernel_rfl) (by kernel_rfl) (by kernel_rfl) rfl ?_
  first | refine d_p 5 rfl (p_len_slice rfl rfl Try.underlying41) (by kernel_rfl) rfl rfl ?_ | refine d_q 5 [] rfl (q_len_own rfl rfl Try.underlying41 (by repeat (first | exact .here | apply Pick.there))) (by kernel_rfl) (by kernel_rfl) (by kernel_rfl) rfl ?_
  refine d_p 6 rfl (p_pure rfl) (by kernel_rfl) rfl rfl ?_
  refine d_q 7 [] rfl (q_call rfl fn_65 rfl (fun w1 h1 => c65 w1 _ _)) (by kernel_rfl) (by kernel_rfl) (by kernel_rfl) rfl ?_
  refine d_h 8 rfl (h_buildSlice (cs := [_, _]) rfl rfl sl_140 zr_24 rfl rfl rfl) (by kernel_rfl) (fun w h => h.ent (by repeat (first | exact .nil | refine .cons (by repeat (first | exact .here | apply Pick.there)) ?_))) rfl (fun b2 _ => ?_)
  refine d_base (fun w h => h.ent (by repeat (first | exact .nil | refine .cons (by repeat (first | exact .here | apply Pick.there)) ?_))) ?_
  refine d_q 9 [] rfl (q_call rfl fn_59 rfl (fun w1 h1 => f59 h1 (by repeat (first | exact .here | apply Pick.there)) (by rfl) (by rfl) (by decide))) (by kernel_rfl) (by kernel_rfl) (by kernel_rfl) rfl ?_
  refine d_p 10 rfl (p_pure rfl) (by kernel_rfl) rfl rfl ?_
  refine d_nil (by kernel_rfl) (fun w h => h.ent (by repeat (first | exact .nil | refine .cons (by repeat (first | exact .here | apply Pick.there)) ?_))) ?_
  refine s_seq ?_
  refine s_region ?_
  refine o_p (p_pure rfl) rfl ?_
  refine o_p (p_pure rfl) rfl ?_
  refine o_nil ?_
  refine s_cond rfl (fun h3 => ?_) (fun h3 => ?_)
  · try simp only [decide_eq_true_eq, decide_eq_false_iff_not, Bool.not_eq_true', Bool.not_eq_false', Bool.and_eq_true, Bool.or_eq_true, Bool.and_eq_false_iff, Bool.or_eq_false_iff, Bool.not_true, Bool.not_false] at h3
    refine s_seq ?_
    refine s_region ?_
    refine o_p (p_pure rfl) rfl ?_
    refine o_p (p_pure rfl) rfl ?_
    refine o_p (p_pure rfl) rfl ?_
    refine o_nil ?_
    exact s_retv (rs := [.tmp 2, .tmp 3]) rfl (.tmp rfl (.tmp rfl (.nil))) (fun w' h' => ⟨by simp only [retV, firstV, chkF, cond_eq_ite, decide_eq_true_eq] at *; grind, h'.below⟩)
  · try simp only [decide_eq_true_eq, decide_eq_false_iff_not, Bool.not_eq_true', Bool.not_eq_false', Bool.and_eq_true, Bool.or_eq_true, Bool.and_eq_false_iff, Bool.or_eq_false_iff, Bool.not_true, Bool.not_false] at h3
    refine s_skip ?_
    refine s_seq ?_
    refine s_region ?_
    refine o_q (q_load rfl rfl sz_41 (by repeat (first | exact .here | apply Pick.there)) rfl) rfl ?_
    refine o_p (p_pure rfl) rfl ?_
    refine o_q (q_call rfl fn_90 rfl (fun w1 h1 => c90 w1 a cap fs #[.pointer (some ⟨b1, 0, none⟩)] (fdEs fs) (hs.later h1) hm (fdEs_length fs) (fun k w2 hk h2 => by rw [fdEs_getD hk]; exact c91 w2 k _ _ b1 a cap fs ((h1.rd_blk (by repeat (first | exact .here | apply Pick.there)) rfl (by simp)).later h2 (by simp)) ((hs.later h1).later h2) hk hm))) rfl ?_
    refine o_p (p_pure rfl) rfl ?_
    refine o_p (p_pure rfl) rfl ?_
    refine o_p (p_pure rfl) rfl ?_
    refine o_p (p_pure rfl) rfl ?_
    refine o_nil ?_
    exact s_retv (rs := [.tmp 2, .tmp 3]) rfl (.tmp rfl (.tmp rfl (.nil))) (fun w' h' => ⟨by have hb : fs.length ≠ 0 ∧ fs.length ≤ 8 := (by simp only [firstV, cond_eq_ite, decide_eq_true_eq] at *; grind); simp only [retV, chkF]; rw [if_neg hb.1, if_pos hb.2], h'.below⟩)

set_option maxRecDepth 20000 in
theorem c92 (w : World) (a : Option Addr) (cap : Nat) (fs : Fds) (hs : Fl w a fs) (hm : fs.length ≤ 1000) : Calls Try.prog 92 #[.slice a fs.length cap] w fun en w' => en = .returned (.int .i64 (chkF fs).2) ∧ Below w.heap.size w w' := by
  refine enter (args := [_]) Try.func92 Try.ntmps92 rfl rfl (HS.refl w []) ?_
  refine s_seq ?_
  refine s_region ?_
  refine o_p (p_pure rfl) rfl ?_
  refine o_nil ?_
  refine s_seq ?_
  refine s_region ?_
  refine o_p (p_pure rfl) rfl ?_
  refine o_q (q_call rfl fn_40 rfl (fun w1 h1 => c40 w1 _ _ fs (hs.later h1) hm)) rfl ?_
  refine o_p (p_pure rfl) rfl ?_
  refine o_p (p_pure rfl) rfl ?_
  refine o_p (p_pure rfl) rfl ?_
  refine o_p (p_pure rfl) rfl ?_
  refine o_p (p_pure rfl) rfl ?_
  refine o_nil ?_
  refine s_seq ?_
  refine s_region ?_
  refine o_p (p_pure rfl) rfl ?_
  refine o_p (p_pure rfl) rfl ?_
  refine o_nil ?_
  exact s_retv (rs := [.tmp 2]) rfl (.tmp rfl (.nil)) (fun w' h' => ⟨rfl, h'.below⟩)

set_option maxRecDepth 20000 in
theorem c112 (w : World) (u t : Int) (s : List UInt8) (hu : -100000 ≤ u ∧ u ≤ 100000) (ht : -100000 ≤ t ∧ t ≤ 100000) : Calls Try.prog 112 #[.agg #[.int .i64 u, .string (bs s)], .int .i64 t] w fun en w' => en = .returned (.int .i64 (u - t)) ∧ Below w.heap.size w w' := by
  refine enter (args := [_, _]) Try.func112 Try.ntmps112 rfl rfl (HS.refl w []) ?_
  refine s_seq ?_
  refine s_region ?_
  refine o_h (h_box rfl rfl) rfl (fun b1 _ => ?_)
  refine o_p (p_pure rfl) rfl ?_
  refine o_nil ?_
  refine s_seq ?_
  refine s_region ?_
  refine o_p (p_fieldAddr rfl rfl fd_96_0 sz_3 rfl) rfl ?_
  refine o_q (q_load rfl rfl sz_3 (by repeat (first | exact .here | apply Pick.there)) rfl) rfl ?_
  refine o_p (p_pure rfl) rfl ?_
  refine o_p (p_pure rfl) rfl ?_
  try (refine o_slot (i64w (by omega) (by omega)) ?_)
  refine o_p (p_pure rfl) rfl ?_
  refine o_nil ?_
  exact s_retv (rs := [.tmp 4]) rfl (.tmp rfl (.nil)) (fun w' h' => ⟨rfl, h'.below⟩)

set_option maxRecDepth 20000 in
theorem c111 (w : World) (a : Option Addr) (cap : Nat) (fs : Fds) (u : Int) (hs : Fl w a fs) (ok : FOk fs) (hu : -100000 ≤ u ∧ u ≤ 100000) : Calls Try.prog 111 #[.slice a fs.length cap, .int .i64 u, .func (.func 112) #[] #[]] w fun en w' => en = .returned (atF fs u) ∧ Below w.heap.size w w' := by
  have hm := ok.le
  refine enter (args := [_, _, _]) Try.func111 Try.ntmps111 rfl rfl (HS.refl w []) ?_
  refine s_seq ?_
  refine s_region ?_
  refine o_p (p_pure rfl) rfl ?_
  refine o_p (p_pure rfl) rfl ?_
  refine o_nil ?_
  refine s_seq ?_
  refine s_region ?_
  refine o_p (p_pure rfl) rfl ?_
  first | refine o_p (p_len_slice rfl rfl Try.underlying41) rfl ?_ | refine o_q (q_len_own rfl rfl Try.underlying41 (by repeat (first | exact .here | apply Pick.there))) rfl ?_
  refine o_p (p_pure rfl) rfl ?_
  refine o_nil ?_
  refine s_seq ?_
  refine s_region ?_
  refine o_p (p_pure rfl) rfl ?_
  refine o_p (p_pure rfl) rfl ?_
  refine o_p (p_pure rfl) rfl ?_
  refine o_nil ?_
  refine s_seq ?_
  refine s_block ?_
  refine s_loopI (α := Nat × Nat) [9, 10, 11, 15, 16, 17, 18, 19, 20, 21, 22, 23, 24, 25, 26, 27, 28, 29, 30, 31, 32, 33, 34] (fun x => [(9, .int .i64 (x.1 : Int)), (10, .int .i64 (x.2 : Int))]) (fun _ => _) (fun x => Bs fs u x.1 x.2) (fun x => x.2 - x.1) (0, fs.length) (Bs.init fs u) (by repeat (first | exact sl_n | refine sl_c rfl ?_)) (fun w h => h) (fun ⟨lo, hi⟩ hx => ?_)
  have hx1 := hx.le
  have hx2 := hx.top
  simp only [] at hx hx1 hx2
  refine s_seq ?_
  refine s_seq ?_
  refine s_region ?_
  refine o_p (p_pure rfl) rfl ?_
  refine o_p (p_pure rfl) rfl ?_
  refine o_p (p_pure rfl) rfl ?_
  refine o_nil ?_
  refine s_cond rfl (fun h1 => ?_) (fun h1 => ?_)
  · try simp only [decide_eq_true_eq, decide_eq_false_iff_not, Bool.not_eq_true', Bool.not_eq_false', Bool.and_eq_true, Bool.or_eq_true, Bool.and_eq_false_iff, Bool.or_eq_false_iff, Bool.not_true, Bool.not_false] at h1
    refine s_skip ?_
    refine s_block ?_
    refine s_seq ?_
    refine s_region ?_
    refine o_p (p_pure rfl) rfl ?_
    refine o_p (p_pure rfl) rfl ?_
    refine o_p (p_pure rfl) rfl ?_
    try (refine o_slot (i64w (by omega) (by omega)) ?_)
    refine o_p (p_conv_int rfl rfl ki_3 ki_135) rfl ?_
    rw [show IntKind.u64.wrap ((lo : Int) + (hi : Int)) = ((lo + hi : Nat) : Int) from u64w _ (by omega)]
    refine o_p (p_shr rfl rfl rfl (by decide) 1 rfl) rfl ?_
    refine o_p (p_conv_int rfl rfl ki_135 ki_3) rfl ?_
    try (refine o_slot (i64w (by omega) (by omega)) ?_)
    refine o_slot (show _ = Value.int .i64 (((lo + hi) / 2 : Nat) : Int) from by congr 1) ?_
    refine o_p (p_pure rfl) rfl ?_
    refine o_nil ?_
    refine s_seq ?_
    refine s_region ?_
    refine o_p (p_pure rfl) rfl ?_
    refine o_p (p_pure rfl) rfl ?_
    refine o_p (p_pure rfl) rfl ?_
    first | refine o_p (p_indexAddr rfl rfl rfl sl_41 ((lo + hi) / 2) (by omega) (by omega) rfl) rfl ?_ | refine o_p (p_indexAddr rfl rfl rfl sl_41 ((lo + hi) / 2) (by omega) (by omega) (Sl.some hs (by omega))) rfl ?_
    refine o_q (q_load_oldn _ rfl rfl sz_96 rfl (hs.rd (i := (lo + hi) / 2) (by omega))) rfl ?_
    refine o_p (p_pure rfl) rfl ?_
    refine o_q (q_callv rfl rfl fn_112 rfl (fun w1 h1 => c112 w1 (fd fs ((lo + hi) / 2)).1 u (fd fs ((lo + hi) / 2)).2 (by have := ok.user ((lo + hi) / 2) (by omega); omega) hu)) rfl ?_
    refine o_p (p_pure rfl) rfl ?_
    refine o_nil ?_
    refine s_cond rfl (fun h2 => ?_) (fun h2 => ?_)
    · try simp only [decide_eq_true_eq, decide_eq_false_iff_not, Bool.not_eq_true', Bool.not_eq_false', Bool.and_eq_true, Bool.or_eq_true, Bool.and_eq_false_iff, Bool.or_eq_false_iff, Bool.not_true, Bool.not_false] at h2
      refine s_region ?_
      refine o_p (p_pure rfl) rfl ?_
      refine o_p (p_pure rfl) rfl ?_
      try (refine o_slot (i64w (by omega) (by omega)) ?_)
      refine o_p (p_pure rfl) rfl ?_
      refine o_nil ?_
      refine s_blk ?_
      exact s_backI ((lo + hi) / 2 + 1, hi) (by (try simp only []); omega) (Bs.up ok hx (by omega) h2) (by refine sl_c (congrArg (fun e => some (Value.int .i64 e)) (by omega)) ?_; repeat (first | exact sl_n | refine sl_c rfl ?_)) (fun w h => h)
    · try simp only [decide_eq_true_eq, decide_eq_false_iff_not, Bool.not_eq_true', Bool.not_eq_false', Bool.and_eq_true, Bool.or_eq_true, Bool.and_eq_false_iff, Bool.or_eq_false_iff, Bool.not_true, Bool.not_false] at h2
      refine s_region ?_
      refine o_p (p_pure rfl) rfl ?_
      refine o_p (p_pure rfl) rfl ?_
      refine o_nil ?_
      refine s_blk ?_
      exact s_backI (lo, (lo + hi) / 2) (by (try simp only []); omega) (Bs.down ok hx (by omega) h2) (by repeat (first | exact sl_n | refine sl_c rfl ?_)) (fun w h => h)
  · try simp only [decide_eq_true_eq, decide_eq_false_iff_not, Bool.not_eq_true', Bool.not_eq_false', Bool.and_eq_true, Bool.or_eq_true, Bool.and_eq_false_iff, Bool.or_eq_false_iff, Bool.not_true, Bool.not_false] at h1
    refine s_exit_to rfl ?_
    refine s_seq ?_
    refine s_region ?_
    refine o_p (p_pure rfl) rfl ?_
    obtain ⟨rfl, hl, hl2⟩ := Bs.at hx (by omega)
    refine o_p (p_pure rfl) rfl ?_
    refine o_p (p_pure rfl) rfl ?_
    refine o_p (p_pure rfl) rfl ?_
    refine o_p (p_pure rfl) rfl ?_
    refine o_and 9 39 48 _ _ rfl
      (by
        intro hg3
        have hs4 := hg3; try simp only [decide_eq_true_eq, decide_eq_false_iff_not, Bool.not_eq_true', Bool.not_eq_false', Bool.and_eq_true, Bool.or_eq_true, Bool.and_eq_false_iff, Bool.or_eq_false_iff, Bool.not_true, Bool.not_false] at hs4
        refine o_on 39 _ rfl rfl hg3 ?_
        refine o_p (p_pure rfl) rfl ?_
        refine o_on 39 _ rfl rfl hg3 ?_
        refine o_p (p_pure rfl) rfl ?_
        refine o_on 39 _ rfl rfl hg3 ?_
        refine o_p (p_pure rfl) rfl ?_
        refine o_on 39 _ rfl rfl hg3 ?_
        first | refine o_p (p_indexAddr rfl rfl rfl sl_41 (lo) (by omega) (by omega) rfl) rfl ?_ | refine o_p (p_indexAddr rfl rfl rfl sl_41 (lo) (by omega) (by omega) (Sl.some hs (by omega))) rfl ?_
        refine o_on 39 _ rfl rfl hg3 ?_
        refine o_q (q_load_oldn _ rfl rfl sz_96 rfl (hs.rd (i := lo) (by omega))) rfl ?_
        refine o_on 39 _ rfl rfl hg3 ?_
        refine o_p (p_pure rfl) rfl ?_
        refine o_on 39 _ rfl rfl hg3 ?_
        refine o_q (q_callv rfl rfl fn_112 rfl (fun w1 h1 => c112 w1 (fd fs (lo)).1 u (fd fs (lo)).2 (by have := ok.user (lo) (by omega); omega) hu)) rfl ?_
        refine o_on 39 _ rfl rfl hg3 ?_
        refine o_p (p_pure rfl) rfl ?_
        refine o_p (p_pickt rfl rfl hg3 rfl) rfl ?_
        refine o_nil ?_
        exact s_join () (by repeat (first | exact sl_n | refine sl_c rfl ?_)) (fun w h => by first | exact h | exact h.ent (by repeat (first | exact .nil | refine .cons (by repeat (first | exact .here | apply Pick.there)) ?_))))
      (by
        intro hg5
        have hs6 := hg5; try simp only [decide_eq_true_eq, decide_eq_false_iff_not, Bool.not_eq_true', Bool.not_eq_false', Bool.and_eq_true, Bool.or_eq_true, Bool.and_eq_false_iff, Bool.or_eq_false_iff, Bool.not_true, Bool.not_false] at hs6
        refine o_off 39 _ rfl rfl hg5 rfl ?_
        refine o_off 39 _ rfl rfl hg5 rfl ?_
        refine o_off 39 _ rfl rfl hg5 rfl ?_
        refine o_off 39 _ rfl rfl hg5 rfl ?_
        refine o_off 39 _ rfl rfl hg5 rfl ?_
        refine o_off 39 _ rfl rfl hg5 rfl ?_
        refine o_off 39 _ rfl rfl hg5 rfl ?_
        refine o_off 39 _ rfl rfl hg5 rfl ?_
        refine o_p (p_pickf rfl rfl hg5 rfl) rfl ?_
        refine o_nil ?_
        exact s_join () (by repeat (first | exact sl_n | refine sl_c rfl ?_)) (fun w h => by first | exact h | exact h.ent (by repeat (first | exact .nil | refine .cons (by repeat (first | exact .here | apply Pick.there)) ?_)))) ?_
    refine o_p (p_pure rfl) rfl ?_
    refine o_p (p_pure rfl) rfl ?_
    refine o_nil ?_
    exact s_retv (rs := [.tmp 6, .tmp 7]) rfl (.tmp rfl (.tmp rfl (.nil))) (fun w' h' => ⟨by simp only [retV, atF, hasF, hl]; have e1 : ((lo : Int) < (fs.length : Int)) ↔ lo < fs.length := Int.ofNat_lt; have e2 : (fd fs lo).1 - u = 0 ↔ (fd fs lo).1 = u := (by omega); simp only [e1, e2], h'.below⟩)

set_option maxRecDepth 20000 in
theorem c85 (w : World) (a : Option Addr) (cap : Nat) (fs : Fds) (u : Int) (hs : Fl w a fs) (ok : FOk fs) (hu : -100000 ≤ u ∧ u ≤ 100000) : Calls Try.prog 85 #[.slice a fs.length cap, .int .i64 u] w fun en w' => en = .returned (atF fs u) ∧ Below w.heap.size w w' := by
  refine enter (args := [_, _]) Try.func85 Try.ntmps85 rfl rfl (HS.refl w []) ?_
  refine s_seq ?_
  refine s_region ?_
  refine o_p (p_pure rfl) rfl ?_
  refine o_p (p_pure rfl) rfl ?_
  refine o_nil ?_
  refine s_seq ?_
  refine s_region ?_
  refine o_p (p_pure rfl) rfl ?_
  refine o_p (p_pure rfl) rfl ?_
  refine o_q (q_call rfl fn_111 rfl (fun w1 h1 => c111 w1 a cap fs u (hs.later h1) ok hu)) rfl ?_
  refine o_p (p_pure rfl) rfl ?_
  refine o_p (p_pure rfl) rfl ?_
  refine o_p (p_pure rfl) rfl ?_
  refine o_p (p_pure rfl) rfl ?_
  refine o_nil ?_
  exact s_retv (rs := [.tmp 4, .tmp 5]) rfl (.tmp rfl (.tmp rfl (.nil))) (fun w' h' => ⟨rfl, h'.below⟩)

/-- The key of a user. -/
def keyForT (fs : Fds) (u : Int) (own : List UInt8) : List UInt8 × Int := if hasF fs u = true then unwrapT u own (fd fs (lbF fs u)).2 else ([], 27)
theorem hasF_lt {fs : Fds} {u : Int} (h : hasF fs u = true) : lbF fs u < fs.length := by
  simp only [hasF, Bool.and_eq_true, decide_eq_true_eq] at h; exact h.1
def fileE (fs : Fds) (nc : Int) (len : Nat) : Int := if (chkF fs).2 = 0 then if 0 ≤ nc ∧ nc ≤ 65535 then if len ≤ 8192 then 0 else 8 else 2 else (chkF fs).2

set_option maxRecDepth 20000 in
theorem c69 (w : World) (a : Option Addr) (cap : Nat) (fs : Fds) (u : Int) (own : List UInt8) (hs : Fl w a fs) (ok : FOk fs) (ho : holdE u own = 0) : Calls Try.prog 69 #[.slice a fs.length cap, .agg #[.int .i64 u, .string (bs own)]] w fun en w' => en = .returned (pairV (keyForT fs u own)) ∧ Below w.heap.size w w' := by
  have hu := isWd_user ho
  have hm := ok.le
  refine enter (args := [_, _]) Try.func69 Try.ntmps69 rfl rfl (HS.refl w []) ?_
  refine s_seq ?_
  refine s_region ?_
  refine o_h (h_box rfl rfl) rfl (fun b1 _ => ?_)
  refine o_p (p_pure rfl) rfl ?_
  refine o_p (p_pure rfl) rfl ?_
  refine o_nil ?_
  refine s_seq ?_
  refine s_region ?_
  refine o_p (p_pure rfl) rfl ?_
  refine o_p (p_fieldAddr rfl rfl fd_31_0 sz_3 rfl) rfl ?_
  first | refine o_q (q_load rfl rfl sz_3 (by repeat (first | exact .here | apply Pick.there)) rfl) rfl ?_ | refine o_q (q_load_old rfl rfl sz_3 (hs.rd1 (i := lbF fs u) (by omega))) rfl ?_
  refine o_q (q_call rfl fn_85 rfl (fun w1 h1 => c85 w1 _ _ fs _ (hs.later h1) ok (by omega))) rfl ?_
  refine o_p (p_pure rfl) rfl ?_
  refine o_p (p_pure rfl) rfl ?_
  refine o_p (p_pure rfl) rfl ?_
  refine o_p (p_pure rfl) rfl ?_
  refine o_p (p_pure rfl) rfl ?_
  refine o_nil ?_
  refine s_seq ?_
  refine s_seq ?_
  refine s_region ?_
  refine o_p (p_pure rfl) rfl ?_
  refine o_p (p_pure rfl) rfl ?_
  refine o_nil ?_
  refine s_cond rfl (fun h2 => ?_) (fun h2 => ?_)
  · try simp only [decide_eq_true_eq, decide_eq_false_iff_not, Bool.not_eq_true', Bool.not_eq_false', Bool.and_eq_true, Bool.or_eq_true, Bool.and_eq_false_iff, Bool.or_eq_false_iff, Bool.not_true, Bool.not_false] at h2
    refine s_seq ?_
    refine s_region ?_
    refine o_p (p_pure rfl) rfl ?_
    refine o_p (p_pure rfl) rfl ?_
    refine o_nil ?_
    exact s_retv (rs := [.tmp 4, .tmp 5]) rfl (.tmp rfl (.tmp rfl (.nil))) (fun w' h' => ⟨by simp only [keyForT]; rw [if_neg (by simpa using h2)]; rfl, h'.below⟩)
  · try simp only [decide_eq_true_eq, decide_eq_false_iff_not, Bool.not_eq_true', Bool.not_eq_false', Bool.and_eq_true, Bool.or_eq_true, Bool.and_eq_false_iff, Bool.or_eq_false_iff, Bool.not_true, Bool.not_false] at h2
    have hh : hasF fs u = true := by assumption
    have hl := hasF_lt hh
    refine s_skip ?_
    refine s_seq ?_
    refine s_draw [] mixed ?_
    first | refine d_q 0 [] rfl (q_loadn rfl rfl sz_31 (by repeat (first | exact .here | apply Pick.there)) rfl) (by kernel_rfl) (by kernel_rfl) (by kernel_rfl) rfl ?_ | refine d_q 0 [] rfl (q_load_oldn _ rfl rfl sz_31 hs.rd1 (i := lbF fs u) (by omega)) (by kernel_rfl) (by kernel_rfl) (by kernel_rfl) rfl ?_
    refine d_p 1 rfl (p_pure rfl) (by kernel_rfl) rfl rfl ?_
    refine d_p 2 rfl (p_pure rfl) (by kernel_rfl) rfl rfl ?_
    first | refine d_p 3 rfl (p_indexAddr rfl rfl rfl sl_41 (lbF fs u) (by omega) (by omega) rfl) (by kernel_rfl) rfl rfl ?_ | refine d_p 3 rfl (p_indexAddr rfl rfl rfl sl_41 (lbF fs u) (by omega) (by omega) (Sl.some hs (by omega))) (by kernel_rfl) rfl rfl ?_
    refine d_p 4 rfl (p_fieldAddr rfl rfl fd_96_1 sz_9 rfl) (by kernel_rfl) rfl rfl ?_
    first | refine d_q 5 [] rfl (q_load rfl rfl sz_9 (by repeat (first | exact .here | apply Pick.there)) rfl) (by kernel_rfl) (by kernel_rfl) (by kernel_rfl) rfl ?_ | refine d_q 5 [] rfl (q_load_old rfl rfl sz_9 (hs.rd1 (i := lbF fs u) (by omega))) (by kernel_rfl) (by kernel_rfl) (by kernel_rfl) rfl ?_
    refine d_q 6 [] rfl (q_call rfl fn_66 rfl (fun w1 h1 => c66 w1 u own _ hu.1 hu.2.1 (ok.len _ hl))) (by kernel_rfl) (by kernel_rfl) (by kernel_rfl) rfl ?_
    refine d_p 7 rfl (p_pure rfl) (by kernel_rfl) rfl rfl ?_
    refine d_p 8 rfl (p_pure rfl) (by kernel_rfl) rfl rfl ?_
    refine d_p 9 rfl (p_pure rfl) (by kernel_rfl) rfl rfl ?_
    refine d_p 10 rfl (p_pure rfl) (by kernel_rfl) rfl rfl ?_
    refine d_nil (by kernel_rfl) (fun w h => h.ent (by repeat (first | exact .nil | refine .cons (by repeat (first | exact .here | apply Pick.there)) ?_))) ?_
    exact s_retv (rs := [.tmp 4, .tmp 5]) rfl (.tmp rfl (.tmp rfl (.nil))) (fun w' h' => ⟨by simp only [keyForT]; rw [if_pos hh]; rfl, h'.below⟩)

set_option maxRecDepth 20000 in
theorem c67 (w : World) (a : Option Addr) (cap : Nat) (fs : Fds) (nc : Int) (st : List UInt8) (hs : Fl w a fs) (hm : fs.length ≤ 1000) : Calls Try.prog 67 #[.agg #[.slice a fs.length cap, .int .i64 nc, .string (bs st)]] w fun en w' => en = .returned (.int .i64 (fileE fs nc st.length)) ∧ Below w.heap.size w w' := by
  refine enter (args := [_]) Try.func67 Try.ntmps67 rfl rfl (HS.refl w []) ?_
  refine s_seq ?_
  refine s_region ?_
  refine o_h (h_box rfl rfl) rfl (fun b1 _ => ?_)
  refine o_p (p_pure rfl) rfl ?_
  refine o_nil ?_
  refine s_seq ?_
  refine s_draw [] mixed ?_
  refine d_p 0 rfl (p_fieldAddr rfl rfl fd_43_0 sz_41 rfl) (by kernel_rfl) rfl rfl ?_
  refine d_q 1 [] rfl (q_load rfl rfl sz_41 (by repeat (first | exact .here | apply Pick.there)) rfl) (by kernel_rfl) (by kernel_rfl) (by kernel_rfl) rfl ?_
  refine d_q 2 [] rfl (q_call rfl fn_92 rfl (fun w1 h1 => c92 w1 _ _ fs (hs.later h1) hm)) (by kernel_rfl) (by kernel_rfl) (by kernel_rfl) rfl ?_
  refine d_p 3 rfl (p_fieldAddr rfl rfl fd_43_1 sz_3 rfl) (by kernel_rfl) rfl rfl ?_
  refine d_q 4 [] rfl (q_load rfl rfl sz_3 (by repeat (first | exact .here | apply Pick.there)) rfl) (by kernel_rfl) (by kernel_rfl) (by kernel_rfl) rfl ?_
  refine d_q 5 [] rfl (q_call rfl fn_55 rfl (fun w1 h1 => c55 w1 _)) (by kernel_rfl) (by kernel_rfl) (by kernel_rfl) rfl ?_
  refine d_q 6 [] rfl (q_call rfl fn_65 rfl (fun w1 h1 => c65 w1 _ _)) (by kernel_rfl) (by kernel_rfl) (by kernel_rfl) rfl ?_
  refine d_p 7 rfl (p_fieldAddr rfl rfl fd_43_2 sz_9 rfl) (by kernel_rfl) rfl rfl ?_
  refine d_q 8 [] rfl (q_load rfl rfl sz_9 (by repeat (first | exact .here | apply Pick.there)) rfl) (by kernel_rfl) (by kernel_rfl) (by kernel_rfl) rfl ?_
  refine d_p 9 rfl (p_len_str rfl rfl Try.underlying9) (by kernel_rfl) rfl rfl ?_
  refine d_p 10 rfl (p_pure rfl) (by kernel_rfl) rfl rfl ?_
  refine d_q 11 [] rfl (q_call rfl fn_65 rfl (fun w1 h1 => c65 w1 _ _)) (by kernel_rfl) (by kernel_rfl) (by kernel_rfl) rfl ?_
  refine d_h 12 rfl (h_buildSlice (cs := [_, _, _]) rfl rfl sl_140 zr_24 rfl rfl rfl) (by kernel_rfl) (fun w h => h.ent (by repeat (first | exact .nil | refine .cons (by repeat (first | exact .here | apply Pick.there)) ?_))) rfl (fun b2 _ => ?_)
  refine d_base (fun w h => h.ent (by repeat (first | exact .nil | refine .cons (by repeat (first | exact .here | apply Pick.there)) ?_))) ?_
  refine d_q 13 [] rfl (q_call rfl fn_59 rfl (fun w1 h1 => f59 h1 (by repeat (first | exact .here | apply Pick.there)) (by rfl) (by rfl) (by decide))) (by kernel_rfl) (by kernel_rfl) (by kernel_rfl) rfl ?_
  refine d_p 14 rfl (p_pure rfl) (by kernel_rfl) rfl rfl ?_
  refine d_nil (by kernel_rfl) (fun w h => h.ent (by repeat (first | exact .nil | refine .cons (by repeat (first | exact .here | apply Pick.there)) ?_))) ?_
  exact s_retv (rs := [.tmp 2]) rfl (.tmp rfl (.nil)) (fun w' h' => ⟨by simp only [retV, firstV, fileE, cond_eq_ite, decide_eq_true_eq, Bool.and_eq_true]; grind, h'.below⟩)

end Go.Proofs
