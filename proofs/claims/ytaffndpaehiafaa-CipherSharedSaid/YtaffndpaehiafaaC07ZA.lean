/- Contracts of the program's functions, proved by walking them with the rules of the Gx texts; without conditions beyond those that each contract names. -/
import Derived.Test.YtaffndpaehiafaaC07Z
namespace Go.Proofs
open Go Go.RowKit Gx
set_option linter.unusedVariables false
set_option linter.unusedSimpArgs false
attribute [local irreducible] Go.Calls Gx.S Gx.O Gx.D Gx.OpP Gx.OpQ Gx.OpH

theorem fn_79 : isFn Try.prog 79 = true := by kernel_rfl
theorem fn_86 : isFn Try.prog 86 = true := by kernel_rfl


def oldK (fs hd : Fds) (k : Nat) : List UInt8 := if k = 0 then [] else (uw fs hd (k - 1)).1
theorem uw_err {fs hd : Fds} {k : Nat} (h : ¬ firstV [.int .i64 (uw fs hd k).2, .int .i64 (bif decide ((k : Int) = 0) || decide ((uw fs hd k).1 = oldK fs hd k) then 0 else 19)] = 0) : ¬ uwOk fs hd k ∧ firstV [.int .i64 (uw fs hd k).2, .int .i64 (bif decide ((k : Int) = 0) || decide ((uw fs hd k).1 = oldK fs hd k) then 0 else 19)] = 19 := by
  have h1 : (uw fs hd k).2 = 0 ∨ (uw fs hd k).2 = 19 := by
    unfold uw unwrapT
    simp only []
    split <;> simp
  simp only [firstV, cond_eq_ite, Bool.or_eq_true, decide_eq_true_eq] at *
  unfold uwOk
  unfold oldK at *
  grind
theorem uw_fine {fs hd : Fds} {k : Nat} (h : firstV [.int .i64 (uw fs hd k).2, .int .i64 (bif decide ((k : Int) = 0) || decide ((uw fs hd k).1 = oldK fs hd k) then 0 else 19)] = 0) : uwOk fs hd k := by
  simp only [firstV, cond_eq_ite, Bool.or_eq_true, decide_eq_true_eq] at *
  unfold uwOk
  unfold oldK at *
  grind
theorem rkT_err {fs : Fds} {nc : Int} {st : List UInt8} {hd : Fds} {key : List UInt8} (h : ¬ rkE fs nc st.length hd key = 0) : rkT fs nc st hd key = (([], 0, []), rkE fs nc st.length hd key) := by unfold rkT; rw [if_neg h]
theorem rkT_19 {fs : Fds} {nc : Int} {st : List UInt8} {hd : Fds} {key : List UInt8} {k : Nat} (h : rkE fs nc st.length hd key = 0) (hk : k < hd.length) (hn : ¬ uwOk fs hd k) : rkT fs nc st hd key = (([], 0, []), 19) := by unfold rkT; rw [if_pos h, if_neg (fun hh => hn (hh k hk))]
theorem rkT_ok {fs : Fds} {nc : Int} {st : List UInt8} {hd : Fds} {key : List UInt8} (h : rkE fs nc st.length hd key = 0) (hn : ∀ k, k < hd.length → uwOk fs hd k) : rkT fs nc st hd key = ((rkF hd key hd.length, nc, cryptL key (wd nc) 0 (cryptL (uw fs hd (hd.length - 1)).1 (wd nc) 0 st)), 0) := by unfold rkT; rw [if_pos h, if_pos hn]
theorem uw_len {fs hd : Fds} {k : Nat} (hl : (fd fs k).2.length = 10) (h : (uw fs hd k).2 = 0) : (uw fs hd k).1.length = 8 := unwrapT_len hl h

set_option maxRecDepth 20000 in
theorem c38 (w : World) (a a2 : Option Addr) (cap cap2 : Nat) (fs : Fds) (nc : Int) (st : List UInt8) (hd : Fds) (key : List UInt8) (hs : Fl w a fs) (ht : Fl w a2 hd) (hm : fs.length ≤ 1000) (hm2 : hd.length ≤ 1000) : Calls Try.prog 38 #[.agg #[.slice a fs.length cap, .int .i64 nc, .string (bs st)], .slice a2 hd.length cap2, .string (bs key)] w fun en w' => ∃ g : Option Addr × Nat, en = .returned (.tuple #[.agg #[.slice g.1 (rkT fs nc st hd key).1.1.length g.2, .int .i64 (rkT fs nc st hd key).1.2.1, .string (bs (rkT fs nc st hd key).1.2.2)], .int .i64 (rkT fs nc st hd key).2]) ∧ True ∧ HS w [] [.own (.slice g.1 (rkT fs nc st hd key).1.1.length g.2) 96 2 (rkT fs nc st hd key).1.1.length (flatF (rkT fs nc st hd key).1.1)] w' := by
  refine enter (args := [_, _, _]) Try.func38 Try.ntmps38 rfl rfl (HS.refl w []) ?_
  refine s_seq ?_
  refine s_region ?_
  refine o_h (h_box rfl rfl) rfl (fun b1 _ => ?_)
  refine o_h (h_box rfl rfl) rfl (fun b2 _ => ?_)
  refine o_h (h_alloc rfl zr_43) rfl (fun b3 _ => ?_)
  refine o_p (p_pure rfl) rfl ?_
  refine o_nil ?_
  refine s_seq ?_
  refine s_draw [] mixed ?_
  first | refine d_q 0 [] rfl (q_loadn rfl rfl sz_43 (by repeat (first | exact .here | apply Pick.there)) rfl) (by kernel_rfl) (by kernel_rfl) (by kernel_rfl) rfl ?_ | refine d_q 0 [] rfl (q_load_oldn _ rfl rfl sz_43 hs.rd1 (i := k) (by omega)) (by kernel_rfl) (by kernel_rfl) (by kernel_rfl) rfl ?_ | refine d_q 0 [] rfl (q_load_oldn _ rfl rfl sz_43 rfl (ht.rd (i := k) (by omega))) (by kernel_rfl) (by kernel_rfl) (by kernel_rfl) rfl ?_
  refine d_q 1 [] rfl (q_call rfl fn_67 rfl (fun w1 h1 => c67 w1 _ _ fs _ _ (hs.later h1) hm)) (by kernel_rfl) (by kernel_rfl) (by kernel_rfl) rfl ?_
  first | refine d_q 2 [] rfl (q_load rfl rfl sz_69 (by repeat (first | exact .here | apply Pick.there)) rfl) (by kernel_rfl) (by kernel_rfl) (by kernel_rfl) rfl ?_ | refine d_q 2 [] rfl (q_load_old rfl rfl sz_69 (hs.rd1 (i := k) (by omega))) (by kernel_rfl) (by kernel_rfl) (by kernel_rfl) rfl ?_ | refine d_q 2 [] rfl (q_load_old rfl rfl sz_69 (rfl (ht.rd (i := k) (by omega)))) (by kernel_rfl) (by kernel_rfl) (by kernel_rfl) rfl ?_
  first | refine d_p 3 rfl (p_len_slice rfl rfl Try.underlying69) (by kernel_rfl) rfl rfl ?_ | refine d_q 3 [] rfl (q_len_own rfl rfl Try.underlying69 (by repeat (first | exact .here | apply Pick.there))) (by kernel_rfl) (by kernel_rfl) (by kernel_rfl) rfl ?_
  refine d_p 4 rfl (p_pure rfl) (by kernel_rfl) rfl rfl ?_
  refine d_q 5 [] rfl (q_call rfl fn_65 rfl (fun w1 h1 => c65 w1 _ _)) (by kernel_rfl) (by kernel_rfl) (by kernel_rfl) rfl ?_
  refine d_h 6 rfl (h_buildSlice (cs := [_, _]) rfl rfl sl_140 zr_24 rfl rfl rfl) (by kernel_rfl) (fun w h => h.ent (by repeat (first | exact .nil | refine .cons (by repeat (first | exact .here | apply Pick.there)) ?_))) rfl (fun b4 _ => ?_)
  refine d_base (fun w h => h.ent (by repeat (first | exact .nil | refine .cons (by repeat (first | exact .here | apply Pick.there)) ?_))) ?_
  refine d_q 7 [] rfl (q_call rfl fn_59 rfl (fun w1 h1 => f59 h1 (by repeat (first | exact .here | apply Pick.there)) (by rfl) (by rfl) (by decide))) (by kernel_rfl) (by kernel_rfl) (by kernel_rfl) rfl ?_
  refine d_p 8 rfl (p_pure rfl) (by kernel_rfl) rfl rfl ?_
  refine d_nil (by kernel_rfl) (fun w h => h.ent (by repeat (first | exact .nil | refine .cons (by repeat (first | exact .here | apply Pick.there)) ?_))) ?_
  refine s_seq ?_
  refine s_seq ?_
  refine s_region ?_
  refine o_p (p_pure rfl) rfl ?_
  refine o_p (p_pure rfl) rfl ?_
  refine o_nil ?_
  refine s_cutI (α := Unit) [8, 27, 28, 29, 30, 31, 32] (fun _ => [(8, .int .i64 (rkE0 fs nc st.length hd))]) (fun _ => HS w [] [.blk b3 43 3 [.slice none 0 0, .int .i64 0, .string (bs [])], .blk b2 69 1 [.slice a2 hd.length cap2], .blk b1 43 3 [.slice a fs.length cap, .int .i64 nc, .string (bs st)]]) (fun _ => True) ?_ ?_
  · skip
    refine s_cond rfl (fun h5 => ?_) (fun h5 => ?_)
    · try simp only [decide_eq_true_eq, decide_eq_false_iff_not, Bool.not_eq_true', Bool.not_eq_false', Bool.and_eq_true, Bool.or_eq_true, Bool.and_eq_false_iff, Bool.or_eq_false_iff, Bool.not_true, Bool.not_false] at h5
      refine s_region ?_
      first | refine o_q (q_load rfl rfl sz_69 (by repeat (first | exact .here | apply Pick.there)) rfl) rfl ?_ | refine o_q (q_load_old rfl rfl sz_69 (hs.rd1 (i := k) (by omega))) rfl ?_ | refine o_q (q_load_old rfl rfl sz_69 (rfl (ht.rd (i := k) (by omega)))) rfl ?_
      refine o_p (p_pure rfl) rfl ?_
      refine o_q (q_call rfl fn_79 rfl (fun w1 h1 => c79 w1 a2 cap2 hd #[.pointer (some ⟨b2, 0, none⟩)] (hdEs hd) (ht.later h1) hm2 (hdEs_length hd) (fun k w2 hk h2 => by rw [hdEs_getD hk]; exact c80 w2 k _ _ b2 a2 cap2 hd ((h1.rd_blk (by repeat (first | exact .here | apply Pick.there)) rfl (by simp)).later h2 (by simp)) ((ht.later h1).later h2) hk hm2))) rfl ?_
      refine o_p (p_pure rfl) rfl ?_
      refine o_p (p_pure rfl) rfl ?_
      refine o_p (p_pure rfl) rfl ?_
      refine o_p (p_pure rfl) rfl ?_
      refine o_nil ?_
      exact s_joinI () trivial (sl_c (congrArg (fun e => some (Value.int .i64 e)) (rkE0_1 h5)) (by repeat (first | exact sl_n | refine sl_c rfl ?_))) (fun w h => h.ent (by repeat (first | exact .nil | refine .cons (by repeat (first | exact .here | apply Pick.there)) ?_)))
    · try simp only [decide_eq_true_eq, decide_eq_false_iff_not, Bool.not_eq_true', Bool.not_eq_false', Bool.and_eq_true, Bool.or_eq_true, Bool.and_eq_false_iff, Bool.or_eq_false_iff, Bool.not_true, Bool.not_false] at h5
      refine s_skip ?_
      exact s_joinI () trivial (sl_c (congrArg (fun e => some (Value.int .i64 e)) (rkE0_2 h5)) (by repeat (first | exact sl_n | refine sl_c rfl ?_))) (fun w h => h.ent (by repeat (first | exact .nil | refine .cons (by repeat (first | exact .here | apply Pick.there)) ?_)))
  · intro _ _
    refine s_seq ?_
    refine s_region ?_
    refine o_p (p_pure rfl) rfl ?_
    refine o_p (p_pure rfl) rfl ?_
    refine o_nil ?_
    refine s_seq ?_
    refine s_region ?_
    refine o_p (p_pure rfl) rfl ?_
    refine o_p (p_pure rfl) rfl ?_
    refine o_nil ?_
    refine s_seq ?_
    refine s_draw [] mixed ?_
    refine d_p 0 rfl (p_pure rfl) (by kernel_rfl) rfl rfl ?_
    refine d_p 1 rfl (p_pure rfl) (by kernel_rfl) rfl rfl ?_
    refine d_q 2 [] rfl (q_call rfl fn_61 rfl (fun w1 h1 => c61 w1 _)) (by kernel_rfl) (by kernel_rfl) (by kernel_rfl) rfl ?_
    refine d_p 3 rfl (p_fieldAddr rfl rfl fd_43_0 sz_41 rfl) (by kernel_rfl) rfl rfl ?_
    first | refine d_q 4 [] rfl (q_load rfl rfl sz_41 (by repeat (first | exact .here | apply Pick.there)) rfl) (by kernel_rfl) (by kernel_rfl) (by kernel_rfl) rfl ?_ | refine d_q 4 [] rfl (q_load_old rfl rfl sz_41 (hs.rd1 (i := k) (by omega))) (by kernel_rfl) (by kernel_rfl) (by kernel_rfl) rfl ?_ | refine d_q 4 [] rfl (q_load_old rfl rfl sz_41 (rfl (ht.rd (i := k) (by omega)))) (by kernel_rfl) (by kernel_rfl) (by kernel_rfl) rfl ?_
    refine d_p 5 rfl (p_pure rfl) (by kernel_rfl) rfl rfl ?_
    refine d_q 6 [] rfl (q_call rfl fn_86 rfl (fun w1 h1 => c86 w1 a cap fs 81 #[.pointer (some ⟨b2, 0, none⟩)] (fs.map fun p => !hasU hd p.1) (hs.later h1) hm (by kernel_rfl) (by simp) (fun k w2 hk h2 => by rw [mapB_getD hk]; exact c81 w2 _ _ b2 a2 cap2 hd ((h1.rd_blk (by repeat (first | exact .here | apply Pick.there)) rfl (by simp)).later h2 (by simp)) ((ht.later h1).later h2) hm2))) (by kernel_rfl) (by kernel_rfl) (by kernel_rfl) rfl ?_
    refine d_p 7 rfl (p_pure rfl) (by kernel_rfl) rfl rfl ?_
    refine d_q 8 [] rfl (q_call rfl fn_65 rfl (fun w1 h1 => c65 w1 _ _)) (by kernel_rfl) (by kernel_rfl) (by kernel_rfl) rfl ?_
    first | refine d_q 9 [] rfl (q_load rfl rfl sz_69 (by repeat (first | exact .here | apply Pick.there)) rfl) (by kernel_rfl) (by kernel_rfl) (by kernel_rfl) rfl ?_ | refine d_q 9 [] rfl (q_load_old rfl rfl sz_69 (hs.rd1 (i := k) (by omega))) (by kernel_rfl) (by kernel_rfl) (by kernel_rfl) rfl ?_ | refine d_q 9 [] rfl (q_load_old rfl rfl sz_69 (rfl (ht.rd (i := k) (by omega)))) (by kernel_rfl) (by kernel_rfl) (by kernel_rfl) rfl ?_
    refine d_p 10 rfl (p_pure rfl) (by kernel_rfl) rfl rfl ?_
    refine d_q 11 [] rfl (q_call rfl fn_82 rfl (fun w1 h1 => c82 w1 a2 cap2 hd 84 #[.pointer (some ⟨b1, 0, none⟩)] (hd.map fun p => !bsB fs p.1) (ht.later h1) hm2 (by kernel_rfl) (by simp) (fun k w2 hk h2 => by rw [mapB_getD hk]; exact c84 w2 _ _ b1 a cap fs ((h1.rd_blk (by repeat (first | exact .here | apply Pick.there)) rfl (by simp)).later h2 (by simp)) ((hs.later h1).later h2) hm))) (by kernel_rfl) (by kernel_rfl) (by kernel_rfl) rfl ?_
    refine d_p 12 rfl (p_pure rfl) (by kernel_rfl) rfl rfl ?_
    refine d_q 13 [] rfl (q_call rfl fn_65 rfl (fun w1 h1 => c65 w1 _ _)) (by kernel_rfl) (by kernel_rfl) (by kernel_rfl) rfl ?_
    refine d_h 14 rfl (h_buildSlice (cs := [_, _, _, _]) rfl rfl sl_140 zr_24 rfl rfl rfl) (by kernel_rfl) (fun w h => h.ent (by repeat (first | exact .nil | refine .cons (by repeat (first | exact .here | apply Pick.there)) ?_))) rfl (fun b6 _ => ?_)
    refine d_base (fun w h => h.ent (by repeat (first | exact .nil | refine .cons (by repeat (first | exact .here | apply Pick.there)) ?_))) ?_
    refine d_q 15 [] rfl (q_call rfl fn_59 rfl (fun w1 h1 => f59 h1 (by repeat (first | exact .here | apply Pick.there)) (by rfl) (by rfl) (by decide))) (by kernel_rfl) (by kernel_rfl) (by kernel_rfl) rfl ?_
    rw [rkE_eq]
    refine d_p 16 rfl (p_pure rfl) (by kernel_rfl) rfl rfl ?_
    refine d_nil (by kernel_rfl) (fun w h => h.ent (by repeat (first | exact .nil | refine .cons (by repeat (first | exact .here | apply Pick.there)) ?_))) ?_
    refine s_seq ?_
    refine s_seq ?_
    refine s_region ?_
    refine o_p (p_pure rfl) rfl ?_
    refine o_p (p_pure rfl) rfl ?_
    refine o_nil ?_
    refine s_cond rfl (fun h7 => ?_) (fun h7 => ?_)
    · try simp only [decide_eq_true_eq, decide_eq_false_iff_not, Bool.not_eq_true', Bool.not_eq_false', Bool.and_eq_true, Bool.or_eq_true, Bool.and_eq_false_iff, Bool.or_eq_false_iff, Bool.not_true, Bool.not_false] at h7
      refine s_seq ?_
      refine s_region ?_
      refine o_p (p_build (cs := [_, _, _]) rfl rfl pl_43 zr_43 rfl) rfl ?_
      refine o_p (p_pure rfl) rfl ?_
      refine o_h0 (h_store rfl rfl rfl sz_43 rfl (by repeat (first | exact .here | apply Put.there)) (by simp only [setMany_length, List.length_set, List.length_cons, List.length_nil, List.length_map]; omega) rfl) (fun _ _ => ?_)
      refine o_p (p_pure rfl) rfl ?_
      refine o_nil ?_
      exact s_retv (rs := [.cell 6 43, .tmp 7]) rfl (.cell rfl sz_43 (by repeat (first | exact .here | apply Pick.there)) rfl (.tmp rfl (.nil))) (fun w' h' => ⟨(none, 0), by rw [rkT_err h7]; rfl, trivial, by rw [rkT_err h7]; exact (h'.own_nil 96 2).ent (by repeat (first | exact .nil | refine .cons (by repeat (first | exact .here | apply Pick.there)) ?_))⟩)
    · try simp only [decide_eq_true_eq, decide_eq_false_iff_not, Bool.not_eq_true', Bool.not_eq_false', Bool.and_eq_true, Bool.or_eq_true, Bool.and_eq_false_iff, Bool.or_eq_false_iff, Bool.not_true, Bool.not_false] at h7
      have hr : rkE fs nc st.length hd key = 0 := h7
      obtain ⟨ok, hw, hle, hkl, hlen, hall⟩ := users_same_of hr
      refine s_skip ?_
      refine s_seq ?_
      refine s_region ?_
      refine o_p (p_pure rfl) rfl ?_
      refine o_nil ?_
      refine s_seq ?_
      refine s_region ?_
      refine o_p (p_fieldAddr rfl rfl fd_43_1 sz_3 rfl) rfl ?_
      first | refine o_q (q_load rfl rfl sz_3 (by repeat (first | exact .here | apply Pick.there)) rfl) rfl ?_ | refine o_q (q_load_old rfl rfl sz_3 (hs.rd1 (i := k) (by omega))) rfl ?_ | refine o_q (q_load_old rfl rfl sz_3 (rfl (ht.rd (i := k) (by omega)))) rfl ?_
      refine o_p (p_build (cs := [_, _, _]) rfl rfl pl_43 zr_43 rfl) rfl ?_
      refine o_h (h_alloc rfl zr_43) rfl (fun b8 _ => ?_)
      refine o_h0 (h_store rfl rfl rfl sz_43 rfl (by repeat (first | exact .here | apply Put.there)) (by simp only [setMany_length, List.length_set, List.length_cons, List.length_nil, List.length_map]; omega) rfl) (fun _ _ => ?_)
      refine o_nil ?_
      refine s_seq ?_
      refine s_seq ?_
      refine s_region ?_
      first | refine o_q (q_load rfl rfl sz_69 (by repeat (first | exact .here | apply Pick.there)) rfl) rfl ?_ | refine o_q (q_load_old rfl rfl sz_69 (hs.rd1 (i := k) (by omega))) rfl ?_ | refine o_q (q_load_old rfl rfl sz_69 (rfl (ht.rd (i := k) (by omega)))) rfl ?_
      first | refine o_p (p_len_slice rfl rfl Try.underlying69) rfl ?_ | refine o_q (q_len_own rfl rfl Try.underlying69 (by repeat (first | exact .here | apply Pick.there))) rfl ?_
      refine o_p (p_pure rfl) rfl ?_
      refine o_nil ?_
      refine s_block ?_
      refine s_loopI (α := Nat × Option Addr × Nat × List UInt8) [7, 11, 13, 14, 15, 16, 60, 61, 62, 63, 64, 65, 66, 67, 68, 69, 70, 71, 72, 73, 74, 75, 76, 77, 78, 79, 80, 81, 82, 83, 84, 85, 86, 87, 88, 89, 90, 91, 92, 93, 94, 95, 96, 97, 98, 99, 100, 101, 102, 103] (fun x => [(60, .int .i64 (x.1 : Int)), (11, .string (bs x.2.2.2))]) (fun x => HS w [] [.blk b8 43 3 [.slice x.2.1 x.1 x.2.2.1, .int .i64 nc, .string (bs [])], .own (.slice x.2.1 x.1 x.2.2.1) 96 2 x.1 (flatF (rkF hd key x.1)), .blk b3 43 3 [.slice none 0 0, .int .i64 0, .string (bs [])], .blk b2 69 1 [.slice a2 hd.length cap2], .blk b1 43 3 [.slice a fs.length cap, .int .i64 nc, .string (bs st)]]) (fun x => x.1 ≤ hd.length ∧ (∀ i, i < x.1 → uwOk fs hd i) ∧ x.2.2.2 = oldK fs hd x.1) (fun x => hd.length - x.1) (0, none, 0, []) ⟨by simp, fun i h => absurd h (Nat.not_lt_zero i), rfl⟩ (by repeat (first | exact sl_n | refine sl_c rfl ?_)) (fun w h => (h.own_nil 96 2).ent (by repeat (first | exact .nil | refine .cons (by repeat (first | exact .here | apply Pick.there)) ?_))) (fun ⟨k, ga, gc, old⟩ hx => ?_)
      dsimp only
      obtain ⟨hx1, hx2, hx3⟩ := hx
      simp only [] at hx1 hx2 hx3
      refine s_seq ?_
      refine s_region ?_
      refine o_p (p_pure rfl) rfl ?_
      refine o_nil ?_
      refine s_seq ?_
      refine s_cond rfl (fun h9 => ?_) (fun h9 => ?_)
      · try simp only [decide_eq_true_eq, decide_eq_false_iff_not, Bool.not_eq_true', Bool.not_eq_false', Bool.and_eq_true, Bool.or_eq_true, Bool.and_eq_false_iff, Bool.or_eq_false_iff, Bool.not_true, Bool.not_false] at h9
        have hal := hall k (by omega)
        have hwu := isWd_user hal.2.1
        refine s_skip ?_
        refine s_seq ?_
        refine s_block ?_
        refine s_seq ?_
        refine s_region ?_
        refine o_p (p_pure rfl) rfl ?_
        first | refine o_p (p_indexAddr rfl rfl rfl sl_69 (k) (by omega) (by omega) rfl) rfl ?_ | refine o_p (p_indexAddr rfl rfl rfl sl_69 (k) (by omega) (by omega) (Sl.some ht (by omega))) rfl ?_ | refine o_p (p_indexAddr rfl rfl rfl sl_69 (k) (by omega) (by omega) (Sl.some hs (by omega))) rfl ?_
        first | refine o_q (q_loadn rfl rfl sz_31 (by repeat (first | exact .here | apply Pick.there)) rfl) rfl ?_ | refine o_q (q_load_oldn _ rfl rfl sz_31 hs.rd1 (i := k) (by omega)) rfl ?_ | refine o_q (q_load_oldn _ rfl rfl sz_31 rfl (ht.rd (i := k) (by omega))) rfl ?_
        refine o_h (h_alloc rfl zr_31) rfl (fun b10 _ => ?_)
        refine o_p (p_pure rfl) rfl ?_
        refine o_h0 (h_store rfl rfl rfl sz_31 rfl (by repeat (first | exact .here | apply Put.there)) (by simp only [setMany_length, List.length_set, List.length_cons, List.length_nil, List.length_map]; omega) rfl) (fun _ _ => ?_)
        refine o_nil ?_
        refine s_seq ?_
        refine s_draw [] mixed ?_
        first | refine d_q 0 [] rfl (q_loadn rfl rfl sz_31 (by repeat (first | exact .here | apply Pick.there)) rfl) (by kernel_rfl) (by kernel_rfl) (by kernel_rfl) rfl ?_ | refine d_q 0 [] rfl (q_load_oldn _ rfl rfl sz_31 hs.rd1 (i := k) (by omega)) (by kernel_rfl) (by kernel_rfl) (by kernel_rfl) rfl ?_ | refine d_q 0 [] rfl (q_load_oldn _ rfl rfl sz_31 rfl (ht.rd (i := k) (by omega))) (by kernel_rfl) (by kernel_rfl) (by kernel_rfl) rfl ?_
        refine d_p 1 rfl (p_fieldAddr rfl rfl fd_43_0 sz_41 rfl) (by kernel_rfl) rfl rfl ?_
        first | refine d_q 2 [] rfl (q_load rfl rfl sz_41 (by repeat (first | exact .here | apply Pick.there)) rfl) (by kernel_rfl) (by kernel_rfl) (by kernel_rfl) rfl ?_ | refine d_q 2 [] rfl (q_load_old rfl rfl sz_41 (hs.rd1 (i := k) (by omega))) (by kernel_rfl) (by kernel_rfl) (by kernel_rfl) rfl ?_ | refine d_q 2 [] rfl (q_load_old rfl rfl sz_41 (rfl (ht.rd (i := k) (by omega)))) (by kernel_rfl) (by kernel_rfl) (by kernel_rfl) rfl ?_
        refine d_p 3 rfl (p_pure rfl) (by kernel_rfl) rfl rfl ?_
        first | refine d_p 4 rfl (p_indexAddr rfl rfl rfl sl_41 (k) (by omega) (by omega) rfl) (by kernel_rfl) rfl rfl ?_ | refine d_p 4 rfl (p_indexAddr rfl rfl rfl sl_41 (k) (by omega) (by omega) (Sl.some ht (by omega))) (by kernel_rfl) rfl rfl ?_ | refine d_p 4 rfl (p_indexAddr rfl rfl rfl sl_41 (k) (by omega) (by omega) (Sl.some hs (by omega))) (by kernel_rfl) rfl rfl ?_
        refine d_p 5 rfl (p_fieldAddr rfl rfl fd_96_1 sz_9 rfl) (by kernel_rfl) rfl rfl ?_
        first | refine d_q 6 [] rfl (q_load rfl rfl sz_9 (by repeat (first | exact .here | apply Pick.there)) rfl) (by kernel_rfl) (by kernel_rfl) (by kernel_rfl) rfl ?_ | refine d_q 6 [] rfl (q_load_old rfl rfl sz_9 (hs.rd1 (i := k) (by omega))) (by kernel_rfl) (by kernel_rfl) (by kernel_rfl) rfl ?_ | refine d_q 6 [] rfl (q_load_old rfl rfl sz_9 (rfl (ht.rd (i := k) (by omega)))) (by kernel_rfl) (by kernel_rfl) (by kernel_rfl) rfl ?_
        refine d_q 7 [] rfl (q_call rfl fn_66 rfl (fun w1 h1 => c66 w1 (fd hd k).1 (fd hd k).2 (fd fs k).2 hwu.1 hwu.2.1 hal.2.2)) (by kernel_rfl) (by kernel_rfl) (by kernel_rfl) rfl ?_
        refine d_p 8 rfl (p_pure rfl) (by kernel_rfl) rfl rfl ?_
        refine d_p 9 rfl (p_pure rfl) (by kernel_rfl) rfl rfl ?_
        refine d_p 10 rfl (p_pure rfl) (by kernel_rfl) rfl rfl ?_
        refine d_p 11 rfl (p_pure rfl) (by kernel_rfl) rfl rfl ?_
        refine d_p 12 rfl (p_pure rfl) (by kernel_rfl) rfl rfl ?_
        refine d_nil (by kernel_rfl) (fun w h => h.ent (by repeat (first | exact .nil | refine .cons (by repeat (first | exact .here | apply Pick.there)) ?_))) ?_
        refine s_seq ?_
        refine s_seq ?_
        refine s_region ?_
        refine o_p (p_pure rfl) rfl ?_
        refine o_p (p_pure rfl) rfl ?_
        refine o_p (p_pure rfl) rfl ?_
        refine o_p (p_pure rfl) rfl ?_
        refine o_or 4 79 83 _ _ rfl
          (by
            intro hg11
            have hs12 := hg11; try simp only [decide_eq_true_eq, decide_eq_false_iff_not, Bool.not_eq_true', Bool.not_eq_false', Bool.and_eq_true, Bool.or_eq_true, Bool.and_eq_false_iff, Bool.or_eq_false_iff, Bool.not_true, Bool.not_false] at hs12
            refine o_on 79 _ rfl rfl hg11 ?_
            refine o_p (p_pure rfl) rfl ?_
            refine o_on 79 _ rfl rfl hg11 ?_
            refine o_p (p_pure rfl) rfl ?_
            refine o_on 79 _ rfl rfl hg11 ?_
            refine o_p (p_pure rfl) rfl ?_
            refine o_p (p_pickf rfl rfl hg11 rfl) rfl ?_
            refine o_nil ?_
            exact s_join () (by repeat (first | exact sl_n | refine sl_c rfl ?_)) (fun w h => by first | exact h | exact h.ent (by repeat (first | exact .nil | refine .cons (by repeat (first | exact .here | apply Pick.there)) ?_))))
          (by
            intro hg13
            have hs14 := hg13; try simp only [decide_eq_true_eq, decide_eq_false_iff_not, Bool.not_eq_true', Bool.not_eq_false', Bool.and_eq_true, Bool.or_eq_true, Bool.and_eq_false_iff, Bool.or_eq_false_iff, Bool.not_true, Bool.not_false] at hs14
            refine o_off 79 _ rfl rfl hg13 rfl ?_
            refine o_off 79 _ rfl rfl hg13 rfl ?_
            refine o_off 79 _ rfl rfl hg13 rfl ?_
            refine o_p (p_pickt rfl rfl hg13 rfl) rfl ?_
            refine o_nil ?_
            exact s_join () (by repeat (first | exact sl_n | refine sl_c rfl ?_)) (fun w h => by first | exact h | exact h.ent (by repeat (first | exact .nil | refine .cons (by repeat (first | exact .here | apply Pick.there)) ?_)))) ?_
        refine o_q (q_call rfl fn_65 rfl (fun w1 h1 => c65 w1 _ _)) rfl ?_
        refine o_h (h_buildSlice (cs := [_, _]) rfl rfl sl_140 zr_24 rfl rfl rfl) rfl (fun b15 _ => ?_)
        refine o_q (q_call rfl fn_59 rfl (fun w1 h1 => f59 h1 (by repeat (first | exact .here | apply Pick.there)) (by rfl) (by rfl) (by decide))) rfl ?_
        refine o_slot (show _ = Value.int .i64 (firstV [.int .i64 (uw fs hd k).2, .int .i64 (bif decide ((k : Int) = 0) || decide ((uw fs hd k).1 = oldK fs hd k) then 0 else 19)]) from by rw [← hx3]; rfl) ?_
        refine o_p (p_pure rfl) rfl ?_
        refine o_nil ?_
        refine s_seq ?_
        refine s_region ?_
        refine o_p (p_pure rfl) rfl ?_
        refine o_p (p_pure rfl) rfl ?_
        refine o_nil ?_
        refine s_cond rfl (fun h16 => ?_) (fun h16 => ?_)
        · try simp only [decide_eq_true_eq, decide_eq_false_iff_not, Bool.not_eq_true', Bool.not_eq_false', Bool.and_eq_true, Bool.or_eq_true, Bool.and_eq_false_iff, Bool.or_eq_false_iff, Bool.not_true, Bool.not_false] at h16
          refine s_seq ?_
          refine s_region ?_
          refine o_p (p_build (cs := [_, _, _]) rfl rfl pl_43 zr_43 rfl) rfl ?_
          refine o_p (p_pure rfl) rfl ?_
          refine o_h0 (h_store rfl rfl rfl sz_43 rfl (by repeat (first | exact .here | apply Put.there)) (by simp only [setMany_length, List.length_set, List.length_cons, List.length_nil, List.length_map]; omega) rfl) (fun _ _ => ?_)
          refine o_p (p_pure rfl) rfl ?_
          refine o_nil ?_
          exact s_retv (rs := [.cell 6 43, .tmp 7]) rfl (.cell rfl sz_43 (by repeat (first | exact .here | apply Pick.there)) rfl (.tmp rfl (.nil))) (fun w' h' => ⟨(none, 0), by rw [rkT_19 hr (by omega) (uw_err h16).1, (uw_err h16).2]; rfl, trivial, by rw [rkT_19 hr (by omega) (uw_err h16).1]; exact (h'.own_nil 96 2).ent (by repeat (first | exact .nil | refine .cons (by repeat (first | exact .here | apply Pick.there)) ?_))⟩)
        · try simp only [decide_eq_true_eq, decide_eq_false_iff_not, Bool.not_eq_true', Bool.not_eq_false', Bool.and_eq_true, Bool.or_eq_true, Bool.and_eq_false_iff, Bool.or_eq_false_iff, Bool.not_true, Bool.not_false] at h16
          have huk := uw_fine h16
          refine s_skip ?_
          refine s_seq ?_
          refine s_region ?_
          refine o_p (p_pure rfl) rfl ?_
          refine o_p (p_pure rfl) rfl ?_
          refine o_nil ?_
          refine s_draw [9, 11] mixed ?_
          refine d_p 0 rfl (p_fieldAddr rfl rfl fd_43_0 sz_41 rfl) (by kernel_rfl) rfl rfl ?_
          first | refine d_q 1 [[], []] rfl (q_load rfl rfl sz_41 (by repeat (first | exact .here | apply Pick.there)) rfl) (by kernel_rfl) (by kernel_rfl) (by kernel_rfl) rfl ?_ | refine d_q 1 [[], []] rfl (q_load_old rfl rfl sz_41 (hs.rd1 (i := k) (by omega))) (by kernel_rfl) (by kernel_rfl) (by kernel_rfl) rfl ?_ | refine d_q 1 [[], []] rfl (q_load_old rfl rfl sz_41 (rfl (ht.rd (i := k) (by omega)))) (by kernel_rfl) (by kernel_rfl) (by kernel_rfl) rfl ?_
          refine d_p 2 rfl (p_fieldAddr rfl rfl fd_31_0 sz_3 rfl) (by kernel_rfl) rfl rfl ?_
          first | refine d_q 3 [[8, 7], []] rfl (q_load rfl rfl sz_3 (by repeat (first | exact .here | apply Pick.there)) rfl) (by kernel_rfl) (by kernel_rfl) (by kernel_rfl) rfl ?_ | refine d_q 3 [[8, 7], []] rfl (q_load_old rfl rfl sz_3 (hs.rd1 (i := k) (by omega))) (by kernel_rfl) (by kernel_rfl) (by kernel_rfl) rfl ?_ | refine d_q 3 [[8, 7], []] rfl (q_load_old rfl rfl sz_3 (rfl (ht.rd (i := k) (by omega)))) (by kernel_rfl) (by kernel_rfl) (by kernel_rfl) rfl ?_
          first | refine d_q 4 [[6], []] rfl (q_loadn rfl rfl sz_31 (by repeat (first | exact .here | apply Pick.there)) rfl) (by kernel_rfl) (by kernel_rfl) (by kernel_rfl) rfl ?_ | refine d_q 4 [[6], []] rfl (q_load_oldn _ rfl rfl sz_31 hs.rd1 (i := k) (by omega)) (by kernel_rfl) (by kernel_rfl) (by kernel_rfl) rfl ?_ | refine d_q 4 [[6], []] rfl (q_load_oldn _ rfl rfl sz_31 rfl (ht.rd (i := k) (by omega))) (by kernel_rfl) (by kernel_rfl) (by kernel_rfl) rfl ?_
          refine d_p 5 rfl (p_pure rfl) (by kernel_rfl) rfl rfl ?_
          refine d_q 6 [[], []] rfl (q_call rfl fn_62 rfl (fun w1 h1 => c62 w1 (fd hd k).1 (fd hd k).2 key hwu.1 hwu.2.1 hkl)) (by kernel_rfl) (by kernel_rfl) (by kernel_rfl) rfl ?_
          refine d_p 7 rfl (p_build (cs := [_, _]) rfl rfl pl_96 zr_96 rfl) (by kernel_rfl) rfl rfl ?_
          refine d_h 8 rfl (h_buildSlice (cs := [_, _]) rfl rfl sl_41 zr_96 rfl rfl rfl) (by kernel_rfl) (fun w h => h.ent (by repeat (first | exact .nil | refine .cons (by repeat (first | exact .here | apply Pick.there)) ?_))) rfl (fun b17 _ => ?_)
          refine d_base (fun w h => h.ent (by repeat (first | exact .nil | refine .cons (by repeat (first | exact .here | apply Pick.there)) ?_))) ?_
          refine d_h 9 rfl (h_appendS _ rfl rfl rfl sl_41 Try.underlying41 zr_96 rfl (by repeat (first | exact .here | apply Pick.there)) (src_blk (by repeat (first | exact .here | apply Pick.there))) rfl (by intro u hu; simp only [List.mem_cons, List.mem_nil_iff, or_false] at hu; rcases hu with rfl | rfl <;> rfl) (by omega) (by simp only [maxLen]; omega)) (by kernel_rfl) (fun w h => h.ent (by repeat (first | exact .nil | refine .cons (by repeat (first | exact .here | apply Pick.there)) ?_))) rfl (fun b18 _ => ?_)
          refine d_turn [11] (by kernel_rfl) ?_
          refine d_p 10 rfl (p_fieldAddr rfl rfl fd_43_0 sz_41 rfl) (by kernel_rfl) rfl rfl ?_
          refine d_h0 11 rfl (h_store rfl rfl rfl sz_41 rfl (by repeat (first | exact .here | apply Put.there)) (by simp only [setMany_length, List.length_set, List.length_cons, List.length_nil, List.length_map]; omega) rfl) (by kernel_rfl) (fun w h => h.ent (by repeat (first | exact .nil | refine .cons (by repeat (first | exact .here | apply Pick.there)) ?_))) (fun _ _ => ?_)
          refine d_turn [] (by kernel_rfl) ?_
          refine d_nil (by kernel_rfl) (fun w h => h.ent (by repeat (first | exact .nil | refine .cons (by repeat (first | exact .here | apply Pick.there)) ?_))) ?_
          refine s_blk ?_
          refine s_region ?_
          refine o_p (p_pure rfl) rfl ?_
          try (refine o_slot (i64w (by omega) (by omega)) ?_)
          refine o_p (p_pure rfl) rfl ?_
          refine o_nil ?_
          exact s_backI (k + 1, _, _, (uw fs hd k).1) (by (try simp only []); omega) ⟨by (try simp only []); omega, fun i hi => (Nat.lt_or_ge i k).elim (hx2 i) (fun h => by obtain rfl : i = k := (by (try simp only [] at hi); omega); exact huk), rfl⟩ (by repeat (first | exact sl_n | refine sl_c rfl ?_)) (fun w h => by simp only [rkF_succ]; exact h.ent (by repeat (first | exact .nil | refine .cons (by repeat (first | exact .here | apply Pick.there)) ?_)))
      · try simp only [decide_eq_true_eq, decide_eq_false_iff_not, Bool.not_eq_true', Bool.not_eq_false', Bool.and_eq_true, Bool.or_eq_true, Bool.and_eq_false_iff, Bool.or_eq_false_iff, Bool.not_true, Bool.not_false] at h9
        obtain rfl : k = hd.length := by omega
        have hpos := ok.pos
        have hol : old.length = 8 := by rw [hx3, oldK, if_neg (by omega)]; exact uw_len (hall _ (by omega)).2.2 (hx2 _ (by omega)).1
        refine s_exit_to rfl ?_
        refine s_seq ?_
        refine s_draw [11] mixed ?_
        refine d_p 0 rfl (p_pure rfl) (by kernel_rfl) rfl rfl ?_
        refine d_p 1 rfl (p_fieldAddr rfl rfl fd_43_1 sz_3 rfl) (by kernel_rfl) rfl rfl ?_
        first | refine d_q 2 [[]] rfl (q_load rfl rfl sz_3 (by repeat (first | exact .here | apply Pick.there)) rfl) (by kernel_rfl) (by kernel_rfl) (by kernel_rfl) rfl ?_ | refine d_q 2 [[]] rfl (q_load_old rfl rfl sz_3 (hs.rd1 (i := k) (by omega))) (by kernel_rfl) (by kernel_rfl) (by kernel_rfl) rfl ?_ | refine d_q 2 [[]] rfl (q_load_old rfl rfl sz_3 (rfl (ht.rd (i := k) (by omega)))) (by kernel_rfl) (by kernel_rfl) (by kernel_rfl) rfl ?_
        refine d_p 3 rfl (p_pure rfl) (by kernel_rfl) rfl rfl ?_
        refine d_p 4 rfl (p_fieldAddr rfl rfl fd_43_1 sz_3 rfl) (by kernel_rfl) rfl rfl ?_
        first | refine d_q 5 [[]] rfl (q_load rfl rfl sz_3 (by repeat (first | exact .here | apply Pick.there)) rfl) (by kernel_rfl) (by kernel_rfl) (by kernel_rfl) rfl ?_ | refine d_q 5 [[]] rfl (q_load_old rfl rfl sz_3 (hs.rd1 (i := k) (by omega))) (by kernel_rfl) (by kernel_rfl) (by kernel_rfl) rfl ?_ | refine d_q 5 [[]] rfl (q_load_old rfl rfl sz_3 (rfl (ht.rd (i := k) (by omega)))) (by kernel_rfl) (by kernel_rfl) (by kernel_rfl) rfl ?_
        refine d_p 6 rfl (p_fieldAddr rfl rfl fd_43_2 sz_9 rfl) (by kernel_rfl) rfl rfl ?_
        first | refine d_q 7 [[]] rfl (q_load rfl rfl sz_9 (by repeat (first | exact .here | apply Pick.there)) rfl) (by kernel_rfl) (by kernel_rfl) (by kernel_rfl) rfl ?_ | refine d_q 7 [[]] rfl (q_load_old rfl rfl sz_9 (hs.rd1 (i := k) (by omega))) (by kernel_rfl) (by kernel_rfl) (by kernel_rfl) rfl ?_ | refine d_q 7 [[]] rfl (q_load_old rfl rfl sz_9 (rfl (ht.rd (i := k) (by omega)))) (by kernel_rfl) (by kernel_rfl) (by kernel_rfl) rfl ?_
        refine d_q 8 [[]] rfl (q_call rfl fn_70 rfl (fun w1 h1 => c70 w1 old nc 0 st hol hw (by omega))) (by kernel_rfl) (by kernel_rfl) (by kernel_rfl) rfl ?_
        refine d_q 9 [[]] rfl (q_call rfl fn_70 rfl (fun w1 h1 => c70 w1 key nc 0 _ hkl hw (by rw [cryptL_length]; omega))) (by kernel_rfl) (by kernel_rfl) (by kernel_rfl) rfl ?_
        refine d_p 10 rfl (p_fieldAddr rfl rfl fd_43_2 sz_9 rfl) (by kernel_rfl) rfl rfl ?_
        refine d_h0 11 rfl (h_store rfl rfl rfl sz_9 rfl (by repeat (first | exact .here | apply Put.there)) (by simp only [setMany_length, List.length_set, List.length_cons, List.length_nil, List.length_map]; omega) rfl) (by kernel_rfl) (fun w h => h.ent (by repeat (first | exact .nil | refine .cons (by repeat (first | exact .here | apply Pick.there)) ?_))) (fun _ _ => ?_)
        refine d_turn [] (by kernel_rfl) ?_
        refine d_nil (by kernel_rfl) (fun w h => h.ent (by repeat (first | exact .nil | refine .cons (by repeat (first | exact .here | apply Pick.there)) ?_))) ?_
        refine s_seq ?_
        refine s_region ?_
        first | refine o_q (q_loadn rfl rfl sz_43 (by repeat (first | exact .here | apply Pick.there)) rfl) rfl ?_ | refine o_q (q_load_oldn _ rfl rfl sz_43 hs.rd1 (i := k) (by omega)) rfl ?_ | refine o_q (q_load_oldn _ rfl rfl sz_43 rfl (ht.rd (i := k) (by omega))) rfl ?_
        refine o_h0 (h_store rfl rfl rfl sz_43 rfl (by repeat (first | exact .here | apply Put.there)) (by simp only [setMany_length, List.length_set, List.length_cons, List.length_nil, List.length_map]; omega) rfl) (fun _ _ => ?_)
        refine o_p (p_pure rfl) rfl ?_
        refine o_nil ?_
        exact s_retv (rs := [.cell 6 43, .tmp 7]) rfl (.cell rfl sz_43 (by repeat (first | exact .here | apply Pick.there)) rfl (.tmp rfl (.nil))) (fun w' h' => ⟨(ga, gc), by rw [rkT_ok hr hx2]; simp only [hx3, oldK, if_neg (show ¬ hd.length = 0 by omega), rkF_length]; rfl, trivial, by rw [rkT_ok hr hx2]; simp only [rkF_length]; exact h'.ent (by repeat (first | exact .nil | refine .cons (by repeat (first | exact .here | apply Pick.there)) ?_))⟩)

end Go.Proofs
