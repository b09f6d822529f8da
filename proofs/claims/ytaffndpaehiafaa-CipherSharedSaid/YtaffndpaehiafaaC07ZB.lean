/- Contracts of the program's functions, proved by walking them with the rules of the Gx texts; without conditions beyond those that each contract names. -/
import Derived.Test.YtaffndpaehiafaaC07ZA
namespace Go.Proofs
open Go Go.RowKit Gx
set_option linter.unusedVariables false
set_option linter.unusedSimpArgs false
attribute [local irreducible] Go.Calls Gx.S Gx.O Gx.D Gx.OpP Gx.OpQ Gx.OpH

theorem fn_87 : isFn Try.prog 87 = true := by kernel_rfl
theorem fn_88 : isFn Try.prog 88 = true := by kernel_rfl


theorem hlds_0 {hd : Fds} (h : hldsE hd = 0) : hd.length ≤ 8 ∧ ∀ k, k < hd.length → holdE (fd hd k).1 (fd hd k).2 = 0 := by
  unfold hldsE at h
  split at h
  · rename_i h8
    refine ⟨h8, fun k hk => ?_⟩
    have := eachL_0 h (hdE hd k) (by simp only [hdEs, List.mem_map, List.mem_range]; exact ⟨k, hk, rfl⟩)
    unfold hdE hldE at this
    grind
  · cases h
theorem hasU_iff (hs : Fds) (u : Int) : hasU hs u = true ↔ idF hs u < hs.length := by
  unfold hasU
  rw [List.any_eq_true]
  constructor
  · rintro ⟨b, hb, hbt⟩
    obtain ⟨p, hp, e⟩ := List.mem_map.1 hb
    obtain ⟨j, hj, e2⟩ := List.getElem_of_mem hp
    have hbt' : b = true := hbt
    rw [hbt'] at e
    have e3 : (fd hs j).1 = u := by rw [← fd_get hj, e2]; simpa using e
    rcases Nat.lt_or_ge (idF hs u) hs.length with h | h
    · exact h
    · exact absurd e3 (idF_ne (by omega))
  · intro h
    refine ⟨true, ?_, rfl⟩
    rw [List.mem_map]
    exact ⟨hs[idF hs u], List.getElem_mem h, by rw [fd_get h]; simpa using idF_at h⟩
theorem atR_neg (hs : Fds) (u : Int) : atR hs u < 0 ↔ hasU hs u = false := by
  have h := hasU_iff hs u
  unfold atR
  cases hc : hasU hs u with
  | true =>
    have := h.1 hc
    rw [if_pos this]
    constructor
    · intro h2; omega
    · intro h2; cases h2
  | false =>
    have : ¬ idF hs u < hs.length := fun e => by rw [h.2 e] at hc; cases hc
    rw [if_neg this]
    simp
theorem gap_no {fs hd : Fds} (h : ∀ i, i < fs.length → ¬ atR hd (fd fs i).1 < 0) : gapB fs hd = false := by
  unfold gapB
  rw [List.any_eq_false]
  intro b hb
  obtain ⟨p, hp, e⟩ := List.mem_map.1 hb
  obtain ⟨j, hj, e2⟩ := List.getElem_of_mem hp
  have h1 := h j hj
  rw [atR_neg, ← fd_get hj, e2] at h1
  rw [← e]
  simpa using h1
theorem gap_yes {fs hd : Fds} {i : Nat} (hi : i < fs.length) (h : atR hd (fd fs i).1 < 0) : gapB fs hd = true := by
  unfold gapB
  rw [List.any_eq_true]
  refine ⟨true, ?_, rfl⟩
  rw [List.mem_map]
  exact ⟨fs[i], List.getElem_mem hi, by rw [fd_get hi, (atR_neg _ _).1 h]; rfl⟩
theorem acc_bs {fs hd : Fds} (ok : FOk fs) (hh : ∀ k, k < hd.length → holdE (fd hd k).1 (fd hd k).2 = 0) {j : Nat} (hj : j < hd.length) : (atR fs (fd hd j).1 < 0 ↔ bsB fs (fd hd j).1 = false) := by
  have hu := isWd_user (hh j hj)
  rw [bsF_ok ok ⟨by omega, by omega⟩, atR_neg]
  have h1 := hasU_iff fs (fd hd j).1
  have h2 := (idF_lb (u := (fd hd j).1) ok).1
  have h3 : hasU fs (fd hd j).1 = hasF fs (fd hd j).1 := by rw [Bool.eq_iff_iff]; exact h1.trans h2.symm
  rw [h3]
theorem acc_no {fs hd : Fds} (ok : FOk fs) (hh : ∀ k, k < hd.length → holdE (fd hd k).1 (fd hd k).2 = 0) (h : ∀ i, i < hd.length → ¬ atR fs (fd hd i).1 < 0) : accB fs hd = false := by
  unfold accB
  rw [List.any_eq_false]
  intro b hb
  obtain ⟨p, hp, e⟩ := List.mem_map.1 hb
  obtain ⟨j, hj, e2⟩ := List.getElem_of_mem hp
  have h1 := h j hj
  rw [acc_bs ok hh hj, ← fd_get hj, e2] at h1
  rw [← e]
  simpa using h1
theorem acc_yes {fs hd : Fds} (ok : FOk fs) (hh : ∀ k, k < hd.length → holdE (fd hd k).1 (fd hd k).2 = 0) {i : Nat} (hi : i < hd.length) (h : atR fs (fd hd i).1 < 0) : accB fs hd = true := by
  unfold accB
  rw [List.any_eq_true]
  refine ⟨true, ?_, rfl⟩
  rw [List.mem_map]
  exact ⟨hd[i], List.getElem_mem hi, by rw [fd_get hi, (acc_bs ok hh hi).1 h]; rfl⟩
theorem at_same {fs hd : Fds} (ok : FOk fs) (hl : fs.length = hd.length) (hu : ∀ k, k < hd.length → (fd fs k).1 = (fd hd k).1) {k : Nat} (hk : k < hd.length) : atR hd (fd fs k).1 = k := by
  have e : idF hd (fd fs k).1 = k := idF_eq (Nat.le_of_lt hk) (fun i hi => by
    rw [← hu i (by omega)]
    have := ok.lt i k hi (by omega)
    omega) (fun _ => (hu k hk).symm)
  unfold atR
  rw [e, if_pos hk]

set_option maxRecDepth 20000 in
set_option maxHeartbeats 1600000 in
theorem c39 (w : World) (a a2 : Option Addr) (cap cap2 : Nat) (fs : Fds) (nc : Int) (st : List UInt8) (hd : Fds) (key : List UInt8) (hs : Fl w a fs) (ht : Fl w a2 hd) (hm : fs.length ≤ 1000) (hm2 : hd.length ≤ 1000) (hst : st.length ≤ 9223372036854775807) : Calls Try.prog 39 #[.agg #[.slice a fs.length cap, .int .i64 nc, .string (bs st)], .slice a2 hd.length cap2, .string (bs key)] w fun en w' => ∃ g : Option Addr × Nat, en = .returned (.tuple #[.agg #[.slice g.1 (rkT fs nc st hd key).1.1.length g.2, .int .i64 (rkT fs nc st hd key).1.2.1, .string (bs (rkT fs nc st hd key).1.2.2)], .int .i64 (rkT fs nc st hd key).2]) ∧ True ∧ HS w [] [.own (.slice g.1 (rkT fs nc st hd key).1.1.length g.2) 96 2 (rkT fs nc st hd key).1.1.length (flatF (rkT fs nc st hd key).1.1)] w' := by
  refine enter (args := [_, _, _]) Try.func39 Try.ntmps39 rfl rfl (HS.refl w []) ?_
  refine s_seq ?_
  refine s_region ?_
  refine o_h (h_box rfl rfl) rfl (fun b1 _ => ?_)
  refine o_h (h_alloc rfl zr_43) rfl (fun b2 _ => ?_)
  refine o_p (p_pure rfl) rfl ?_
  refine o_nil ?_
  refine s_seq ?_
  refine s_seq ?_
  refine s_region ?_
  first | refine o_q (q_loadn rfl rfl sz_43 (by repeat (first | exact .here | apply Pick.there)) rfl) rfl ?_ | refine o_q (q_load_oldn _ rfl rfl sz_43 hs.rd0 (i := k) (by omega)) rfl ?_ | refine o_q (q_load_oldn _ rfl rfl sz_43 ht.rd0 (i := k) (by omega)) rfl ?_ | refine o_q (q_load_oldn _ rfl rfl sz_43 hs.rd1 (i := k) (by omega)) rfl ?_ | refine o_q (q_load_oldn _ rfl rfl sz_43 rfl (ht.rd (i := k) (by omega))) rfl ?_
  refine o_q (q_call rfl fn_71 rfl (fun w1 h1 => c71 w1 _ _ fs _ _ (hs.later h1) (by omega) (by omega))) rfl ?_
  refine o_p (p_pure rfl) rfl ?_
  refine o_nil ?_
  refine s_seq ?_
  refine s_region ?_
  refine o_p (p_pure rfl) rfl ?_
  refine o_p (p_pure rfl) rfl ?_
  refine o_nil ?_
  refine s_cond rfl (fun h3 => ?_) (fun h3 => ?_)
  · try simp only [decide_eq_true_eq, decide_eq_false_iff_not, Bool.not_eq_true', Bool.not_eq_false', Bool.and_eq_true, Bool.or_eq_true, Bool.and_eq_false_iff, Bool.or_eq_false_iff, Bool.not_true, Bool.not_false] at h3
    refine s_seq ?_
    refine s_region ?_
    refine o_p (p_build (cs := [_, _, _]) rfl rfl pl_43 zr_43 rfl) rfl ?_
    refine o_p (p_pure rfl) rfl ?_
    refine o_h0 (h_store rfl rfl rfl sz_43 rfl (by repeat (first | exact .here | apply Put.there)) (by simp only [setMany_length, List.length_set, List.length_cons, List.length_nil, List.length_map]; omega) rfl) (fun _ _ => ?_)
    refine o_p (p_pure rfl) rfl ?_
    refine o_nil ?_
    exact s_retv (rs := [.cell 6 43, .tmp 7]) rfl (.cell rfl sz_43 (by repeat (first | exact .here | apply Pick.there)) rfl (.tmp rfl (.nil))) (fun w' h' => by have he : rkE fs nc st.length hd key = fileE fs nc st.length := (by unfold rkE rkE0; rw [if_neg h3, if_neg h3]); have hx := rkT_err (fs := fs) (nc := nc) (st := st) (hd := hd) (key := key) (by rw [he]; first | exact h3 | decide); rw [he] at hx; exact ⟨(none, 0), by rw [hx]; rfl, trivial, by rw [hx]; exact (h'.own_nil 96 2).ent (by repeat (first | exact .nil | refine .cons (by repeat (first | exact .here | apply Pick.there)) ?_))⟩)
  · try simp only [decide_eq_true_eq, decide_eq_false_iff_not, Bool.not_eq_true', Bool.not_eq_false', Bool.and_eq_true, Bool.or_eq_true, Bool.and_eq_false_iff, Bool.or_eq_false_iff, Bool.not_true, Bool.not_false] at h3
    have r1 : fileE fs nc st.length = 0 := by omega
    obtain ⟨ok0, _, _⟩ := fileE_ok r1
    refine s_skip ?_
    refine s_seq ?_
    refine s_seq ?_
    refine s_region ?_
    refine o_p (p_pure rfl) rfl ?_
    refine o_q (q_call rfl fn_87 rfl (fun w1 h1 => c87 w1 a2 cap2 hd (ht.later h1) hm2)) rfl ?_
    refine o_p (p_pure rfl) rfl ?_
    refine o_nil ?_
    refine s_seq ?_
    refine s_region ?_
    refine o_p (p_pure rfl) rfl ?_
    refine o_p (p_pure rfl) rfl ?_
    refine o_nil ?_
    refine s_cond rfl (fun h4 => ?_) (fun h4 => ?_)
    · try simp only [decide_eq_true_eq, decide_eq_false_iff_not, Bool.not_eq_true', Bool.not_eq_false', Bool.and_eq_true, Bool.or_eq_true, Bool.and_eq_false_iff, Bool.or_eq_false_iff, Bool.not_true, Bool.not_false] at h4
      refine s_seq ?_
      refine s_region ?_
      refine o_p (p_build (cs := [_, _, _]) rfl rfl pl_43 zr_43 rfl) rfl ?_
      refine o_p (p_pure rfl) rfl ?_
      refine o_h0 (h_store rfl rfl rfl sz_43 rfl (by repeat (first | exact .here | apply Put.there)) (by simp only [setMany_length, List.length_set, List.length_cons, List.length_nil, List.length_map]; omega) rfl) (fun _ _ => ?_)
      refine o_p (p_pure rfl) rfl ?_
      refine o_nil ?_
      exact s_retv (rs := [.cell 6 43, .tmp 7]) rfl (.cell rfl sz_43 (by repeat (first | exact .here | apply Pick.there)) rfl (.tmp rfl (.nil))) (fun w' h' => by have he : rkE fs nc st.length hd key = hldsE hd := (by unfold rkE rkE0; rw [if_pos r1, if_neg h4]); have hx := rkT_err (fs := fs) (nc := nc) (st := st) (hd := hd) (key := key) (by rw [he]; first | exact h4 | decide); rw [he] at hx; exact ⟨(none, 0), by rw [hx]; rfl, trivial, by rw [hx]; exact (h'.own_nil 96 2).ent (by repeat (first | exact .nil | refine .cons (by repeat (first | exact .here | apply Pick.there)) ?_))⟩)
    · try simp only [decide_eq_true_eq, decide_eq_false_iff_not, Bool.not_eq_true', Bool.not_eq_false', Bool.and_eq_true, Bool.or_eq_true, Bool.and_eq_false_iff, Bool.or_eq_false_iff, Bool.not_true, Bool.not_false] at h4
      have r2 : hldsE hd = 0 := by omega
      have r0 : rkE0 fs nc st.length hd = 0 := by unfold rkE0; rw [if_pos r1, r2]
      obtain ⟨h8, hho⟩ := hlds_0 r2
      refine s_skip ?_
      refine s_seq ?_
      refine s_seq ?_
      refine s_region ?_
      refine o_p (p_pure rfl) rfl ?_
      refine o_q (q_call rfl fn_19 rfl (fun w1 h1 => c19 w1 _)) rfl ?_
      refine o_p (p_pure rfl) rfl ?_
      refine o_nil ?_
      refine s_seq ?_
      refine s_region ?_
      refine o_p (p_pure rfl) rfl ?_
      refine o_p (p_pure rfl) rfl ?_
      refine o_nil ?_
      refine s_cond rfl (fun h5 => ?_) (fun h5 => ?_)
      · try simp only [decide_eq_true_eq, decide_eq_false_iff_not, Bool.not_eq_true', Bool.not_eq_false', Bool.and_eq_true, Bool.or_eq_true, Bool.and_eq_false_iff, Bool.or_eq_false_iff, Bool.not_true, Bool.not_false] at h5
        refine s_seq ?_
        refine s_region ?_
        refine o_p (p_build (cs := [_, _, _]) rfl rfl pl_43 zr_43 rfl) rfl ?_
        refine o_p (p_pure rfl) rfl ?_
        refine o_h0 (h_store rfl rfl rfl sz_43 rfl (by repeat (first | exact .here | apply Put.there)) (by simp only [setMany_length, List.length_set, List.length_cons, List.length_nil, List.length_map]; omega) rfl) (fun _ _ => ?_)
        refine o_p (p_pure rfl) rfl ?_
        refine o_nil ?_
        exact s_retv (rs := [.cell 6 43, .tmp 7]) rfl (.cell rfl sz_43 (by repeat (first | exact .here | apply Pick.there)) rfl (.tmp rfl (.nil))) (fun w' h' => by have he : rkE fs nc st.length hd key = keyE key := (by have hke := keyE_or key; unfold rkE; rw [if_pos r0, if_neg h5]; omega); have hx := rkT_err (fs := fs) (nc := nc) (st := st) (hd := hd) (key := key) (by rw [he]; first | exact h5 | decide); rw [he] at hx; exact ⟨(none, 0), by rw [hx]; rfl, trivial, by rw [hx]; exact (h'.own_nil 96 2).ent (by repeat (first | exact .nil | refine .cons (by repeat (first | exact .here | apply Pick.there)) ?_))⟩)
      · try simp only [decide_eq_true_eq, decide_eq_false_iff_not, Bool.not_eq_true', Bool.not_eq_false', Bool.and_eq_true, Bool.or_eq_true, Bool.and_eq_false_iff, Bool.or_eq_false_iff, Bool.not_true, Bool.not_false] at h5
        have r3 : keyE key = 0 := by omega
        refine s_skip ?_
        refine s_seq ?_
        refine s_seq ?_
        refine s_region ?_
        refine o_p (p_pure rfl) rfl ?_
        refine o_nil ?_
        refine s_block ?_
        refine s_loopI (α := Nat) [7, 11, 37, 38, 39, 40, 41, 42, 43, 44, 45, 46, 47, 48, 49, 50, 51, 52, 53] (fun k => [(11, .int .i64 (k : Int))]) (fun _ => HS w [] [.blk b2 43 3 [.slice none 0 0, .int .i64 0, .string (bs [])], .blk b1 43 3 [.slice a fs.length cap, .int .i64 nc, .string (bs st)]]) (fun k => k ≤ fs.length ∧ ∀ i, i < k → ¬ atR hd (fd fs i).1 < 0) (fun k => fs.length - k) 0 ⟨by omega, fun i h => absurd h (Nat.not_lt_zero i)⟩ (by repeat (first | exact sl_n | refine sl_c rfl ?_)) (fun w h => h.ent (by repeat (first | exact .nil | refine .cons (by repeat (first | exact .here | apply Pick.there)) ?_))) (fun k hk => ?_)
        obtain ⟨hk1, hk2⟩ := hk
        refine s_seq ?_
        refine s_seq ?_
        refine s_region ?_
        refine o_p (p_pure rfl) rfl ?_
        refine o_p (p_fieldAddr rfl rfl fd_43_0 sz_41 rfl) rfl ?_
        first | refine o_q (q_load rfl rfl sz_41 (by repeat (first | exact .here | apply Pick.there)) rfl) rfl ?_ | refine o_q (q_load_old rfl rfl sz_41 (hs.rd0 (i := k) (by omega))) rfl ?_ | refine o_q (q_load_old rfl rfl sz_41 (ht.rd0 (i := k) (by omega))) rfl ?_ | refine o_q (q_load_old rfl rfl sz_41 (hs.rd1 (i := k) (by omega))) rfl ?_ | refine o_q (q_load_old rfl rfl sz_41 (rfl (ht.rd (i := k) (by omega)))) rfl ?_
        first | refine o_p (p_len_slice rfl rfl Try.underlying41) rfl ?_ | refine o_q (q_len_own rfl rfl Try.underlying41 (by repeat (first | exact .here | apply Pick.there))) rfl ?_
        refine o_p (p_pure rfl) rfl ?_
        refine o_nil ?_
        refine s_cond rfl (fun h6 => ?_) (fun h6 => ?_)
        · try simp only [decide_eq_true_eq, decide_eq_false_iff_not, Bool.not_eq_true', Bool.not_eq_false', Bool.and_eq_true, Bool.or_eq_true, Bool.and_eq_false_iff, Bool.or_eq_false_iff, Bool.not_true, Bool.not_false] at h6
          refine s_skip ?_
          refine s_seq ?_
          refine s_block ?_
          refine s_seq ?_
          refine s_region ?_
          refine o_p (p_pure rfl) rfl ?_
          refine o_p (p_fieldAddr rfl rfl fd_43_0 sz_41 rfl) rfl ?_
          first | refine o_q (q_load rfl rfl sz_41 (by repeat (first | exact .here | apply Pick.there)) rfl) rfl ?_ | refine o_q (q_load_old rfl rfl sz_41 (hs.rd0 (i := k) (by omega))) rfl ?_ | refine o_q (q_load_old rfl rfl sz_41 (ht.rd0 (i := k) (by omega))) rfl ?_ | refine o_q (q_load_old rfl rfl sz_41 (hs.rd1 (i := k) (by omega))) rfl ?_ | refine o_q (q_load_old rfl rfl sz_41 (rfl (ht.rd (i := k) (by omega)))) rfl ?_
          refine o_p (p_pure rfl) rfl ?_
          first | refine o_p (p_indexAddr rfl rfl rfl sl_41 (k) (by omega) (by omega) rfl) rfl ?_ | refine o_p (p_indexAddr rfl rfl rfl sl_41 (k) (by omega) (by omega) (Sl.some ht (by omega))) rfl ?_ | refine o_p (p_indexAddr rfl rfl rfl sl_41 (k) (by omega) (by omega) (Sl.some hs (by omega))) rfl ?_
          refine o_p (p_fieldAddr rfl rfl fd_96_0 sz_3 rfl) rfl ?_
          first | refine o_q (q_load rfl rfl sz_3 (by repeat (first | exact .here | apply Pick.there)) rfl) rfl ?_ | refine o_q (q_load_old rfl rfl sz_3 (hs.rd0 (i := k) (by omega))) rfl ?_ | refine o_q (q_load_old rfl rfl sz_3 (ht.rd0 (i := k) (by omega))) rfl ?_ | refine o_q (q_load_old rfl rfl sz_3 (hs.rd1 (i := k) (by omega))) rfl ?_ | refine o_q (q_load_old rfl rfl sz_3 (rfl (ht.rd (i := k) (by omega)))) rfl ?_
          refine o_q (q_call rfl fn_88 rfl (fun w1 h1 => c88 w1 a2 cap2 hd (fd fs k).1 (ht.later h1) hm2)) rfl ?_
          have hn51 : True := trivial
          refine o_p (p_pure rfl) rfl ?_
          refine o_nil ?_
          refine s_cond rfl (fun h7 => ?_) (fun h7 => ?_)
          · try simp only [decide_eq_true_eq, decide_eq_false_iff_not, Bool.not_eq_true', Bool.not_eq_false', Bool.and_eq_true, Bool.or_eq_true, Bool.and_eq_false_iff, Bool.or_eq_false_iff, Bool.not_true, Bool.not_false] at h7
            refine s_seq ?_
            refine s_region ?_
            refine o_p (p_build (cs := [_, _, _]) rfl rfl pl_43 zr_43 rfl) rfl ?_
            refine o_h0 (h_store rfl rfl rfl sz_43 rfl (by repeat (first | exact .here | apply Put.there)) (by simp only [setMany_length, List.length_set, List.length_cons, List.length_nil, List.length_map]; omega) rfl) (fun _ _ => ?_)
            refine o_p (p_pure rfl) rfl ?_
            refine o_nil ?_
            exact s_retv (rs := [.cell 6 43, .tmp 7]) rfl (.cell rfl sz_43 (by repeat (first | exact .here | apply Pick.there)) rfl (.tmp rfl (.nil))) (fun w' h' => by have he : rkE fs nc st.length hd key = 14 := (by unfold rkE; rw [if_pos r0, if_pos r3, if_pos (gap_yes (by omega) h7)]); have hx := rkT_err (fs := fs) (nc := nc) (st := st) (hd := hd) (key := key) (by rw [he]; first | exact h7 | decide); rw [he] at hx; exact ⟨(none, 0), by rw [hx]; rfl, trivial, by rw [hx]; exact (h'.own_nil 96 2).ent (by repeat (first | exact .nil | refine .cons (by repeat (first | exact .here | apply Pick.there)) ?_))⟩)
          · try simp only [decide_eq_true_eq, decide_eq_false_iff_not, Bool.not_eq_true', Bool.not_eq_false', Bool.and_eq_true, Bool.or_eq_true, Bool.and_eq_false_iff, Bool.or_eq_false_iff, Bool.not_true, Bool.not_false] at h7
            refine s_skip ?_
            refine s_blk ?_
            refine s_region ?_
            refine o_p (p_pure rfl) rfl ?_
            refine o_p (p_pure rfl) rfl ?_
            try (refine o_slot (i64w (by omega) (by omega)) ?_)
            refine o_p (p_pure rfl) rfl ?_
            refine o_nil ?_
            exact s_backI (k+1) (by omega) ⟨by omega, fun i hi => (Nat.lt_or_ge i k).elim (hk2 i) (fun h => by obtain rfl : i = k := (by omega); exact h7)⟩ (by repeat (first | exact sl_n | refine sl_c rfl ?_)) (fun w h => h.ent (by repeat (first | exact .nil | refine .cons (by repeat (first | exact .here | apply Pick.there)) ?_)))
        · try simp only [decide_eq_true_eq, decide_eq_false_iff_not, Bool.not_eq_true', Bool.not_eq_false', Bool.and_eq_true, Bool.or_eq_true, Bool.and_eq_false_iff, Bool.or_eq_false_iff, Bool.not_true, Bool.not_false] at h6
          have r4 := gap_no (fs := fs) (hd := hd) (fun i hi => hk2 i (by omega))
          refine s_exit_to rfl ?_
          refine s_seq ?_
          refine s_seq ?_
          refine s_region ?_
          refine o_p (p_pure rfl) rfl ?_
          refine o_nil ?_
          refine s_block ?_
          refine s_loopI (α := Nat) [7, 12, 54, 55, 56, 57, 58, 59, 60, 61, 62, 63, 64, 65, 66, 67, 68, 69] (fun k => [(12, .int .i64 (k : Int))]) (fun _ => HS w [] [.blk b2 43 3 [.slice none 0 0, .int .i64 0, .string (bs [])], .blk b1 43 3 [.slice a fs.length cap, .int .i64 nc, .string (bs st)]]) (fun k => k ≤ hd.length ∧ ∀ i, i < k → ¬ atR fs (fd hd i).1 < 0) (fun k => hd.length - k) 0 ⟨by omega, fun i h => absurd h (Nat.not_lt_zero i)⟩ (by repeat (first | exact sl_n | refine sl_c rfl ?_)) (fun w h => h.ent (by repeat (first | exact .nil | refine .cons (by repeat (first | exact .here | apply Pick.there)) ?_))) (fun k hk => ?_)
          obtain ⟨hk1, hk2⟩ := hk
          refine s_seq ?_
          refine s_seq ?_
          refine s_region ?_
          refine o_p (p_pure rfl) rfl ?_
          refine o_p (p_pure rfl) rfl ?_
          first | refine o_p (p_len_slice rfl rfl Try.underlying69) rfl ?_ | refine o_q (q_len_own rfl rfl Try.underlying69 (by repeat (first | exact .here | apply Pick.there))) rfl ?_
          refine o_p (p_pure rfl) rfl ?_
          refine o_nil ?_
          refine s_cond rfl (fun h8 => ?_) (fun h8 => ?_)
          · try simp only [decide_eq_true_eq, decide_eq_false_iff_not, Bool.not_eq_true', Bool.not_eq_false', Bool.and_eq_true, Bool.or_eq_true, Bool.and_eq_false_iff, Bool.or_eq_false_iff, Bool.not_true, Bool.not_false] at h8
            refine s_skip ?_
            refine s_seq ?_
            refine s_block ?_
            refine s_seq ?_
            refine s_draw [] mixed ?_
            refine d_p 0 rfl (p_fieldAddr rfl rfl fd_43_0 sz_41 rfl) (by kernel_rfl) rfl rfl ?_
            first | refine d_q 1 [] rfl (q_load rfl rfl sz_41 (by repeat (first | exact .here | apply Pick.there)) rfl) (by kernel_rfl) (by kernel_rfl) (by kernel_rfl) rfl ?_ | refine d_q 1 [] rfl (q_load_old rfl rfl sz_41 (hs.rd0 (i := k) (by omega))) (by kernel_rfl) (by kernel_rfl) (by kernel_rfl) rfl ?_ | refine d_q 1 [] rfl (q_load_old rfl rfl sz_41 (ht.rd0 (i := k) (by omega))) (by kernel_rfl) (by kernel_rfl) (by kernel_rfl) rfl ?_ | refine d_q 1 [] rfl (q_load_old rfl rfl sz_41 (hs.rd1 (i := k) (by omega))) (by kernel_rfl) (by kernel_rfl) (by kernel_rfl) rfl ?_ | refine d_q 1 [] rfl (q_load_old rfl rfl sz_41 (rfl (ht.rd (i := k) (by omega)))) (by kernel_rfl) (by kernel_rfl) (by kernel_rfl) rfl ?_
            refine d_p 2 rfl (p_pure rfl) (by kernel_rfl) rfl rfl ?_
            refine d_p 3 rfl (p_pure rfl) (by kernel_rfl) rfl rfl ?_
            first | refine d_p 4 rfl (p_indexAddr rfl rfl rfl sl_69 (k) (by omega) (by omega) rfl) (by kernel_rfl) rfl rfl ?_ | refine d_p 4 rfl (p_indexAddr rfl rfl rfl sl_69 (k) (by omega) (by omega) (Sl.some ht (by omega))) (by kernel_rfl) rfl rfl ?_ | refine d_p 4 rfl (p_indexAddr rfl rfl rfl sl_69 (k) (by omega) (by omega) (Sl.some hs (by omega))) (by kernel_rfl) rfl rfl ?_
            refine d_p 5 rfl (p_fieldAddr rfl rfl fd_31_0 sz_3 rfl) (by kernel_rfl) rfl rfl ?_
            first | refine d_q 6 [] rfl (q_load rfl rfl sz_3 (by repeat (first | exact .here | apply Pick.there)) rfl) (by kernel_rfl) (by kernel_rfl) (by kernel_rfl) rfl ?_ | refine d_q 6 [] rfl (q_load_old rfl rfl sz_3 (hs.rd0 (i := k) (by omega))) (by kernel_rfl) (by kernel_rfl) (by kernel_rfl) rfl ?_ | refine d_q 6 [] rfl (q_load_old rfl rfl sz_3 (ht.rd0 (i := k) (by omega))) (by kernel_rfl) (by kernel_rfl) (by kernel_rfl) rfl ?_ | refine d_q 6 [] rfl (q_load_old rfl rfl sz_3 (hs.rd1 (i := k) (by omega))) (by kernel_rfl) (by kernel_rfl) (by kernel_rfl) rfl ?_ | refine d_q 6 [] rfl (q_load_old rfl rfl sz_3 (rfl (ht.rd (i := k) (by omega)))) (by kernel_rfl) (by kernel_rfl) (by kernel_rfl) rfl ?_
            refine d_q 7 [] rfl (q_call rfl fn_89 rfl (fun w1 h1 => c89 w1 _ _ fs _ (hs.later h1) (by omega))) (by kernel_rfl) (by kernel_rfl) (by kernel_rfl) rfl ?_
            refine d_p 8 rfl (p_pure rfl) (by kernel_rfl) rfl rfl ?_
            refine d_nil (by kernel_rfl) (fun w h => h.ent (by repeat (first | exact .nil | refine .cons (by repeat (first | exact .here | apply Pick.there)) ?_))) ?_
            refine s_cond rfl (fun h9 => ?_) (fun h9 => ?_)
            · try simp only [decide_eq_true_eq, decide_eq_false_iff_not, Bool.not_eq_true', Bool.not_eq_false', Bool.and_eq_true, Bool.or_eq_true, Bool.and_eq_false_iff, Bool.or_eq_false_iff, Bool.not_true, Bool.not_false] at h9
              refine s_seq ?_
              refine s_region ?_
              refine o_p (p_build (cs := [_, _, _]) rfl rfl pl_43 zr_43 rfl) rfl ?_
              refine o_h0 (h_store rfl rfl rfl sz_43 rfl (by repeat (first | exact .here | apply Put.there)) (by simp only [setMany_length, List.length_set, List.length_cons, List.length_nil, List.length_map]; omega) rfl) (fun _ _ => ?_)
              refine o_p (p_pure rfl) rfl ?_
              refine o_nil ?_
              exact s_retv (rs := [.cell 6 43, .tmp 7]) rfl (.cell rfl sz_43 (by repeat (first | exact .here | apply Pick.there)) rfl (.tmp rfl (.nil))) (fun w' h' => by have he : rkE fs nc st.length hd key = 27 := (by unfold rkE; rw [if_pos r0, if_pos r3, if_neg (by rw [r4]; decide), if_pos (acc_yes ok0 hho (by omega) h9)]); have hx := rkT_err (fs := fs) (nc := nc) (st := st) (hd := hd) (key := key) (by rw [he]; first | exact h9 | decide); rw [he] at hx; exact ⟨(none, 0), by rw [hx]; rfl, trivial, by rw [hx]; exact (h'.own_nil 96 2).ent (by repeat (first | exact .nil | refine .cons (by repeat (first | exact .here | apply Pick.there)) ?_))⟩)
            · try simp only [decide_eq_true_eq, decide_eq_false_iff_not, Bool.not_eq_true', Bool.not_eq_false', Bool.and_eq_true, Bool.or_eq_true, Bool.and_eq_false_iff, Bool.or_eq_false_iff, Bool.not_true, Bool.not_false] at h9
              refine s_skip ?_
              refine s_blk ?_
              refine s_region ?_
              refine o_p (p_pure rfl) rfl ?_
              refine o_p (p_pure rfl) rfl ?_
              try (refine o_slot (i64w (by omega) (by omega)) ?_)
              refine o_p (p_pure rfl) rfl ?_
              refine o_nil ?_
              exact s_backI (k+1) (by omega) ⟨by omega, fun i hi => (Nat.lt_or_ge i k).elim (hk2 i) (fun h => by obtain rfl : i = k := (by omega); exact h9)⟩ (by repeat (first | exact sl_n | refine sl_c rfl ?_)) (fun w h => h.ent (by repeat (first | exact .nil | refine .cons (by repeat (first | exact .here | apply Pick.there)) ?_)))
          · try simp only [decide_eq_true_eq, decide_eq_false_iff_not, Bool.not_eq_true', Bool.not_eq_false', Bool.and_eq_true, Bool.or_eq_true, Bool.and_eq_false_iff, Bool.or_eq_false_iff, Bool.not_true, Bool.not_false] at h8
            have r5 := acc_no (fs := fs) (hd := hd) ok0 hho (fun i hi => hk2 i (by omega))
            have hr : rkE fs nc st.length hd key = 0 := by unfold rkE; rw [if_pos r0, if_pos r3, if_neg (by rw [r4]; decide), if_neg (by rw [r5]; decide)]
            obtain ⟨ok, hw, hle, hkl, hlen, hall⟩ := users_same_of hr
            refine s_exit_to rfl ?_
            refine s_seq ?_
            refine s_region ?_
            refine o_p (p_pure rfl) rfl ?_
            refine o_nil ?_
            refine s_seq ?_
            refine s_region ?_
            refine o_p (p_fieldAddr rfl rfl fd_43_1 sz_3 rfl) rfl ?_
            first | refine o_q (q_load rfl rfl sz_3 (by repeat (first | exact .here | apply Pick.there)) rfl) rfl ?_ | refine o_q (q_load_old rfl rfl sz_3 (hs.rd0 (i := k) (by omega))) rfl ?_ | refine o_q (q_load_old rfl rfl sz_3 (ht.rd0 (i := k) (by omega))) rfl ?_ | refine o_q (q_load_old rfl rfl sz_3 (hs.rd1 (i := k) (by omega))) rfl ?_ | refine o_q (q_load_old rfl rfl sz_3 (rfl (ht.rd (i := k) (by omega)))) rfl ?_
            refine o_p (p_build (cs := [_, _, _]) rfl rfl pl_43 zr_43 rfl) rfl ?_
            refine o_h (h_alloc rfl zr_43) rfl (fun b10 _ => ?_)
            refine o_h0 (h_store rfl rfl rfl sz_43 rfl (by repeat (first | exact .here | apply Put.there)) (by simp only [setMany_length, List.length_set, List.length_cons, List.length_nil, List.length_map]; omega) rfl) (fun _ _ => ?_)
            refine o_nil ?_
            refine s_seq ?_
            refine s_seq ?_
            refine s_region ?_
            refine o_p (p_pure rfl) rfl ?_
            refine o_nil ?_
            refine s_block ?_
            refine s_loopI (α := Nat × Option Addr × Nat × List UInt8) [7, 13, 15, 16, 17, 18, 73, 74, 75, 76, 77, 78, 79, 80, 81, 82, 83, 84, 85, 86, 87, 88, 89, 90, 91, 92, 93, 94, 95, 96, 97, 98, 99, 100, 101, 102, 103, 104, 105, 106, 107, 108, 109, 110, 111, 112, 113, 114, 115, 116, 117, 118, 119, 120, 121, 122, 123, 124, 125] (fun x => [(15, .int .i64 (x.1 : Int)), (13, .string (bs x.2.2.2))]) (fun x => HS w [] [.blk b10 43 3 [.slice x.2.1 x.1 x.2.2.1, .int .i64 nc, .string (bs [])], .own (.slice x.2.1 x.1 x.2.2.1) 96 2 x.1 (flatF (rkF hd key x.1)), .blk b2 43 3 [.slice none 0 0, .int .i64 0, .string (bs [])], .blk b1 43 3 [.slice a fs.length cap, .int .i64 nc, .string (bs st)]]) (fun x => x.1 ≤ hd.length ∧ (∀ i, i < x.1 → uwOk fs hd i) ∧ x.2.2.2 = oldK fs hd x.1) (fun x => hd.length - x.1) (0, none, 0, []) ⟨by simp, fun i h => absurd h (Nat.not_lt_zero i), rfl⟩ (by repeat (first | exact sl_n | refine sl_c rfl ?_)) (fun w h => (h.own_nil 96 2).ent (by repeat (first | exact .nil | refine .cons (by repeat (first | exact .here | apply Pick.there)) ?_))) (fun ⟨k, ga, gc, old⟩ hx => ?_)
            dsimp only
            obtain ⟨hx1, hx2, hx3⟩ := hx
            simp only [] at hx1 hx2 hx3
            refine s_seq ?_
            refine s_seq ?_
            refine s_region ?_
            refine o_p (p_pure rfl) rfl ?_
            refine o_p (p_fieldAddr rfl rfl fd_43_0 sz_41 rfl) rfl ?_
            first | refine o_q (q_load rfl rfl sz_41 (by repeat (first | exact .here | apply Pick.there)) rfl) rfl ?_ | refine o_q (q_load_old rfl rfl sz_41 (hs.rd0 (i := k) (by omega))) rfl ?_ | refine o_q (q_load_old rfl rfl sz_41 (ht.rd0 (i := k) (by omega))) rfl ?_ | refine o_q (q_load_old rfl rfl sz_41 (hs.rd1 (i := k) (by omega))) rfl ?_ | refine o_q (q_load_old rfl rfl sz_41 (rfl (ht.rd (i := k) (by omega)))) rfl ?_
            first | refine o_p (p_len_slice rfl rfl Try.underlying41) rfl ?_ | refine o_q (q_len_own rfl rfl Try.underlying41 (by repeat (first | exact .here | apply Pick.there))) rfl ?_
            refine o_p (p_pure rfl) rfl ?_
            refine o_nil ?_
            refine s_cond rfl (fun h11 => ?_) (fun h11 => ?_)
            · try simp only [decide_eq_true_eq, decide_eq_false_iff_not, Bool.not_eq_true', Bool.not_eq_false', Bool.and_eq_true, Bool.or_eq_true, Bool.and_eq_false_iff, Bool.or_eq_false_iff, Bool.not_true, Bool.not_false] at h11
              have hal := hall k (by omega)
              have hwu := isWd_user hal.2.1
              have hat := at_same ok hlen (fun k hk => (hall k hk).1) (k := k) (by omega)
              have hun : unwrapE (fd hd k).1 (fd hd k).2 (fd fs k).2 = uw fs hd k := by unfold unwrapE uw; rw [if_pos hal.2.1, if_pos hal.2.2]
              refine s_skip ?_
              refine s_seq ?_
              refine s_block ?_
              refine s_seq ?_
              refine s_region ?_
              refine o_p (p_pure rfl) rfl ?_
              refine o_p (p_pure rfl) rfl ?_
              refine o_p (p_fieldAddr rfl rfl fd_43_0 sz_41 rfl) rfl ?_
              first | refine o_q (q_load rfl rfl sz_41 (by repeat (first | exact .here | apply Pick.there)) rfl) rfl ?_ | refine o_q (q_load_old rfl rfl sz_41 (hs.rd0 (i := k) (by omega))) rfl ?_ | refine o_q (q_load_old rfl rfl sz_41 (ht.rd0 (i := k) (by omega))) rfl ?_ | refine o_q (q_load_old rfl rfl sz_41 (hs.rd1 (i := k) (by omega))) rfl ?_ | refine o_q (q_load_old rfl rfl sz_41 (rfl (ht.rd (i := k) (by omega)))) rfl ?_
              refine o_p (p_pure rfl) rfl ?_
              first | refine o_p (p_indexAddr rfl rfl rfl sl_41 (k) (by omega) (by omega) rfl) rfl ?_ | refine o_p (p_indexAddr rfl rfl rfl sl_41 (k) (by omega) (by omega) (Sl.some ht (by omega))) rfl ?_ | refine o_p (p_indexAddr rfl rfl rfl sl_41 (k) (by omega) (by omega) (Sl.some hs (by omega))) rfl ?_
              refine o_p (p_fieldAddr rfl rfl fd_96_0 sz_3 rfl) rfl ?_
              first | refine o_q (q_load rfl rfl sz_3 (by repeat (first | exact .here | apply Pick.there)) rfl) rfl ?_ | refine o_q (q_load_old rfl rfl sz_3 (hs.rd0 (i := k) (by omega))) rfl ?_ | refine o_q (q_load_old rfl rfl sz_3 (ht.rd0 (i := k) (by omega))) rfl ?_ | refine o_q (q_load_old rfl rfl sz_3 (hs.rd1 (i := k) (by omega))) rfl ?_ | refine o_q (q_load_old rfl rfl sz_3 (rfl (ht.rd (i := k) (by omega)))) rfl ?_
              refine o_q (q_call rfl fn_88 rfl (fun w1 h1 => c88 w1 a2 cap2 hd (fd fs k).1 (ht.later h1) hm2)) rfl ?_
              rw [hat]
              first | refine o_p (p_indexAddr rfl rfl rfl sl_69 (k) (by omega) (by omega) rfl) rfl ?_ | refine o_p (p_indexAddr rfl rfl rfl sl_69 (k) (by omega) (by omega) (Sl.some ht (by omega))) rfl ?_ | refine o_p (p_indexAddr rfl rfl rfl sl_69 (k) (by omega) (by omega) (Sl.some hs (by omega))) rfl ?_
              first | refine o_q (q_loadn rfl rfl sz_31 (by repeat (first | exact .here | apply Pick.there)) rfl) rfl ?_ | refine o_q (q_load_oldn _ rfl rfl sz_31 hs.rd0 (i := k) (by omega)) rfl ?_ | refine o_q (q_load_oldn _ rfl rfl sz_31 ht.rd0 (i := k) (by omega)) rfl ?_ | refine o_q (q_load_oldn _ rfl rfl sz_31 hs.rd1 (i := k) (by omega)) rfl ?_ | refine o_q (q_load_oldn _ rfl rfl sz_31 rfl (ht.rd (i := k) (by omega))) rfl ?_
              refine o_h (h_alloc rfl zr_31) rfl (fun b12 _ => ?_)
              refine o_h0 (h_store rfl rfl rfl sz_31 rfl (by repeat (first | exact .here | apply Put.there)) (by simp only [setMany_length, List.length_set, List.length_cons, List.length_nil, List.length_map]; omega) rfl) (fun _ _ => ?_)
              refine o_nil ?_
              refine s_seq ?_
              refine s_draw [] mixed ?_
              first | refine d_q 0 [] rfl (q_loadn rfl rfl sz_31 (by repeat (first | exact .here | apply Pick.there)) rfl) (by kernel_rfl) (by kernel_rfl) (by kernel_rfl) rfl ?_ | refine d_q 0 [] rfl (q_load_oldn _ rfl rfl sz_31 hs.rd0 (i := k) (by omega)) (by kernel_rfl) (by kernel_rfl) (by kernel_rfl) rfl ?_ | refine d_q 0 [] rfl (q_load_oldn _ rfl rfl sz_31 ht.rd0 (i := k) (by omega)) (by kernel_rfl) (by kernel_rfl) (by kernel_rfl) rfl ?_ | refine d_q 0 [] rfl (q_load_oldn _ rfl rfl sz_31 hs.rd1 (i := k) (by omega)) (by kernel_rfl) (by kernel_rfl) (by kernel_rfl) rfl ?_ | refine d_q 0 [] rfl (q_load_oldn _ rfl rfl sz_31 rfl (ht.rd (i := k) (by omega))) (by kernel_rfl) (by kernel_rfl) (by kernel_rfl) rfl ?_
              refine d_p 1 rfl (p_fieldAddr rfl rfl fd_43_0 sz_41 rfl) (by kernel_rfl) rfl rfl ?_
              first | refine d_q 2 [] rfl (q_load rfl rfl sz_41 (by repeat (first | exact .here | apply Pick.there)) rfl) (by kernel_rfl) (by kernel_rfl) (by kernel_rfl) rfl ?_ | refine d_q 2 [] rfl (q_load_old rfl rfl sz_41 (hs.rd0 (i := k) (by omega))) (by kernel_rfl) (by kernel_rfl) (by kernel_rfl) rfl ?_ | refine d_q 2 [] rfl (q_load_old rfl rfl sz_41 (ht.rd0 (i := k) (by omega))) (by kernel_rfl) (by kernel_rfl) (by kernel_rfl) rfl ?_ | refine d_q 2 [] rfl (q_load_old rfl rfl sz_41 (hs.rd1 (i := k) (by omega))) (by kernel_rfl) (by kernel_rfl) (by kernel_rfl) rfl ?_ | refine d_q 2 [] rfl (q_load_old rfl rfl sz_41 (rfl (ht.rd (i := k) (by omega)))) (by kernel_rfl) (by kernel_rfl) (by kernel_rfl) rfl ?_
              refine d_p 3 rfl (p_pure rfl) (by kernel_rfl) rfl rfl ?_
              first | refine d_p 4 rfl (p_indexAddr rfl rfl rfl sl_41 (k) (by omega) (by omega) rfl) (by kernel_rfl) rfl rfl ?_ | refine d_p 4 rfl (p_indexAddr rfl rfl rfl sl_41 (k) (by omega) (by omega) (Sl.some ht (by omega))) (by kernel_rfl) rfl rfl ?_ | refine d_p 4 rfl (p_indexAddr rfl rfl rfl sl_41 (k) (by omega) (by omega) (Sl.some hs (by omega))) (by kernel_rfl) rfl rfl ?_
              refine d_p 5 rfl (p_fieldAddr rfl rfl fd_96_1 sz_9 rfl) (by kernel_rfl) rfl rfl ?_
              first | refine d_q 6 [] rfl (q_load rfl rfl sz_9 (by repeat (first | exact .here | apply Pick.there)) rfl) (by kernel_rfl) (by kernel_rfl) (by kernel_rfl) rfl ?_ | refine d_q 6 [] rfl (q_load_old rfl rfl sz_9 (hs.rd0 (i := k) (by omega))) (by kernel_rfl) (by kernel_rfl) (by kernel_rfl) rfl ?_ | refine d_q 6 [] rfl (q_load_old rfl rfl sz_9 (ht.rd0 (i := k) (by omega))) (by kernel_rfl) (by kernel_rfl) (by kernel_rfl) rfl ?_ | refine d_q 6 [] rfl (q_load_old rfl rfl sz_9 (hs.rd1 (i := k) (by omega))) (by kernel_rfl) (by kernel_rfl) (by kernel_rfl) rfl ?_ | refine d_q 6 [] rfl (q_load_old rfl rfl sz_9 (rfl (ht.rd (i := k) (by omega)))) (by kernel_rfl) (by kernel_rfl) (by kernel_rfl) rfl ?_
              refine d_q 7 [] rfl (q_call rfl fn_22 rfl (fun w1 h1 => c22 w1 (fd hd k).1 (fd hd k).2 (fd fs k).2)) (by kernel_rfl) (by kernel_rfl) (by kernel_rfl) rfl ?_
              rw [hun]
              refine d_p 8 rfl (p_pure rfl) (by kernel_rfl) rfl rfl ?_
              refine d_p 9 rfl (p_pure rfl) (by kernel_rfl) rfl rfl ?_
              refine d_p 10 rfl (p_pure rfl) (by kernel_rfl) rfl rfl ?_
              refine d_p 11 rfl (p_pure rfl) (by kernel_rfl) rfl rfl ?_
              refine d_p 12 rfl (p_pure rfl) (by kernel_rfl) rfl rfl ?_
              refine d_nil (by kernel_rfl) (fun w h => h.ent (by repeat (first | exact .nil | refine .cons (by repeat (first | exact .here | apply Pick.there)) ?_))) ?_
              refine s_seq ?_
              refine s_seq ?_
              refine s_region ?_
              refine o_p (p_pure rfl) rfl ?_
              refine o_p (p_pure rfl) rfl ?_
              refine o_p (p_pure rfl) rfl ?_
              refine o_or 8 104 112 _ _ rfl
                (by
                  intro hg13
                  have hs14 := hg13; try simp only [decide_eq_true_eq, decide_eq_false_iff_not, Bool.not_eq_true', Bool.not_eq_false', Bool.and_eq_true, Bool.or_eq_true, Bool.and_eq_false_iff, Bool.or_eq_false_iff, Bool.not_true, Bool.not_false] at hs14
                  refine o_on 104 _ rfl rfl hg13 ?_
                  refine o_p (p_pure rfl) rfl ?_
                  refine o_on 104 _ rfl rfl hg13 ?_
                  refine o_p (p_pure rfl) rfl ?_
                  refine o_on 104 _ rfl rfl hg13 ?_
                  refine o_p (p_pure rfl) rfl ?_
                  refine o_and 4 107 111 _ _ rfl
                    (by
                      intro hg15
                      have hs16 := hg15; try simp only [decide_eq_true_eq, decide_eq_false_iff_not, Bool.not_eq_true', Bool.not_eq_false', Bool.and_eq_true, Bool.or_eq_true, Bool.and_eq_false_iff, Bool.or_eq_false_iff, Bool.not_true, Bool.not_false] at hs16
                      refine o_on 107 _ rfl rfl hg15 ?_
                      refine o_p (p_pure rfl) rfl ?_
                      refine o_on 107 _ rfl rfl hg15 ?_
                      refine o_p (p_pure rfl) rfl ?_
                      refine o_on 107 _ rfl rfl hg15 ?_
                      refine o_p (p_pure rfl) rfl ?_
                      refine o_on 104 _ rfl rfl hg13 ?_
                      refine o_p (p_pickt rfl rfl hg15 rfl) rfl ?_
                      refine o_nil ?_
                      exact s_join () (by repeat (first | exact sl_n | refine sl_c rfl ?_)) (fun w h => by first | exact h | exact h.ent (by repeat (first | exact .nil | refine .cons (by repeat (first | exact .here | apply Pick.there)) ?_))))
                    (by
                      intro hg17
                      have hs18 := hg17; try simp only [decide_eq_true_eq, decide_eq_false_iff_not, Bool.not_eq_true', Bool.not_eq_false', Bool.and_eq_true, Bool.or_eq_true, Bool.and_eq_false_iff, Bool.or_eq_false_iff, Bool.not_true, Bool.not_false] at hs18
                      refine o_off 107 _ rfl rfl hg17 rfl ?_
                      refine o_off 107 _ rfl rfl hg17 rfl ?_
                      refine o_off 107 _ rfl rfl hg17 rfl ?_
                      refine o_on 104 _ rfl rfl hg13 ?_
                      refine o_p (p_pickf rfl rfl hg17 rfl) rfl ?_
                      refine o_nil ?_
                      exact s_join () (by repeat (first | exact sl_n | refine sl_c rfl ?_)) (fun w h => by first | exact h | exact h.ent (by repeat (first | exact .nil | refine .cons (by repeat (first | exact .here | apply Pick.there)) ?_)))) ?_
                  refine o_p (p_pickf rfl rfl hg13 rfl) rfl ?_
                  refine o_nil ?_
                  exact s_join () (by repeat (first | exact sl_n | refine sl_c rfl ?_)) (fun w h => by first | exact h | exact h.ent (by repeat (first | exact .nil | refine .cons (by repeat (first | exact .here | apply Pick.there)) ?_))))
                (by
                  intro hg19
                  have hs20 := hg19; try simp only [decide_eq_true_eq, decide_eq_false_iff_not, Bool.not_eq_true', Bool.not_eq_false', Bool.and_eq_true, Bool.or_eq_true, Bool.and_eq_false_iff, Bool.or_eq_false_iff, Bool.not_true, Bool.not_false] at hs20
                  refine o_off 104 _ rfl rfl hg19 rfl ?_
                  refine o_off 104 _ rfl rfl hg19 rfl ?_
                  refine o_off 104 _ rfl rfl hg19 rfl ?_
                  refine o_off' 107 rfl rfl rfl ?_
                  refine o_off' 107 rfl rfl rfl ?_
                  refine o_off' 107 rfl rfl rfl ?_
                  refine o_off 104 _ rfl rfl hg19 rfl ?_
                  refine o_p (p_pickt rfl rfl hg19 rfl) rfl ?_
                  refine o_nil ?_
                  exact s_join () (by repeat (first | exact sl_n | refine sl_c rfl ?_)) (fun w h => by first | exact h | exact h.ent (by repeat (first | exact .nil | refine .cons (by repeat (first | exact .here | apply Pick.there)) ?_)))) ?_
              refine o_nil ?_
              refine s_cond rfl (fun h21 => ?_) (fun h21 => ?_)
              · try simp only [decide_eq_true_eq, decide_eq_false_iff_not, Bool.not_eq_true', Bool.not_eq_false', Bool.and_eq_true, Bool.or_eq_true, Bool.and_eq_false_iff, Bool.or_eq_false_iff, Bool.not_true, Bool.not_false] at h21
                have hno : ¬ uwOk fs hd k := by have hq := h21; rw [hx3] at hq; unfold uwOk; unfold oldK at hq; grind
                refine s_seq ?_
                refine s_region ?_
                refine o_p (p_build (cs := [_, _, _]) rfl rfl pl_43 zr_43 rfl) rfl ?_
                refine o_h0 (h_store rfl rfl rfl sz_43 rfl (by repeat (first | exact .here | apply Put.there)) (by simp only [setMany_length, List.length_set, List.length_cons, List.length_nil, List.length_map]; omega) rfl) (fun _ _ => ?_)
                refine o_p (p_pure rfl) rfl ?_
                refine o_nil ?_
                exact s_retv (rs := [.cell 6 43, .tmp 7]) rfl (.cell rfl sz_43 (by repeat (first | exact .here | apply Pick.there)) rfl (.tmp rfl (.nil))) (fun w' h' => ⟨(none, 0), by rw [rkT_19 hr (by omega) hno]; rfl, trivial, by rw [rkT_19 hr (by omega) hno]; exact (h'.own_nil 96 2).ent (by repeat (first | exact .nil | refine .cons (by repeat (first | exact .here | apply Pick.there)) ?_))⟩)
              · try simp only [decide_eq_true_eq, decide_eq_false_iff_not, Bool.not_eq_true', Bool.not_eq_false', Bool.and_eq_true, Bool.or_eq_true, Bool.and_eq_false_iff, Bool.or_eq_false_iff, Bool.not_true, Bool.not_false] at h21
                have huk : uwOk fs hd k := by have hq := h21; rw [hx3] at hq; unfold uwOk; unfold oldK at hq; grind
                refine s_skip ?_
                refine s_seq ?_
                refine s_region ?_
                refine o_p (p_pure rfl) rfl ?_
                refine o_p (p_pure rfl) rfl ?_
                refine o_nil ?_
                refine s_draw [9, 11] mixed ?_
                refine d_p 0 rfl (p_fieldAddr rfl rfl fd_43_0 sz_41 rfl) (by kernel_rfl) rfl rfl ?_
                first | refine d_q 1 [[], []] rfl (q_load rfl rfl sz_41 (by repeat (first | exact .here | apply Pick.there)) rfl) (by kernel_rfl) (by kernel_rfl) (by kernel_rfl) rfl ?_ | refine d_q 1 [[], []] rfl (q_load_old rfl rfl sz_41 (hs.rd0 (i := k) (by omega))) (by kernel_rfl) (by kernel_rfl) (by kernel_rfl) rfl ?_ | refine d_q 1 [[], []] rfl (q_load_old rfl rfl sz_41 (ht.rd0 (i := k) (by omega))) (by kernel_rfl) (by kernel_rfl) (by kernel_rfl) rfl ?_ | refine d_q 1 [[], []] rfl (q_load_old rfl rfl sz_41 (hs.rd1 (i := k) (by omega))) (by kernel_rfl) (by kernel_rfl) (by kernel_rfl) rfl ?_ | refine d_q 1 [[], []] rfl (q_load_old rfl rfl sz_41 (rfl (ht.rd (i := k) (by omega)))) (by kernel_rfl) (by kernel_rfl) (by kernel_rfl) rfl ?_
                refine d_p 2 rfl (p_fieldAddr rfl rfl fd_31_0 sz_3 rfl) (by kernel_rfl) rfl rfl ?_
                first | refine d_q 3 [[8, 7], []] rfl (q_load rfl rfl sz_3 (by repeat (first | exact .here | apply Pick.there)) rfl) (by kernel_rfl) (by kernel_rfl) (by kernel_rfl) rfl ?_ | refine d_q 3 [[8, 7], []] rfl (q_load_old rfl rfl sz_3 (hs.rd0 (i := k) (by omega))) (by kernel_rfl) (by kernel_rfl) (by kernel_rfl) rfl ?_ | refine d_q 3 [[8, 7], []] rfl (q_load_old rfl rfl sz_3 (ht.rd0 (i := k) (by omega))) (by kernel_rfl) (by kernel_rfl) (by kernel_rfl) rfl ?_ | refine d_q 3 [[8, 7], []] rfl (q_load_old rfl rfl sz_3 (hs.rd1 (i := k) (by omega))) (by kernel_rfl) (by kernel_rfl) (by kernel_rfl) rfl ?_ | refine d_q 3 [[8, 7], []] rfl (q_load_old rfl rfl sz_3 (rfl (ht.rd (i := k) (by omega)))) (by kernel_rfl) (by kernel_rfl) (by kernel_rfl) rfl ?_
                first | refine d_q 4 [[6], []] rfl (q_loadn rfl rfl sz_31 (by repeat (first | exact .here | apply Pick.there)) rfl) (by kernel_rfl) (by kernel_rfl) (by kernel_rfl) rfl ?_ | refine d_q 4 [[6], []] rfl (q_load_oldn _ rfl rfl sz_31 hs.rd0 (i := k) (by omega)) (by kernel_rfl) (by kernel_rfl) (by kernel_rfl) rfl ?_ | refine d_q 4 [[6], []] rfl (q_load_oldn _ rfl rfl sz_31 ht.rd0 (i := k) (by omega)) (by kernel_rfl) (by kernel_rfl) (by kernel_rfl) rfl ?_ | refine d_q 4 [[6], []] rfl (q_load_oldn _ rfl rfl sz_31 hs.rd1 (i := k) (by omega)) (by kernel_rfl) (by kernel_rfl) (by kernel_rfl) rfl ?_ | refine d_q 4 [[6], []] rfl (q_load_oldn _ rfl rfl sz_31 rfl (ht.rd (i := k) (by omega))) (by kernel_rfl) (by kernel_rfl) (by kernel_rfl) rfl ?_
                refine d_p 5 rfl (p_pure rfl) (by kernel_rfl) rfl rfl ?_
                refine d_q 6 [[], []] rfl (q_call rfl fn_20 rfl (fun w1 h1 => c20 w1 (fd hd k).1 (fd hd k).2 key hwu.1 hwu.2.1 hkl)) (by kernel_rfl) (by kernel_rfl) (by kernel_rfl) rfl ?_
                refine d_p 7 rfl (p_build (cs := [_, _]) rfl rfl pl_96 zr_96 rfl) (by kernel_rfl) rfl rfl ?_
                refine d_h 8 rfl (h_buildSlice (cs := [_, _]) rfl rfl sl_41 zr_96 rfl rfl rfl) (by kernel_rfl) (fun w h => h.ent (by repeat (first | exact .nil | refine .cons (by repeat (first | exact .here | apply Pick.there)) ?_))) rfl (fun b22 _ => ?_)
                refine d_base (fun w h => h.ent (by repeat (first | exact .nil | refine .cons (by repeat (first | exact .here | apply Pick.there)) ?_))) ?_
                refine d_h 9 rfl (h_appendS _ rfl rfl rfl sl_41 Try.underlying41 zr_96 rfl (by repeat (first | exact .here | apply Pick.there)) (src_blk (by repeat (first | exact .here | apply Pick.there))) rfl (by intro u hu; simp only [List.mem_cons, List.mem_nil_iff, or_false] at hu; rcases hu with rfl | rfl <;> rfl) (by omega) (by simp only [maxLen]; omega)) (by kernel_rfl) (fun w h => h.ent (by repeat (first | exact .nil | refine .cons (by repeat (first | exact .here | apply Pick.there)) ?_))) rfl (fun b23 _ => ?_)
                refine d_turn [11] (by kernel_rfl) ?_
                refine d_p 10 rfl (p_fieldAddr rfl rfl fd_43_0 sz_41 rfl) (by kernel_rfl) rfl rfl ?_
                refine d_h0 11 rfl (h_store rfl rfl rfl sz_41 rfl (by repeat (first | exact .here | apply Put.there)) (by simp only [setMany_length, List.length_set, List.length_cons, List.length_nil, List.length_map]; omega) rfl) (by kernel_rfl) (fun w h => h.ent (by repeat (first | exact .nil | refine .cons (by repeat (first | exact .here | apply Pick.there)) ?_))) (fun _ _ => ?_)
                refine d_turn [] (by kernel_rfl) ?_
                refine d_nil (by kernel_rfl) (fun w h => h.ent (by repeat (first | exact .nil | refine .cons (by repeat (first | exact .here | apply Pick.there)) ?_))) ?_
                refine s_blk ?_
                refine s_region ?_
                refine o_p (p_pure rfl) rfl ?_
                refine o_p (p_pure rfl) rfl ?_
                try (refine o_slot (i64w (by omega) (by omega)) ?_)
                refine o_p (p_pure rfl) rfl ?_
                refine o_nil ?_
                exact s_backI (k + 1, _, _, (uw fs hd k).1) (by (try simp only []); omega) ⟨by (try simp only []); omega, fun i hi => (Nat.lt_or_ge i k).elim (hx2 i) (fun h => by obtain rfl : i = k := (by (try simp only [] at hi); omega); exact huk), rfl⟩ (by repeat (first | exact sl_n | refine sl_c rfl ?_)) (fun w h => by simp only [rkF_succ]; exact h.ent (by repeat (first | exact .nil | refine .cons (by repeat (first | exact .here | apply Pick.there)) ?_)))
            · try simp only [decide_eq_true_eq, decide_eq_false_iff_not, Bool.not_eq_true', Bool.not_eq_false', Bool.and_eq_true, Bool.or_eq_true, Bool.and_eq_false_iff, Bool.or_eq_false_iff, Bool.not_true, Bool.not_false] at h11
              obtain rfl : k = hd.length := by omega
              have hpos := ok.pos
              have hol : old.length = 8 := by rw [hx3, oldK, if_neg (by omega)]; exact uw_len (hall _ (by omega)).2.2 (hx2 _ (by omega)).1
              refine s_exit_to rfl ?_
              refine s_seq ?_
              refine s_draw [11] mixed ?_
              refine d_p 0 rfl (p_pure rfl) (by kernel_rfl) rfl rfl ?_
              refine d_p 1 rfl (p_fieldAddr rfl rfl fd_43_1 sz_3 rfl) (by kernel_rfl) rfl rfl ?_
              first | refine d_q 2 [[]] rfl (q_load rfl rfl sz_3 (by repeat (first | exact .here | apply Pick.there)) rfl) (by kernel_rfl) (by kernel_rfl) (by kernel_rfl) rfl ?_ | refine d_q 2 [[]] rfl (q_load_old rfl rfl sz_3 (hs.rd0 (i := k) (by omega))) (by kernel_rfl) (by kernel_rfl) (by kernel_rfl) rfl ?_ | refine d_q 2 [[]] rfl (q_load_old rfl rfl sz_3 (ht.rd0 (i := k) (by omega))) (by kernel_rfl) (by kernel_rfl) (by kernel_rfl) rfl ?_ | refine d_q 2 [[]] rfl (q_load_old rfl rfl sz_3 (hs.rd1 (i := k) (by omega))) (by kernel_rfl) (by kernel_rfl) (by kernel_rfl) rfl ?_ | refine d_q 2 [[]] rfl (q_load_old rfl rfl sz_3 (rfl (ht.rd (i := k) (by omega)))) (by kernel_rfl) (by kernel_rfl) (by kernel_rfl) rfl ?_
              refine d_p 3 rfl (p_pure rfl) (by kernel_rfl) rfl rfl ?_
              refine d_p 4 rfl (p_fieldAddr rfl rfl fd_43_1 sz_3 rfl) (by kernel_rfl) rfl rfl ?_
              first | refine d_q 5 [[]] rfl (q_load rfl rfl sz_3 (by repeat (first | exact .here | apply Pick.there)) rfl) (by kernel_rfl) (by kernel_rfl) (by kernel_rfl) rfl ?_ | refine d_q 5 [[]] rfl (q_load_old rfl rfl sz_3 (hs.rd0 (i := k) (by omega))) (by kernel_rfl) (by kernel_rfl) (by kernel_rfl) rfl ?_ | refine d_q 5 [[]] rfl (q_load_old rfl rfl sz_3 (ht.rd0 (i := k) (by omega))) (by kernel_rfl) (by kernel_rfl) (by kernel_rfl) rfl ?_ | refine d_q 5 [[]] rfl (q_load_old rfl rfl sz_3 (hs.rd1 (i := k) (by omega))) (by kernel_rfl) (by kernel_rfl) (by kernel_rfl) rfl ?_ | refine d_q 5 [[]] rfl (q_load_old rfl rfl sz_3 (rfl (ht.rd (i := k) (by omega)))) (by kernel_rfl) (by kernel_rfl) (by kernel_rfl) rfl ?_
              refine d_p 6 rfl (p_fieldAddr rfl rfl fd_43_2 sz_9 rfl) (by kernel_rfl) rfl rfl ?_
              first | refine d_q 7 [[]] rfl (q_load rfl rfl sz_9 (by repeat (first | exact .here | apply Pick.there)) rfl) (by kernel_rfl) (by kernel_rfl) (by kernel_rfl) rfl ?_ | refine d_q 7 [[]] rfl (q_load_old rfl rfl sz_9 (hs.rd0 (i := k) (by omega))) (by kernel_rfl) (by kernel_rfl) (by kernel_rfl) rfl ?_ | refine d_q 7 [[]] rfl (q_load_old rfl rfl sz_9 (ht.rd0 (i := k) (by omega))) (by kernel_rfl) (by kernel_rfl) (by kernel_rfl) rfl ?_ | refine d_q 7 [[]] rfl (q_load_old rfl rfl sz_9 (hs.rd1 (i := k) (by omega))) (by kernel_rfl) (by kernel_rfl) (by kernel_rfl) rfl ?_ | refine d_q 7 [[]] rfl (q_load_old rfl rfl sz_9 (rfl (ht.rd (i := k) (by omega)))) (by kernel_rfl) (by kernel_rfl) (by kernel_rfl) rfl ?_
              refine d_q 8 [[]] rfl (q_call rfl fn_37 rfl (fun w1 h1 => c37 w1 old nc 0 st hol hw (by omega))) (by kernel_rfl) (by kernel_rfl) (by kernel_rfl) rfl ?_
              refine d_q 9 [[]] rfl (q_call rfl fn_37 rfl (fun w1 h1 => c37 w1 key nc 0 _ hkl hw (by rw [cryptL_length]; omega))) (by kernel_rfl) (by kernel_rfl) (by kernel_rfl) rfl ?_
              refine d_p 10 rfl (p_fieldAddr rfl rfl fd_43_2 sz_9 rfl) (by kernel_rfl) rfl rfl ?_
              refine d_h0 11 rfl (h_store rfl rfl rfl sz_9 rfl (by repeat (first | exact .here | apply Put.there)) (by simp only [setMany_length, List.length_set, List.length_cons, List.length_nil, List.length_map]; omega) rfl) (by kernel_rfl) (fun w h => h.ent (by repeat (first | exact .nil | refine .cons (by repeat (first | exact .here | apply Pick.there)) ?_))) (fun _ _ => ?_)
              refine d_turn [] (by kernel_rfl) ?_
              refine d_nil (by kernel_rfl) (fun w h => h.ent (by repeat (first | exact .nil | refine .cons (by repeat (first | exact .here | apply Pick.there)) ?_))) ?_
              refine s_seq ?_
              refine s_region ?_
              first | refine o_q (q_loadn rfl rfl sz_43 (by repeat (first | exact .here | apply Pick.there)) rfl) rfl ?_ | refine o_q (q_load_oldn _ rfl rfl sz_43 hs.rd0 (i := k) (by omega)) rfl ?_ | refine o_q (q_load_oldn _ rfl rfl sz_43 ht.rd0 (i := k) (by omega)) rfl ?_ | refine o_q (q_load_oldn _ rfl rfl sz_43 hs.rd1 (i := k) (by omega)) rfl ?_ | refine o_q (q_load_oldn _ rfl rfl sz_43 rfl (ht.rd (i := k) (by omega))) rfl ?_
              refine o_h0 (h_store rfl rfl rfl sz_43 rfl (by repeat (first | exact .here | apply Put.there)) (by simp only [setMany_length, List.length_set, List.length_cons, List.length_nil, List.length_map]; omega) rfl) (fun _ _ => ?_)
              refine o_p (p_pure rfl) rfl ?_
              refine o_nil ?_
              exact s_retv (rs := [.cell 6 43, .tmp 7]) rfl (.cell rfl sz_43 (by repeat (first | exact .here | apply Pick.there)) rfl (.tmp rfl (.nil))) (fun w' h' => ⟨(ga, gc), by rw [rkT_ok hr hx2]; simp only [hx3, oldK, if_neg (show ¬ hd.length = 0 by omega), rkF_length]; rfl, trivial, by rw [rkT_ok hr hx2]; simp only [rkF_length]; exact h'.ent (by repeat (first | exact .nil | refine .cons (by repeat (first | exact .here | apply Pick.there)) ?_))⟩)

end Go.Proofs
