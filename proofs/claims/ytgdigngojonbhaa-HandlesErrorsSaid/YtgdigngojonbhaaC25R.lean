/- Contracts of the program's functions, proved by walking them with the rules of the Gx texts; without conditions beyond those that each contract names. -/
import Derived.Test.YtgdigngojonbhaaC25Q
namespace Go.Proofs
open Go Go.RowKit Gx
set_option linter.unusedVariables false
set_option linter.unusedSimpArgs false
attribute [local irreducible] Go.Calls Gx.S Gx.O Gx.D Gx.OpP Gx.OpQ Gx.OpH

theorem fn_34 : isFn Try.prog 34 = true := by kernel_rfl
theorem fn_32 : isFn Try.prog 32 = true := by kernel_rfl
theorem fn_60 : isFn Try.prog 60 = true := by kernel_rfl
theorem fn_61 : isFn Try.prog 61 = true := by kernel_rfl
theorem fn_20 : isFn Try.prog 20 = true := by kernel_rfl


theorem hdlEs_len {next : Int} {ks : List Int} {ops : List LOpn} : (hdlEs next ks (plo ops)).length = ops.length := by simp [hdlEs]
theorem filEs_len {next : Int} {L : List LFil} : (filEs next (pls L)).length = L.length := by simp [filEs]
theorem filEs_getl {next : Int} {L : List LFil} {k : Nat} (h : k < L.length) : (filEs next (pls L)).getD k 0 = filE next (pls L) k := filEs_get (by simpa using h)
theorem hdlEs_getl {next : Int} {ks : List Int} {ops : List LOpn} {k : Nat} (h : k < ops.length) : (hdlEs next ks (plo ops)).getD k 0 = hdlE next ks (plo ops) k := hdlEs_get (by simpa using h)
theorem chk_r {next : Int} {L : List LFil} (h1 : 1 ≤ next ∧ next ≤ 2147483647) (h2 : L.length ≤ 32 ∧ cntT (pls L) ≤ 32) : chkT next (pls L) = eachF (filEs next (pls L)) 0 := by
  unfold chkT filEs
  rw [if_pos h1, if_pos (by simpa using h2)]
theorem chk_1 {next : Int} {L : List LFil} (h1 : ¬ (1 ≤ next ∧ next ≤ 2147483647)) : chkT next (pls L) = (0, 2) := by
  unfold chkT
  rw [if_neg h1]
theorem chk_2 {next : Int} {L : List LFil} (h1 : 1 ≤ next ∧ next ≤ 2147483647) (h2 : ¬ (L.length ≤ 32 ∧ cntT (pls L) ≤ 32)) : chkT next (pls L) = (0, 8) := by
  unfold chkT
  rw [if_pos h1, if_neg (by simpa using h2)]
theorem chk_at {next : Int} {L : List LFil} {i : Nat} (h1 : 1 ≤ next ∧ next ≤ 2147483647) (h2 : L.length ≤ 32 ∧ cntT (pls L) ≤ 32) (h3 : eachF (filEs next (pls L)) 0 = eachF ((filEs next (pls L)).drop i) i) (hi : i < L.length) (h4 : ¬ filE next (pls L) i = 0) : chkT next (pls L) = ((i : Int), filE next (pls L) i) := by
  rw [chk_r h1 h2, h3, eachF_drop (by rw [filEs_len]; exact hi), filEs_getl hi, if_neg h4]

set_option maxRecDepth 20000 in
set_option maxHeartbeats 1000000 in
theorem c20 (w : World) (next : Int) (a : Option Addr) (cap : Nat) (L : List LFil) (hs : Ft w [] a L) (hm : L.length ≤ 1000) (hmo : ∀ f ∈ L, f.op.length ≤ 1000) : Calls Try.prog 20 #[.agg #[.int .i64 next, .slice a L.length cap]] w fun en w' => en = .returned (.tuple #[.int .i64 (chkT next (pls L)).1, .int .i64 (chkT next (pls L)).2]) ∧ Below w.heap.size w w' := by
  have hfl := filEs_len (next := next) (L := L)
  refine enter (args := [_]) Try.func20 Try.ntmps20 rfl rfl (HS.refl w []) ?_
  refine s_seq ?_
  refine s_region ?_
  refine o_h (h_box rfl rfl) rfl (fun b1 _ => ?_)
  refine o_p (p_pure rfl) rfl ?_
  refine o_p (p_pure rfl) rfl ?_
  refine o_nil ?_
  refine s_seq ?_
  refine s_seq ?_
  refine s_region ?_
  refine o_p (p_fieldAddr rfl rfl fd_26_0 sz_3 rfl) rfl ?_
  first | refine o_q (q_load rfl rfl sz_3 (by repeat (first | exact .here | apply Pick.there)) rfl) rfl ?_ | refine o_q (q_load_old rfl rfl sz_3 (rfl (Rw.rd hs.1 hil))) rfl ?_
  refine o_q (q_call rfl fn_16 rfl (fun w1 h1 => c16 w1 _ _ _)) rfl ?_
  refine o_p (p_pure rfl) rfl ?_
  refine o_nil ?_
  refine s_cond rfl (fun h2 => ?_) (fun h2 => ?_)
  · try simp only [decide_eq_true_eq, decide_eq_false_iff_not, Bool.not_eq_true', Bool.not_eq_false', Bool.and_eq_true, Bool.or_eq_true, Bool.and_eq_false_iff, Bool.or_eq_false_iff, Bool.not_true, Bool.not_false] at h2
    have hn : ¬ (1 ≤ next ∧ next ≤ 2147483647) := by have hq := h2; (try simp at hq); omega
    refine s_seq ?_
    refine s_region ?_
    refine o_p (p_pure rfl) rfl ?_
    refine o_p (p_pure rfl) rfl ?_
    refine o_nil ?_
    exact s_retv (rs := [.tmp 2, .tmp 3]) rfl (.tmp rfl (.tmp rfl (.nil))) (fun w' h' => ⟨by rw [chk_1 hn]; rfl, h'.below⟩)
  · try simp only [decide_eq_true_eq, decide_eq_false_iff_not, Bool.not_eq_true', Bool.not_eq_false', Bool.and_eq_true, Bool.or_eq_true, Bool.and_eq_false_iff, Bool.or_eq_false_iff, Bool.not_true, Bool.not_false] at h2
    have hn : 1 ≤ next ∧ next ≤ 2147483647 := by have hq := h2; (try simp at hq); omega
    refine s_skip ?_
    refine s_seq ?_
    refine s_seq ?_
    refine s_region ?_
    refine o_p (p_fieldAddr rfl rfl fd_26_1 sz_24 rfl) rfl ?_
    first | refine o_q (q_load rfl rfl sz_24 (by repeat (first | exact .here | apply Pick.there)) rfl) rfl ?_ | refine o_q (q_load_old rfl rfl sz_24 (rfl (Rw.rd hs.1 hil))) rfl ?_
    first | refine o_p (p_len_slice rfl rfl Try.underlying24) rfl ?_ | refine o_q (q_len_own rfl rfl Try.underlying24 (by repeat (first | exact .here | apply Pick.there))) rfl ?_
    refine o_p (p_pure rfl) rfl ?_
    refine o_p (p_pure rfl) rfl ?_
    refine o_or 4 17 21 _ _ rfl
      (by
        intro hg3
        have hs4 := hg3; try simp only [decide_eq_true_eq, decide_eq_false_iff_not, Bool.not_eq_true', Bool.not_eq_false', Bool.and_eq_true, Bool.or_eq_true, Bool.and_eq_false_iff, Bool.or_eq_false_iff, Bool.not_true, Bool.not_false] at hs4
        refine o_on 17 _ rfl rfl hg3 ?_
        first | refine o_q (q_loadn rfl rfl sz_26 (by repeat (first | exact .here | apply Pick.there)) rfl) rfl ?_ | refine o_q (q_load_oldn _ rfl rfl sz_26 rfl (Rw.rd hs.1 hil)) rfl ?_
        refine o_on 17 _ rfl rfl hg3 ?_
        refine o_q (q_call rfl fn_34 rfl (fun w1 h1 => c34 w1 next a cap L (hs.later h1) hm hmo)) rfl ?_
        refine o_on 17 _ rfl rfl hg3 ?_
        refine o_p (p_pure rfl) rfl ?_
        refine o_p (p_pickf rfl rfl hg3 rfl) rfl ?_
        refine o_nil ?_
        exact s_joinN 4 21 _ rfl rfl rfl (fun w h => by first | exact h | exact h.ent (by repeat (first | exact .nil | refine .cons (by repeat (first | exact .here | apply Pick.there)) ?_))))
      (by
        intro hg5
        have hs6 := hg5; try simp only [decide_eq_true_eq, decide_eq_false_iff_not, Bool.not_eq_true', Bool.not_eq_false', Bool.and_eq_true, Bool.or_eq_true, Bool.and_eq_false_iff, Bool.or_eq_false_iff, Bool.not_true, Bool.not_false] at hs6
        refine o_off 17 _ rfl rfl hg5 rfl ?_
        refine o_off 17 _ rfl rfl hg5 rfl ?_
        refine o_off 17 _ rfl rfl hg5 rfl ?_
        refine o_p (p_pickt rfl rfl hg5 rfl) rfl ?_
        refine o_nil ?_
        exact s_joinN 4 21 _ rfl rfl rfl (fun w h => by first | exact h | exact h.ent (by repeat (first | exact .nil | refine .cons (by repeat (first | exact .here | apply Pick.there)) ?_)))) ?_
    refine o_nil ?_
    refine s_cond rfl (fun h7 => ?_) (fun h7 => ?_)
    · try simp only [decide_eq_true_eq, decide_eq_false_iff_not, Bool.not_eq_true', Bool.not_eq_false', Bool.and_eq_true, Bool.or_eq_true, Bool.and_eq_false_iff, Bool.or_eq_false_iff, Bool.not_true, Bool.not_false] at h7
      have hc2 : ¬ (L.length ≤ 32 ∧ cntT (pls L) ≤ 32) := by have hq := h7; (try simp at hq); omega
      refine s_seq ?_
      refine s_region ?_
      refine o_p (p_pure rfl) rfl ?_
      refine o_p (p_pure rfl) rfl ?_
      refine o_nil ?_
      exact s_retv (rs := [.tmp 2, .tmp 3]) rfl (.tmp rfl (.tmp rfl (.nil))) (fun w' h' => ⟨by rw [chk_2 hn hc2]; rfl, h'.below⟩)
    · try simp only [decide_eq_true_eq, decide_eq_false_iff_not, Bool.not_eq_true', Bool.not_eq_false', Bool.and_eq_true, Bool.or_eq_true, Bool.and_eq_false_iff, Bool.or_eq_false_iff, Bool.not_true, Bool.not_false] at h7
      have hc2 : L.length ≤ 32 ∧ cntT (pls L) ≤ 32 := by have hq := h7; (try simp at hq); omega
      refine s_skip ?_
      refine s_seq ?_
      refine s_seq ?_
      refine s_region ?_
      refine o_p (p_pure rfl) rfl ?_
      refine o_nil ?_
      refine s_block ?_
      refine s_weaken (L' := [(1, _), (2, _), (3, _), (4, _)]) (by repeat (first | exact sl_n | refine sl_c rfl ?_)) (fun _ h => h) ?_
      refine s_loopI (α := Nat) [2, 3, 4, 5, 6, 7, 8, 22, 23, 24, 25, 26, 27, 28, 29, 30, 31, 32, 33, 34, 35, 36, 37, 38, 39, 40, 41, 42, 43, 44, 45, 46, 47, 48, 49, 50, 51, 52, 53, 54, 55, 56, 57, 58, 59, 60, 61, 62, 63, 64, 65, 66, 67, 68, 69, 70, 71, 72, 73, 74, 75, 76] (fun i => [(4, .int .i64 (i : Int))]) (fun _ => HS w [] [.blk b1 26 2 [.int .i64 next, .slice a L.length cap]]) (fun i => i ≤ L.length ∧ eachF (filEs next (pls L)) 0 = eachF ((filEs next (pls L)).drop i) i) (fun i => L.length - i) 0 ⟨Nat.zero_le _, rfl⟩ (by repeat (first | exact sl_n | refine sl_c rfl ?_)) (fun w h => h.ent (by repeat (first | exact .nil | refine .cons (by repeat (first | exact .here | apply Pick.there)) ?_))) (fun i hy => ?_)
      obtain ⟨hi1, hi2⟩ := hy
      refine s_seq ?_
      refine s_seq ?_
      refine s_region ?_
      refine o_p (p_pure rfl) rfl ?_
      refine o_p (p_fieldAddr rfl rfl fd_26_1 sz_24 rfl) rfl ?_
      first | refine o_q (q_load rfl rfl sz_24 (by repeat (first | exact .here | apply Pick.there)) rfl) rfl ?_ | refine o_q (q_load_old rfl rfl sz_24 (rfl (Rw.rd hs.1 hil))) rfl ?_
      first | refine o_p (p_len_slice rfl rfl Try.underlying24) rfl ?_ | refine o_q (q_len_own rfl rfl Try.underlying24 (by repeat (first | exact .here | apply Pick.there))) rfl ?_
      refine o_p (p_pure rfl) rfl ?_
      refine o_nil ?_
      refine s_cond rfl (fun h8 => ?_) (fun h8 => ?_)
      · try simp only [decide_eq_true_eq, decide_eq_false_iff_not, Bool.not_eq_true', Bool.not_eq_false', Bool.and_eq_true, Bool.or_eq_true, Bool.and_eq_false_iff, Bool.or_eq_false_iff, Bool.not_true, Bool.not_false] at h8
        have hil : i < L.length := by omega
        have hoi := hmo _ (mem_nth hil)
        refine s_skip ?_
        refine s_seq ?_
        refine s_block ?_
        refine s_seq ?_
        refine s_region ?_
        refine o_p (p_fieldAddr rfl rfl fd_26_1 sz_24 rfl) rfl ?_
        first | refine o_q (q_load rfl rfl sz_24 (by repeat (first | exact .here | apply Pick.there)) rfl) rfl ?_ | refine o_q (q_load_old rfl rfl sz_24 (rfl (Rw.rd hs.1 hil))) rfl ?_
        refine o_p (p_pure rfl) rfl ?_
        first | refine o_p (p_indexAddr rfl rfl rfl sl_24 (i) (by omega) (by omega) rfl) rfl ?_ | refine o_p (p_indexAddr rfl rfl rfl sl_24 (i) (by omega) (by omega) (Rw.some hs.1 (by omega))) rfl ?_
        first | refine o_q (q_loadn rfl rfl sz_77 (by repeat (first | exact .here | apply Pick.there)) rfl) rfl ?_ | refine o_q (q_load_oldn _ rfl rfl sz_77 rfl (Rw.rd hs.1 hil)) rfl ?_
        refine o_h (h_alloc rfl zr_77) rfl (fun b9 _ => ?_)
        refine o_h0 (h_store rfl rfl rfl sz_77 rfl (by repeat (first | exact .here | apply Put.there)) (by simp only [setMany_length, List.length_set, List.length_cons, List.length_nil, List.length_map]; omega) rfl) (fun _ _ => ?_)
        refine o_nil ?_
        refine s_seq ?_
        refine s_seq ?_
        refine s_region ?_
        refine o_p (p_fieldAddr rfl rfl fd_77_0 sz_42 rfl) rfl ?_
        first | refine o_q (q_loadn rfl rfl sz_42 (by repeat (first | exact .here | apply Pick.there)) rfl) rfl ?_ | refine o_q (q_load_oldn _ rfl rfl sz_42 rfl (Rw.rd hs.1 hil)) rfl ?_
        refine o_q (q_call rfl fn_32 rfl (fun w1 h1 => c32 w1 _ _)) rfl ?_
        refine o_p (p_pure rfl) rfl ?_
        refine o_nil ?_
        refine s_seq ?_
        refine s_region ?_
        refine o_p (p_pure rfl) rfl ?_
        refine o_p (p_pure rfl) rfl ?_
        refine o_nil ?_
        refine s_cond rfl (fun h10 => ?_) (fun h10 => ?_)
        · try simp only [decide_eq_true_eq, decide_eq_false_iff_not, Bool.not_eq_true', Bool.not_eq_false', Bool.and_eq_true, Bool.or_eq_true, Bool.and_eq_false_iff, Bool.or_eq_false_iff, Bool.not_true, Bool.not_false] at h10
          have hA : ¬ refE (nth L i).rc (nth L i).sq = 0 := h10
          refine s_seq ?_
          refine s_region ?_
          refine o_p (p_pure rfl) rfl ?_
          refine o_p (p_pure rfl) rfl ?_
          refine o_p (p_pure rfl) rfl ?_
          refine o_p (p_pure rfl) rfl ?_
          refine o_nil ?_
          exact s_retv (rs := [.tmp 2, .tmp 3]) rfl (.tmp rfl (.tmp rfl (.nil))) (fun w' h' => ⟨by have hfe : filE next (pls L) i = refE (nth L i).rc (nth L i).sq := (by rw [fil_r hil]; rw [if_pos hA]); rw [chk_at hn hc2 hi2 hil (by rw [hfe]; exact hA), hfe]; rfl, h'.below⟩)
        · try simp only [decide_eq_true_eq, decide_eq_false_iff_not, Bool.not_eq_true', Bool.not_eq_false', Bool.and_eq_true, Bool.or_eq_true, Bool.and_eq_false_iff, Bool.or_eq_false_iff, Bool.not_true, Bool.not_false] at h10
          have hA : refE (nth L i).rc (nth L i).sq = 0 := h10
          refine s_skip ?_
          refine s_seq ?_
          refine s_seq ?_
          refine s_weaken (L' := [(1, _), (4, _), (5, _)]) (by repeat (first | exact sl_n | refine sl_c rfl ?_)) (fun _ h => h) ?_
          refine s_cutI (α := Unit) [41, 42, 43, 44, 45, 46, 47, 48, 49, 50, 51, 52, 53, 54, 55] (fun _ => [(55, .bool (decide (¬ (i = 0 ∨ refLt ((nth L (i - 1)).rc, (nth L (i - 1)).sq) ((nth L i).rc, (nth L i).sq) = true))))]) (fun _ => HS w [] [.blk b1 26 2 [.int .i64 next, .slice a L.length cap], .blk b9 77 4 (nth L i).vals]) (fun _ => True) ?_ ?_
          · skip
            refine s_draw [] mixed ?_
            refine d_p 0 rfl (p_pure rfl) (by kernel_rfl) rfl rfl ?_
            refine d_p 1 rfl (p_pure rfl) (by kernel_rfl) rfl rfl ?_
            refine d_p 2 rfl (p_pure rfl) (by kernel_rfl) rfl rfl ?_
            apply d_split 43
            · exact rfl
            · intro hg11
              have hs12 := hg11; try simp only [decide_eq_true_eq, decide_eq_false_iff_not, Bool.not_eq_true', Bool.not_eq_false', Bool.and_eq_true, Bool.or_eq_true, Bool.and_eq_false_iff, Bool.or_eq_false_iff, Bool.not_true, Bool.not_false] at hs12
              refine d_pon 3 43 rfl rfl rfl hg11 (p_fieldAddr rfl rfl fd_26_1 sz_24 rfl) (by kernel_rfl) rfl rfl ?_
              first | refine d_qon 4 43 [] rfl rfl rfl hg11 (q_load rfl rfl sz_24 (by repeat (first | exact .here | apply Pick.there)) rfl) (by kernel_rfl) (by kernel_rfl) (by kernel_rfl) rfl ?_ | refine d_qon 4 43 [] rfl rfl rfl hg11 (q_load_old rfl rfl sz_24 (rfl (Rw.rd hs.1 hil))) (by kernel_rfl) (by kernel_rfl) (by kernel_rfl) rfl ?_
              refine d_pon 5 43 rfl rfl rfl hg11 (p_pure rfl) (by kernel_rfl) rfl rfl ?_
              refine d_pon 6 43 rfl rfl rfl hg11 (p_pure rfl) (by kernel_rfl) rfl rfl ?_
              try (refine d_slot (i64w (by omega) (by omega)) ?_)
              first | refine d_pon 7 43 rfl rfl rfl hg11 (p_indexAddr rfl rfl rfl sl_24 ((i - 1)) (by omega) (by omega) rfl) (by kernel_rfl) rfl rfl ?_ | refine d_pon 7 43 rfl rfl rfl hg11 (p_indexAddr rfl rfl rfl sl_24 ((i - 1)) (by omega) (by omega) (Rw.some hs.1 (by omega))) (by kernel_rfl) rfl rfl ?_
              refine d_pon 8 43 rfl rfl rfl hg11 (p_fieldAddr rfl rfl fd_77_0 sz_42 rfl) (by kernel_rfl) rfl rfl ?_
              refine d_qon 9 43 [] rfl rfl rfl hg11 (q_load_oldn [.int .i64 (nth L (i - 1)).rc, .int .i64 (nth L (i - 1)).sq] rfl rfl sz_42 rfl (fun j v hv => Rw.rd hs.1 (i := i - 1) (by omega) j v (by rcases j with _ | _ | j <;> first | exact hv | (simp at hv)))) (by kernel_rfl) (by kernel_rfl) (by kernel_rfl) rfl ?_
              refine d_pon 10 43 rfl rfl rfl hg11 (p_fieldAddr rfl rfl fd_77_0 sz_42 rfl) (by kernel_rfl) rfl rfl ?_
              first | refine d_qon 11 43 [] rfl rfl rfl hg11 (q_loadn rfl rfl sz_42 (by repeat (first | exact .here | apply Pick.there)) rfl) (by kernel_rfl) (by kernel_rfl) (by kernel_rfl) rfl ?_ | refine d_qon 11 43 [] rfl rfl rfl hg11 (q_load_oldn _ rfl rfl sz_42 rfl (Rw.rd hs.1 hil)) (by kernel_rfl) (by kernel_rfl) (by kernel_rfl) rfl ?_
              refine d_qon 12 43 [] rfl rfl rfl hg11 (q_call rfl fn_60 rfl (fun w1 h1 => c60 w1 _ _ _ _)) (by kernel_rfl) (by kernel_rfl) (by kernel_rfl) rfl ?_
              refine d_pon 13 43 rfl rfl rfl hg11 (p_pure rfl) (by kernel_rfl) rfl rfl ?_
              refine d_p 14 rfl (p_pickt rfl rfl hg11 rfl) (by kernel_rfl) rfl rfl ?_
              refine d_nil (by kernel_rfl) (fun w h => h.ent (by repeat (first | exact .nil | refine .cons (by repeat (first | exact .here | apply Pick.there)) ?_))) ?_
              exact s_joinI () trivial (sl_c (congrArg (fun e => some (Value.bool e)) (by have hq := hg11; simp at hq; first | (have h0 : i ≠ 0 := by omega); simp [h0] | (have h0 : i = 0 := by omega); simp [h0])) (by repeat (first | exact sl_n | refine sl_c rfl ?_))) (fun w h => h.ent (by repeat (first | exact .nil | refine .cons (by repeat (first | exact .here | apply Pick.there)) ?_)))
            · intro hg13
              have hs14 := hg13; try simp only [decide_eq_true_eq, decide_eq_false_iff_not, Bool.not_eq_true', Bool.not_eq_false', Bool.and_eq_true, Bool.or_eq_true, Bool.and_eq_false_iff, Bool.or_eq_false_iff, Bool.not_true, Bool.not_false] at hs14
              refine d_off 3 43 rfl rfl rfl hg13 (by kernel_rfl) rfl rfl ?_
              refine d_off 4 43 rfl rfl rfl hg13 (by kernel_rfl) rfl rfl ?_
              refine d_off 5 43 rfl rfl rfl hg13 (by kernel_rfl) rfl rfl ?_
              refine d_off 6 43 rfl rfl rfl hg13 (by kernel_rfl) rfl rfl ?_
              refine d_off 7 43 rfl rfl rfl hg13 (by kernel_rfl) rfl rfl ?_
              refine d_off 8 43 rfl rfl rfl hg13 (by kernel_rfl) rfl rfl ?_
              refine d_off 9 43 rfl rfl rfl hg13 (by kernel_rfl) rfl rfl ?_
              refine d_off 10 43 rfl rfl rfl hg13 (by kernel_rfl) rfl rfl ?_
              refine d_off 11 43 rfl rfl rfl hg13 (by kernel_rfl) rfl rfl ?_
              refine d_off 12 43 rfl rfl rfl hg13 (by kernel_rfl) rfl rfl ?_
              refine d_off 13 43 rfl rfl rfl hg13 (by kernel_rfl) rfl rfl ?_
              refine d_p 14 rfl (p_pickf rfl rfl hg13 rfl) (by kernel_rfl) rfl rfl ?_
              refine d_nil (by kernel_rfl) (fun w h => h.ent (by repeat (first | exact .nil | refine .cons (by repeat (first | exact .here | apply Pick.there)) ?_))) ?_
              exact s_joinI () trivial (sl_c (congrArg (fun e => some (Value.bool e)) (by have hq := hg13; simp at hq; first | (have h0 : i ≠ 0 := by omega); simp [h0] | (have h0 : i = 0 := by omega); simp [h0])) (by repeat (first | exact sl_n | refine sl_c rfl ?_))) (fun w h => h.ent (by repeat (first | exact .nil | refine .cons (by repeat (first | exact .here | apply Pick.there)) ?_)))
          · intro _ _
            refine s_cond rfl (fun h15 => ?_) (fun h15 => ?_)
            · try simp only [decide_eq_true_eq, decide_eq_false_iff_not, Bool.not_eq_true', Bool.not_eq_false', Bool.and_eq_true, Bool.or_eq_true, Bool.and_eq_false_iff, Bool.or_eq_false_iff, Bool.not_true, Bool.not_false] at h15
              have hB : ¬ (i = 0 ∨ refLt ((nth L (i - 1)).rc, (nth L (i - 1)).sq) ((nth L i).rc, (nth L i).sq) = true) := by have hq := h15; simpa using hq
              refine s_seq ?_
              refine s_region ?_
              refine o_p (p_pure rfl) rfl ?_
              refine o_p (p_pure rfl) rfl ?_
              refine o_p (p_pure rfl) rfl ?_
              refine o_nil ?_
              exact s_retv (rs := [.tmp 2, .tmp 3]) rfl (.tmp rfl (.tmp rfl (.nil))) (fun w' h' => ⟨by have hfe : filE next (pls L) i = 9 := (by rw [fil_r hil]; rw [if_neg (not_not_intro hA), if_pos hB]); rw [chk_at hn hc2 hi2 hil (by rw [hfe]; decide), hfe]; rfl, h'.below⟩)
            · try simp only [decide_eq_true_eq, decide_eq_false_iff_not, Bool.not_eq_true', Bool.not_eq_false', Bool.and_eq_true, Bool.or_eq_true, Bool.and_eq_false_iff, Bool.or_eq_false_iff, Bool.not_true, Bool.not_false] at h15
              have hB : i = 0 ∨ refLt ((nth L (i - 1)).rc, (nth L (i - 1)).sq) ((nth L i).rc, (nth L i).sq) = true := by have hq := h15; (try simp only [Bool.not_eq_true, decide_eq_false_iff_not, Decidable.not_not] at hq); first | exact hq | (by_cases h0 : i = 0 <;> simp_all)
              refine s_skip ?_
              refine s_seq ?_
              refine s_seq ?_
              refine s_region ?_
              refine o_p (p_fieldAddr rfl rfl fd_77_2 sz_75 rfl) rfl ?_
              first | refine o_q (q_load rfl rfl sz_75 (by repeat (first | exact .here | apply Pick.there)) rfl) rfl ?_ | refine o_q (q_load_old rfl rfl sz_75 (rfl (Rw.rd hs.1 hil))) rfl ?_
              first | refine o_p (p_len_slice rfl rfl Try.underlying75) rfl ?_ | refine o_q (q_len_own rfl rfl Try.underlying75 (by repeat (first | exact .here | apply Pick.there))) rfl ?_
              refine o_p (p_pure rfl) rfl ?_
              refine o_nil ?_
              refine s_cond rfl (fun h16 => ?_) (fun h16 => ?_)
              · try simp only [decide_eq_true_eq, decide_eq_false_iff_not, Bool.not_eq_true', Bool.not_eq_false', Bool.and_eq_true, Bool.or_eq_true, Bool.and_eq_false_iff, Bool.or_eq_false_iff, Bool.not_true, Bool.not_false] at h16
                have hC : (nth L i).op.length = 0 := by have hq := h16; omega
                refine s_seq ?_
                refine s_region ?_
                refine o_p (p_pure rfl) rfl ?_
                refine o_p (p_pure rfl) rfl ?_
                refine o_p (p_pure rfl) rfl ?_
                refine o_nil ?_
                exact s_retv (rs := [.tmp 2, .tmp 3]) rfl (.tmp rfl (.tmp rfl (.nil))) (fun w' h' => ⟨by have hfe : filE next (pls L) i = 17 := (by rw [fil_r hil]; rw [if_neg (not_not_intro hA), if_neg (not_not_intro hB), if_pos hC]); rw [chk_at hn hc2 hi2 hil (by rw [hfe]; decide), hfe]; rfl, h'.below⟩)
              · try simp only [decide_eq_true_eq, decide_eq_false_iff_not, Bool.not_eq_true', Bool.not_eq_false', Bool.and_eq_true, Bool.or_eq_true, Bool.and_eq_false_iff, Bool.or_eq_false_iff, Bool.not_true, Bool.not_false] at h16
                have hC : ¬ (nth L i).op.length = 0 := by have hq := h16; omega
                have hfi : filE next (pls L) i = hdlsE next (hds ((pls L).take i)) (plo (nth L i).op) := by rw [fil_r hil, if_neg (not_not_intro hA), if_neg (not_not_intro hB), if_neg hC]
                refine s_skip ?_
                refine s_seq ?_
                refine s_region ?_
                refine o_p (p_pure rfl) rfl ?_
                refine o_nil ?_
                refine s_block ?_
                refine s_loopI (α := Nat) [2, 3, 7, 8, 62, 63, 64, 65, 66, 67, 68, 69, 70, 71, 72, 73, 74, 75, 76] (fun k => [(7, .int .i64 (k : Int))]) (fun _ => HS w [] [.blk b1 26 2 [.int .i64 next, .slice a L.length cap], .blk b9 77 4 (nth L i).vals]) (fun k => k ≤ (nth L i).op.length ∧ eachF (hdlEs next (hds ((pls L).take i)) (plo (nth L i).op)) 0 = eachF ((hdlEs next (hds ((pls L).take i)) (plo (nth L i).op)).drop k) k ∧ ∀ j, j < k → hdlE next (hds ((pls L).take i)) (plo (nth L i).op) j = 0) (fun k => (nth L i).op.length - k) 0 ⟨Nat.zero_le _, rfl, fun j h => absurd h (Nat.not_lt_zero j)⟩ (by repeat (first | exact sl_n | refine sl_c rfl ?_)) (fun w h => h.ent (by repeat (first | exact .nil | refine .cons (by repeat (first | exact .here | apply Pick.there)) ?_))) (fun k hy => ?_)
                obtain ⟨hk1, hk2, hk3⟩ := hy
                refine s_seq ?_
                refine s_seq ?_
                refine s_region ?_
                refine o_p (p_pure rfl) rfl ?_
                refine o_p (p_fieldAddr rfl rfl fd_77_2 sz_75 rfl) rfl ?_
                first | refine o_q (q_load rfl rfl sz_75 (by repeat (first | exact .here | apply Pick.there)) rfl) rfl ?_ | refine o_q (q_load_old rfl rfl sz_75 (rfl (Rw.rd hs.1 hil))) rfl ?_
                first | refine o_p (p_len_slice rfl rfl Try.underlying75) rfl ?_ | refine o_q (q_len_own rfl rfl Try.underlying75 (by repeat (first | exact .here | apply Pick.there))) rfl ?_
                refine o_p (p_pure rfl) rfl ?_
                refine o_nil ?_
                refine s_cond rfl (fun h17 => ?_) (fun h17 => ?_)
                · try simp only [decide_eq_true_eq, decide_eq_false_iff_not, Bool.not_eq_true', Bool.not_eq_false', Bool.and_eq_true, Bool.or_eq_true, Bool.and_eq_false_iff, Bool.or_eq_false_iff, Bool.not_true, Bool.not_false] at h17
                  have hkl : k < (nth L i).op.length := by omega
                  refine s_skip ?_
                  refine s_seq ?_
                  refine s_block ?_
                  refine s_seq ?_
                  refine s_region ?_
                  first | refine o_q (q_loadn rfl rfl sz_26 (by repeat (first | exact .here | apply Pick.there)) rfl) rfl ?_ | refine o_q (q_load_oldn _ rfl rfl sz_26 rfl (Rw.rd hs.1 hil)) rfl ?_
                  refine o_p (p_pure rfl) rfl ?_
                  refine o_p (p_pure rfl) rfl ?_
                  refine o_q (q_call rfl fn_61 rfl (fun w1 h1 => c61 w1 next a cap L i k (hs.later h1) hm hmo hil hkl hn hk3)) rfl ?_
                  refine o_p (p_pure rfl) rfl ?_
                  refine o_nil ?_
                  refine s_seq ?_
                  refine s_region ?_
                  refine o_p (p_pure rfl) rfl ?_
                  refine o_p (p_pure rfl) rfl ?_
                  refine o_nil ?_
                  refine s_cond rfl (fun h18 => ?_) (fun h18 => ?_)
                  · try simp only [decide_eq_true_eq, decide_eq_false_iff_not, Bool.not_eq_true', Bool.not_eq_false', Bool.and_eq_true, Bool.or_eq_true, Bool.and_eq_false_iff, Bool.or_eq_false_iff, Bool.not_true, Bool.not_false] at h18
                    have hke : ¬ hdlE next (hds ((pls L).take i)) (plo (nth L i).op) k = 0 := h18
                    have hfe : filE next (pls L) i = hdlE next (hds ((pls L).take i)) (plo (nth L i).op) k := by rw [hfi]; show (eachF (hdlEs next (hds ((pls L).take i)) (plo (nth L i).op)) 0).2 = _; rw [hk2, eachF_drop (by rw [hdlEs_len]; exact hkl), hdlEs_getl hkl, if_neg hke]
                    refine s_seq ?_
                    refine s_region ?_
                    refine o_p (p_pure rfl) rfl ?_
                    refine o_p (p_pure rfl) rfl ?_
                    refine o_p (p_pure rfl) rfl ?_
                    refine o_p (p_pure rfl) rfl ?_
                    refine o_nil ?_
                    exact s_retv (rs := [.tmp 2, .tmp 3]) rfl (.tmp rfl (.tmp rfl (.nil))) (fun w' h' => ⟨by rw [chk_at hn hc2 hi2 hil (by rw [hfe]; exact hke), hfe]; rfl, h'.below⟩)
                  · try simp only [decide_eq_true_eq, decide_eq_false_iff_not, Bool.not_eq_true', Bool.not_eq_false', Bool.and_eq_true, Bool.or_eq_true, Bool.and_eq_false_iff, Bool.or_eq_false_iff, Bool.not_true, Bool.not_false] at h18
                    have hkz : hdlE next (hds ((pls L).take i)) (plo (nth L i).op) k = 0 := by have hq := h18; simpa using hq
                    refine s_skip ?_
                    refine s_blk ?_
                    refine s_region ?_
                    refine o_p (p_pure rfl) rfl ?_
                    refine o_p (p_pure rfl) rfl ?_
                    try (refine o_slot (i64w (by omega) (by omega)) ?_)
                    refine o_p (p_pure rfl) rfl ?_
                    refine o_nil ?_
                    exact s_backI (k + 1) (by omega) ⟨by omega, by rw [hk2, eachF_drop (by rw [hdlEs_len]; exact hkl), hdlEs_getl hkl, if_pos hkz], fun j hj => (Nat.lt_or_ge j k).elim (hk3 j) (fun p3 => by have e9 : j = k := (by omega); rw [e9]; exact hkz)⟩ (by repeat (first | exact sl_n | refine sl_c rfl ?_)) (fun w h => h.ent (by repeat (first | exact .nil | refine .cons (by repeat (first | exact .here | apply Pick.there)) ?_)))
                · try simp only [decide_eq_true_eq, decide_eq_false_iff_not, Bool.not_eq_true', Bool.not_eq_false', Bool.and_eq_true, Bool.or_eq_true, Bool.and_eq_false_iff, Bool.or_eq_false_iff, Bool.not_true, Bool.not_false] at h17
                  have hfz : filE next (pls L) i = 0 := by rw [hfi]; show (eachF (hdlEs next (hds ((pls L).take i)) (plo (nth L i).op)) 0).2 = 0; rw [hk2, eachF_end (by rw [hdlEs_len]; omega)]
                  refine s_exit_to rfl ?_
                  refine s_blk ?_
                  refine s_region ?_
                  refine o_p (p_pure rfl) rfl ?_
                  refine o_p (p_pure rfl) rfl ?_
                  try (refine o_slot (i64w (by omega) (by omega)) ?_)
                  refine o_p (p_pure rfl) rfl ?_
                  refine o_nil ?_
                  exact s_backI (i + 1) (by omega) ⟨by omega, by rw [hi2, eachF_drop (by omega), filEs_getl hil, if_pos hfz]⟩ (by repeat (first | exact sl_n | refine sl_c rfl ?_)) (fun w h => h.ent (by repeat (first | exact .nil | refine .cons (by repeat (first | exact .here | apply Pick.there)) ?_)))
      · try simp only [decide_eq_true_eq, decide_eq_false_iff_not, Bool.not_eq_true', Bool.not_eq_false', Bool.and_eq_true, Bool.or_eq_true, Bool.and_eq_false_iff, Bool.or_eq_false_iff, Bool.not_true, Bool.not_false] at h8
        refine s_exit_to rfl ?_
        refine s_seq ?_
        refine s_region ?_
        refine o_p (p_pure rfl) rfl ?_
        refine o_p (p_pure rfl) rfl ?_
        refine o_nil ?_
        exact s_retv (rs := [.tmp 2, .tmp 3]) rfl (.tmp rfl (.tmp rfl (.nil))) (fun w' h' => ⟨by rw [chk_r hn hc2, hi2, eachF_end (by omega)]; rfl, h'.below⟩)

set_option maxRecDepth 20000 in
theorem c31 (w : World) (next : Int) (a : Option Addr) (cap : Nat) (L : List LFil) (hs : Ft w [] a L) (hm : L.length ≤ 1000) (hmo : ∀ f ∈ L, f.op.length ≤ 1000) : Calls Try.prog 31 #[.agg #[.int .i64 next, .slice a L.length cap]] w fun en w' => en = .returned (.int .i64 (chkT next (pls L)).2) ∧ Below w.heap.size w w' := by
  refine enter (args := [_]) Try.func31 Try.ntmps31 rfl rfl (HS.refl w []) ?_
  refine s_seq ?_
  refine s_region ?_
  refine o_h (h_box rfl rfl) rfl (fun b1 _ => ?_)
  refine o_p (p_pure rfl) rfl ?_
  refine o_nil ?_
  refine s_seq ?_
  refine s_region ?_
  refine o_q (q_loadn rfl rfl sz_26 (by repeat (first | exact .here | apply Pick.there)) rfl) rfl ?_
  refine o_q (q_call rfl fn_20 rfl (fun w1 h1 => c20 w1 next a cap L (hs.later h1) hm hmo)) rfl ?_
  refine o_p (p_pure rfl) rfl ?_
  refine o_p (p_pure rfl) rfl ?_
  refine o_p (p_pure rfl) rfl ?_
  refine o_p (p_pure rfl) rfl ?_
  refine o_p (p_pure rfl) rfl ?_
  refine o_nil ?_
  refine s_seq ?_
  refine s_region ?_
  refine o_p (p_pure rfl) rfl ?_
  refine o_p (p_pure rfl) rfl ?_
  refine o_nil ?_
  exact s_retv (rs := [.tmp 2]) rfl (.tmp rfl (.nil)) (fun w' h' => ⟨rfl, h'.below⟩)

end Go.Proofs
