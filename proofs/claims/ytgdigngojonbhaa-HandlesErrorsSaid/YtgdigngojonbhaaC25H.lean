/- Contracts of the program's functions, proved by walking them with the rules of the Gx texts; without conditions beyond those that each contract names. -/
import Derived.Test.YtgdigngojonbhaaC25G
namespace Go.Proofs
open Go Go.RowKit Gx
set_option linter.unusedVariables false
set_option linter.unusedSimpArgs false
attribute [local irreducible] Go.Calls Gx.S Gx.O Gx.D Gx.OpP Gx.OpQ Gx.OpH



theorem any_locks (l : List LOpn) (q : Lock) : (l.any fun o => o.lk.any (clsh · q)) = ((plo l).any fun o => o.lk.any (clsh · q)) := by
  unfold plo
  rw [List.any_map]
  rfl
theorem lockE_loc {L : List LFil} {i k : Nat} {q : Lock} (hi : i < L.length) (hk : k < (nth L i).op.length) : firstV [.int .i64 (bif !!(hasB (nth (nth L i).op k).ac 1 || hasB (nth (nth L i).op k).ac 2) then 0 else 27), .int .i64 (bif decide (((nth (nth L i).op k).lk.length : Int) < 16) then 0 else 16), .int .i64 (bif !((nth L i).op.any fun o => o.lk.any (clsh · q)) then 0 else 29)] = lockE (pls L) i k q := by
  rw [← lockE_first, nth_pls hi, LFil.pl, nth_plo hk, anyK, any_locks]
  rfl
theorem lockE_pos {L : List Fil} {i k : Nat} {q : Lock} (h : lockE L i k q = 0) : (nth (nth L i).op k).lk.length < 16 ∧ anyK (nth L i) q = false := by
  unfold lockE at h
  grind
theorem plo_set {l : List LOpn} {k : Nat} {o : LOpn} : plo (l.set k o) = (plo l).set k o.pl := by simp [plo, List.map_set]
theorem upd_lk {L : List LFil} {i k : Nat} {u : Opn → Opn} {o : LOpn} (hi : i < L.length) (hk : k < (nth L i).op.length) (ho : o.pl = u (nth (nth L i).op k).pl) : pls (L.set i { nth L i with op := (nth L i).op.set k o }) = updO (pls L) i k u := by
  rw [pls_set, updO, updF, nth_pls hi]
  congr 1
  have e : (((nth L i).op.set k o).map LOpn.pl) = ((nth L i).op.map LOpn.pl).set k (u (nth ((nth L i).op.map LOpn.pl) k)) := by
    rw [List.map_set, ho]
    congr 2
    exact (nth_plo hk).symm
  simp only [LFil.pl]
  rw [e]
theorem lockT_e {L : List Fil} {h : Int} {q : Lock} (hn : ¬ firstV [.int .i64 (findF L h 0).2.2, .int .i64 (rngE q.fr q.cnt)] = 0) : lockT L h q = (L, firstV [.int .i64 (findF L h 0).2.2, .int .i64 (rngE q.fr q.cnt)]) := by
  have e : firstV [.int .i64 (findF L h 0).2.2, .int .i64 (rngE q.fr q.cnt)] = if (findF L h 0).2.2 = 0 then rngE q.fr q.cnt else (findF L h 0).2.2 := by
    simp only [firstV]
    grind
  rw [e] at hn ⊢
  unfold lockT
  grind
theorem firstV2 {a b : Int} : firstV [.int .i64 a, .int .i64 b] = if a = 0 then b else a := by
  simp only [firstV]
  grind

set_option maxRecDepth 20000 in
theorem c102 (w : World) (b : Nat) (h k : Lock) (hr : ∀ j v, k.vals[j]? = some v → Rd w [] b (0 + j) v) (ha : rngE h.fr h.cnt = 0) (hb : rngE k.fr k.cnt = 0) : Calls Try.prog 102 #[.agg #[.int .i64 h.fr, .int .i64 h.cnt, .bool h.ex], .pointer (some ⟨b, 0, none⟩)] w fun en w' => en = .returned (.bool (clsh h k)) ∧ Below w.heap.size w w' := by
  refine enter (args := [_, _]) Try.func102 Try.ntmps102 rfl rfl (HS.refl w []) ?_
  refine s_seq ?_
  refine s_region ?_
  refine o_h (h_box rfl rfl) rfl (fun b1 _ => ?_)
  refine o_p (p_pure rfl) rfl ?_
  refine o_nil ?_
  refine s_seq ?_
  refine s_region ?_
  first | refine o_q (q_loadn rfl rfl sz_62 (by repeat (first | exact .here | apply Pick.there)) rfl) rfl ?_ | refine o_q (q_load_oldn _ rfl rfl sz_62 rfl hr) rfl ?_
  first | refine o_q (q_loadn rfl rfl sz_62 (by repeat (first | exact .here | apply Pick.there)) rfl) rfl ?_ | refine o_q (q_load_oldn _ rfl rfl sz_62 rfl hr) rfl ?_
  refine o_q (q_call rfl fn_103 rfl (fun w1 h1 => c103 w1 h k ha hb)) rfl ?_
  refine o_p (p_pure rfl) rfl ?_
  refine o_nil ?_
  exact s_retv (rs := [.tmp 3]) rfl (.tmp rfl (.nil)) (fun w' h' => ⟨rfl, h'.below⟩)

set_option maxRecDepth 20000 in
theorem c101 (w : World) (b : Nat) (y : LOpn) (k : Lock) (hr : ∀ j v, k.vals[j]? = some v → Rd w [] b (0 + j) v) (hy : Kt w [] y.la y.lk) (ha : okL y.lk) (hm : y.lk.length ≤ 1000) (hb : rngE k.fr k.cnt = 0) : Calls Try.prog 101 #[.agg #[.int .i64 y.hd, .int .i64 y.ac, .int .i64 y.sh, .bool y.dl, .slice y.la y.lk.length y.lc], .pointer (some ⟨b, 0, none⟩)] w fun en w' => en = .returned (.bool (y.lk.any (clsh · k))) ∧ Below w.heap.size w w' := by
  refine enter (args := [_, _]) Try.func101 Try.ntmps101 rfl rfl (HS.refl w []) ?_
  refine s_seq ?_
  refine s_region ?_
  refine o_h (h_box rfl rfl) rfl (fun b1 _ => ?_)
  refine o_p (p_pure rfl) rfl ?_
  refine o_nil ?_
  refine s_seq ?_
  refine s_region ?_
  refine o_p (p_fieldAddr rfl rfl fd_48_4 sz_46 rfl) rfl ?_
  refine o_q (q_load rfl rfl sz_46 (by repeat (first | exact .here | apply Pick.there)) rfl) rfl ?_
  refine o_p (p_pure rfl) rfl ?_
  refine o_q (q_call rfl fn_87 rfl (fun w1 h1 => by have h9 := c87 w1 y.la y.lc y.lk 102 #[.pointer (some ⟨b, 0, none⟩)] (y.lk.map (clsh · k)) (hy.later h1) (by omega) (by kernel_rfl) (by simp) (fun j w2 hj h2 => by rw [map_getD_nthB hj]; exact c102 w2 b (nth y.lk j) k (fun q v hv => ((hr q v hv).next h1).next h2) (okL_nth ha hj) hb); rw [any_map_id] at h9; exact h9)) rfl ?_
  refine o_p (p_pure rfl) rfl ?_
  refine o_nil ?_
  exact s_retv (rs := [.tmp 3]) rfl (.tmp rfl (.nil)) (fun w' h' => ⟨rfl, h'.below⟩)

set_option maxRecDepth 20000 in
theorem c67 (w : World) (bt : Nat) (next : Int) (a : Option Addr) (cap : Nat) (L : List LFil) (h : Int) (q : Lock) (hw : HS w (fps [.blk bt 106 2 [.int .i64 (next), .slice a (L).length cap], .files a cap (L)]) [.blk bt 106 2 [.int .i64 (next), .slice a (L).length cap], .files a cap (L)] w) (hV : VW (pls L)) : Calls Try.prog 67 #[.pointer (some ⟨bt, 0, none⟩), .int .i64 h, .agg #[.int .i64 q.fr, .int .i64 q.cnt, .bool q.ex]] w fun en w' => ∃ g : (Option Addr × Nat) × List LFil, en = .returned (.int .i64 (lockT (pls L) h q).2) ∧ pls g.2 = (lockT (pls L) h q).1 ∧ HS w (fps [.blk bt 106 2 [.int .i64 (next), .slice a (L).length cap], .files a cap (L)]) [.blk bt 106 2 [.int .i64 (next), .slice g.1.1 (g.2).length g.1.2], .files g.1.1 g.1.2 (g.2)] w' := by
  refine enter (args := [_, _, _]) Try.func67 Try.ntmps67 rfl rfl hw ?_
  refine s_seq ?_
  refine s_region ?_
  refine o_h (h_box rfl rfl) rfl (fun b1 _ => ?_)
  refine o_p (p_pure rfl) rfl ?_
  refine o_nil ?_
  refine s_seq ?_
  refine s_region ?_
  refine o_p (p_pure rfl) rfl ?_
  refine o_p (p_pure rfl) rfl ?_
  refine o_q (q_call rfl fn_100 rfl (fun w1 h1 => c100 w1 bt _ _ L h (h1.rd_blk (Mc := []) (by repeat (first | exact .here | apply Pick.there)) rfl (by simp)) (h1.ft (by repeat (first | exact .here | apply Pick.there))) (by have := (VW.lens hV).1; omega) (fun f hf => by have := (VW.lens hV).2 f hf; omega))) rfl ?_
  refine o_p (p_pure rfl) rfl ?_
  refine o_p (p_pure rfl) rfl ?_
  refine o_p (p_pure rfl) rfl ?_
  refine o_p (p_pure rfl) rfl ?_
  refine o_p (p_pure rfl) rfl ?_
  refine o_p (p_pure rfl) rfl ?_
  refine o_p (p_pure rfl) rfl ?_
  refine o_nil ?_
  refine s_seq ?_
  refine s_seq ?_
  refine s_region ?_
  refine o_p (p_pure rfl) rfl ?_
  refine o_p (p_fieldAddr rfl rfl fd_62_0 sz_3 rfl) rfl ?_
  first | refine o_q (q_load rfl rfl sz_3 (by repeat (first | exact .here | apply Pick.there)) rfl) rfl ?_ | refine o_q (q_load_at rfl rfl sz_3 (fun w h => (h.rd_blk (Mc := []) (by repeat (first | exact .here | apply Pick.there)) rfl (by simp)))) rfl ?_ | refine o_q (q_load_at rfl rfl sz_3 (fun w h => (HS.ft (a := some ⟨ga, 0, none⟩) (cap := cap) (l := L) h (by repeat (first | exact .here | apply Pick.there))).1.rdj 3 hi rfl)) rfl ?_ | refine o_q (q_load_at rfl rfl sz_3 (fun w h => by have h9 := ((HS.ft (a := some ⟨ga, 0, none⟩) (cap := cap) (l := L) h (by repeat (first | exact .here | apply Pick.there))).at hi).1.rdj 1 hk rfl; rw [hoa] at h9; exact h9)) rfl ?_ | refine o_q (q_load_at rfl rfl sz_3 (fun w h => by have h9 := ((HS.ft (a := some ⟨ga, 0, none⟩) (cap := cap) (l := L) h (by repeat (first | exact .here | apply Pick.there))).at hi).1.rdj 4 hk rfl; rw [hoa] at h9; exact h9)) rfl ?_ | refine o_q (q_load_at rfl rfl sz_3 (fun w h => (h.rd_blk (Mc := []) (b := go) (by repeat (first | exact .here | apply Pick.there)) (by rw [flat_get ov5 _ k 4 _ (nth_get hk) (by decide)]; rfl) (by simp)))) rfl ?_
  refine o_p (p_fieldAddr rfl rfl fd_62_1 sz_3 rfl) rfl ?_
  first | refine o_q (q_load rfl rfl sz_3 (by repeat (first | exact .here | apply Pick.there)) rfl) rfl ?_ | refine o_q (q_load_at rfl rfl sz_3 (fun w h => (h.rd_blk (Mc := []) (by repeat (first | exact .here | apply Pick.there)) rfl (by simp)))) rfl ?_ | refine o_q (q_load_at rfl rfl sz_3 (fun w h => (HS.ft (a := some ⟨ga, 0, none⟩) (cap := cap) (l := L) h (by repeat (first | exact .here | apply Pick.there))).1.rdj 3 hi rfl)) rfl ?_ | refine o_q (q_load_at rfl rfl sz_3 (fun w h => by have h9 := ((HS.ft (a := some ⟨ga, 0, none⟩) (cap := cap) (l := L) h (by repeat (first | exact .here | apply Pick.there))).at hi).1.rdj 1 hk rfl; rw [hoa] at h9; exact h9)) rfl ?_ | refine o_q (q_load_at rfl rfl sz_3 (fun w h => by have h9 := ((HS.ft (a := some ⟨ga, 0, none⟩) (cap := cap) (l := L) h (by repeat (first | exact .here | apply Pick.there))).at hi).1.rdj 4 hk rfl; rw [hoa] at h9; exact h9)) rfl ?_ | refine o_q (q_load_at rfl rfl sz_3 (fun w h => (h.rd_blk (Mc := []) (b := go) (by repeat (first | exact .here | apply Pick.there)) (by rw [flat_get ov5 _ k 4 _ (nth_get hk) (by decide)]; rfl) (by simp)))) rfl ?_
  refine o_q (q_call rfl fn_94 rfl (fun w1 h1 => c94 w1 _ _)) rfl ?_
  refine o_h (h_buildSlice (cs := [_, _]) rfl rfl sl_146 zr_28 rfl rfl rfl) rfl (fun b2 _ => ?_)
  refine o_q (q_call rfl fn_52 rfl (fun w1 h1 => f52 h1 (by repeat (first | exact .here | apply Pick.there)) (by rfl) (by rfl) (by decide))) rfl ?_
  refine o_p (p_pure rfl) rfl ?_
  refine o_nil ?_
  refine s_seq ?_
  refine s_region ?_
  refine o_p (p_pure rfl) rfl ?_
  refine o_p (p_pure rfl) rfl ?_
  refine o_nil ?_
  refine s_cond rfl (fun h3 => ?_) (fun h3 => ?_)
  · try simp only [decide_eq_true_eq, decide_eq_false_iff_not, Bool.not_eq_true', Bool.not_eq_false', Bool.and_eq_true, Bool.or_eq_true, Bool.and_eq_false_iff, Bool.or_eq_false_iff, Bool.not_true, Bool.not_false] at h3
    have hq0 := h3
    rw [firstV2] at hq0
    refine s_seq ?_
    refine s_region ?_
    refine o_p (p_pure rfl) rfl ?_
    refine o_p (p_pure rfl) rfl ?_
    refine o_nil ?_
    exact s_retv (rs := [.tmp 6]) rfl (.tmp rfl (.nil)) (fun w' h' => ⟨((a, cap), L), by rw [lockT_e h3]; rfl, by rw [lockT_e h3], h'.ent (by repeat (first | exact .nil | refine .cons (by repeat (first | exact .here | apply Pick.there)) ?_))⟩)
  · try simp only [decide_eq_true_eq, decide_eq_false_iff_not, Bool.not_eq_true', Bool.not_eq_false', Bool.and_eq_true, Bool.or_eq_true, Bool.and_eq_false_iff, Bool.or_eq_false_iff, Bool.not_true, Bool.not_false] at h3
    have hz : (findF (pls L) h 0).2.2 = 0 ∧ rngE q.fr q.cnt = 0 := by have hq := h3; rw [firstV2] at hq; split at hq <;> first | exact ⟨by assumption, hq⟩ | contradiction
    obtain ⟨i, k, hfe, hi, hk, hV3⟩ := findF_some hV hz.1
    rw [hfe]
    obtain ⟨ga, rfl, hcap, hcm⟩ := files_addr (by omega) hw (.there .here)
    obtain ⟨go, hoa, hoc, hom⟩ := file_addr hi (by omega) hw (.there .here)
    dsimp only
    refine s_skip ?_
    refine s_seq ?_
    refine s_region ?_
    refine o_p (p_pure rfl) rfl ?_
    refine o_p (p_pure rfl) rfl ?_
    refine o_p (p_fieldAddr rfl rfl fd_106_0 sz_26 rfl) rfl ?_
    refine o_p (p_fieldAddr rfl rfl fd_26_1 sz_24 rfl) rfl ?_
    first | refine o_q (q_load rfl rfl sz_24 (by repeat (first | exact .here | apply Pick.there)) rfl) rfl ?_ | refine o_q (q_load_at rfl rfl sz_24 (fun w h => (h.rd_blk (Mc := []) (by repeat (first | exact .here | apply Pick.there)) rfl (by simp)))) rfl ?_ | refine o_q (q_load_at rfl rfl sz_24 (fun w h => (HS.ft (a := some ⟨ga, 0, none⟩) (cap := cap) (l := L) h (by repeat (first | exact .here | apply Pick.there))).1.rdj 3 hi rfl)) rfl ?_ | refine o_q (q_load_at rfl rfl sz_24 (fun w h => by have h9 := ((HS.ft (a := some ⟨ga, 0, none⟩) (cap := cap) (l := L) h (by repeat (first | exact .here | apply Pick.there))).at hi).1.rdj 1 hk rfl; rw [hoa] at h9; exact h9)) rfl ?_ | refine o_q (q_load_at rfl rfl sz_24 (fun w h => by have h9 := ((HS.ft (a := some ⟨ga, 0, none⟩) (cap := cap) (l := L) h (by repeat (first | exact .here | apply Pick.there))).at hi).1.rdj 4 hk rfl; rw [hoa] at h9; exact h9)) rfl ?_ | refine o_q (q_load_at rfl rfl sz_24 (fun w h => (h.rd_blk (Mc := []) (b := go) (by repeat (first | exact .here | apply Pick.there)) (by rw [flat_get ov5 _ k 4 _ (nth_get hk) (by decide)]; rfl) (by simp)))) rfl ?_
    refine o_p (p_pure rfl) rfl ?_
    first | refine o_p (p_indexAddr rfl rfl rfl sl_24 (i) (by omega) (by omega) rfl) rfl ?_ | refine o_p (p_indexAddr rfl rfl rfl sl_24 (i) (by omega) (by omega) hoa) rfl ?_
    refine o_q (q_load_atn _ rfl rfl sz_77 rfl (fun w h => Rw.rd (HS.ft (a := some ⟨ga, 0, none⟩) (cap := cap) (l := L) h (by repeat (first | exact .here | apply Pick.there))).1 hi)) rfl ?_
    refine o_h (h_alloc rfl zr_77) rfl (fun b4 _ => ?_)
    refine o_h0 (h_store rfl rfl rfl sz_77 rfl (by repeat (first | exact .here | apply Put.there)) (by simp only [setMany_length, List.length_set, List.length_cons, List.length_nil, List.length_map]; omega) rfl) (fun _ _ => ?_)
    refine o_nil ?_
    refine s_seq ?_
    refine s_weaken (L' := [(5, _), (6, _), (8, _), (10, _)]) (by repeat (first | exact sl_n | refine sl_c rfl ?_)) (fun _ h => h) ?_
    refine s_region ?_
    refine o_p (p_fieldAddr rfl rfl fd_77_2 sz_75 rfl) rfl ?_
    first | refine o_q (q_load rfl rfl sz_75 (by repeat (first | exact .here | apply Pick.there)) rfl) rfl ?_ | refine o_q (q_load_at rfl rfl sz_75 (fun w h => (h.rd_blk (Mc := []) (by repeat (first | exact .here | apply Pick.there)) rfl (by simp)))) rfl ?_ | refine o_q (q_load_at rfl rfl sz_75 (fun w h => (HS.ft (a := some ⟨ga, 0, none⟩) (cap := cap) (l := L) h (by repeat (first | exact .here | apply Pick.there))).1.rdj 3 hi rfl)) rfl ?_ | refine o_q (q_load_at rfl rfl sz_75 (fun w h => by have h9 := ((HS.ft (a := some ⟨ga, 0, none⟩) (cap := cap) (l := L) h (by repeat (first | exact .here | apply Pick.there))).at hi).1.rdj 1 hk rfl; rw [hoa] at h9; exact h9)) rfl ?_ | refine o_q (q_load_at rfl rfl sz_75 (fun w h => by have h9 := ((HS.ft (a := some ⟨ga, 0, none⟩) (cap := cap) (l := L) h (by repeat (first | exact .here | apply Pick.there))).at hi).1.rdj 4 hk rfl; rw [hoa] at h9; exact h9)) rfl ?_ | refine o_q (q_load_at rfl rfl sz_75 (fun w h => (h.rd_blk (Mc := []) (b := go) (by repeat (first | exact .here | apply Pick.there)) (by rw [flat_get ov5 _ k 4 _ (nth_get hk) (by decide)]; rfl) (by simp)))) rfl ?_
    refine o_p (p_pure rfl) rfl ?_
    first | refine o_p (p_indexAddr rfl rfl rfl sl_75 (k) (by omega) (by omega) rfl) rfl ?_ | refine o_p (p_indexAddr rfl rfl rfl sl_75 (k) (by omega) (by omega) hoa) rfl ?_
    refine o_p (p_pure rfl) rfl ?_
    refine o_nil ?_
    refine s_seq ?_
    refine s_region ?_
    refine o_p (p_fieldAddr rfl rfl fd_77_2 sz_75 rfl) rfl ?_
    first | refine o_q (q_load rfl rfl sz_75 (by repeat (first | exact .here | apply Pick.there)) rfl) rfl ?_ | refine o_q (q_load_at rfl rfl sz_75 (fun w h => (h.rd_blk (Mc := []) (by repeat (first | exact .here | apply Pick.there)) rfl (by simp)))) rfl ?_ | refine o_q (q_load_at rfl rfl sz_75 (fun w h => (HS.ft (a := some ⟨ga, 0, none⟩) (cap := cap) (l := L) h (by repeat (first | exact .here | apply Pick.there))).1.rdj 3 hi rfl)) rfl ?_ | refine o_q (q_load_at rfl rfl sz_75 (fun w h => by have h9 := ((HS.ft (a := some ⟨ga, 0, none⟩) (cap := cap) (l := L) h (by repeat (first | exact .here | apply Pick.there))).at hi).1.rdj 1 hk rfl; rw [hoa] at h9; exact h9)) rfl ?_ | refine o_q (q_load_at rfl rfl sz_75 (fun w h => by have h9 := ((HS.ft (a := some ⟨ga, 0, none⟩) (cap := cap) (l := L) h (by repeat (first | exact .here | apply Pick.there))).at hi).1.rdj 4 hk rfl; rw [hoa] at h9; exact h9)) rfl ?_ | refine o_q (q_load_at rfl rfl sz_75 (fun w h => (h.rd_blk (Mc := []) (b := go) (by repeat (first | exact .here | apply Pick.there)) (by rw [flat_get ov5 _ k 4 _ (nth_get hk) (by decide)]; rfl) (by simp)))) rfl ?_
    refine o_p (p_pure rfl) rfl ?_
    refine o_q (q_call rfl fn_95 rfl (fun w1 h1 => by have hot := (HS.ft (a := some ⟨ga, 0, none⟩) (cap := cap) (l := L) h1 (by repeat (first | exact .here | apply Pick.there))).at hi; have h9 := c95 w1 _ (nth L i).oc (nth L i).op 101 #[.pointer (some ⟨b1, 0, none⟩)] ((nth L i).op.map fun o => o.lk.any (clsh · q)) hot.1 (by have := (VW.lens hV).2 _ (mem_nth hi); omega) (by kernel_rfl) (by simp) (fun j w2 hj h2 => by rw [map_getD_nthB hj]; exact c101 w2 b1 _ q (fun p v hv => by rw [Nat.zero_add]; exact (h1.rd_blk (Mc := []) (by repeat (first | exact .here | apply Pick.there)) hv (by simp)).next h2) ((hot.at hj).later h2) (VW.at hV hi hj).2.1 (by have := (VW.at hV hi hj).2.2; omega) hz.2); rw [any_map_id] at h9; exact h9)) rfl ?_
    refine o_p (p_pure rfl) rfl ?_
    refine o_nil ?_
    refine s_seq ?_
    refine s_seq ?_
    refine s_draw [] mixed ?_
    refine d_p 0 rfl (p_pure rfl) (by kernel_rfl) rfl rfl ?_
    refine d_p 1 rfl (p_pure rfl) (by kernel_rfl) rfl rfl ?_
    refine d_p 2 rfl (p_fieldAddr rfl rfl fd_48_1 sz_3 rfl) (by kernel_rfl) rfl rfl ?_
    first | refine d_q 3 [] rfl (q_load rfl rfl sz_3 (by repeat (first | exact .here | apply Pick.there)) rfl) (by kernel_rfl) (by kernel_rfl) (by kernel_rfl) rfl ?_ | refine d_q 3 [] rfl (q_load_at rfl rfl sz_3 (fun w h => (h.rd_blk (Mc := []) (by repeat (first | exact .here | apply Pick.there)) rfl (by simp)))) (by kernel_rfl) (by kernel_rfl) (by kernel_rfl) rfl ?_ | refine d_q 3 [] rfl (q_load_at rfl rfl sz_3 (fun w h => (HS.ft (a := some ⟨ga, 0, none⟩) (cap := cap) (l := L) h (by repeat (first | exact .here | apply Pick.there))).1.rdj 3 hi rfl)) (by kernel_rfl) (by kernel_rfl) (by kernel_rfl) rfl ?_ | refine d_q 3 [] rfl (q_load_at rfl rfl sz_3 (fun w h => by have h9 := ((HS.ft (a := some ⟨ga, 0, none⟩) (cap := cap) (l := L) h (by repeat (first | exact .here | apply Pick.there))).at hi).1.rdj 1 hk rfl; rw [hoa] at h9; exact h9)) (by kernel_rfl) (by kernel_rfl) (by kernel_rfl) rfl ?_ | refine d_q 3 [] rfl (q_load_at rfl rfl sz_3 (fun w h => by have h9 := ((HS.ft (a := some ⟨ga, 0, none⟩) (cap := cap) (l := L) h (by repeat (first | exact .here | apply Pick.there))).at hi).1.rdj 4 hk rfl; rw [hoa] at h9; exact h9)) (by kernel_rfl) (by kernel_rfl) (by kernel_rfl) rfl ?_ | refine d_q 3 [] rfl (q_load_at rfl rfl sz_3 (fun w h => (h.rd_blk (Mc := []) (b := go) (by repeat (first | exact .here | apply Pick.there)) (by rw [flat_get ov5 _ k 4 _ (nth_get hk) (by decide)]; rfl) (by simp)))) (by kernel_rfl) (by kernel_rfl) (by kernel_rfl) rfl ?_
    refine d_p 4 rfl (p_pure rfl) (by kernel_rfl) rfl rfl ?_
    refine d_p 5 rfl (p_pure rfl) (by kernel_rfl) rfl rfl ?_
    refine d_slot (show _ = Value.bool (!!(hasB (nth (nth L i).op k).ac 1 || hasB (nth (nth L i).op k).ac 2)) from by rw [(and_8 (x := (nth (nth L i).op k).ac) (by have := openE_r hV3.1; omega)).2.2.2]) ?_
    refine d_q 6 [] rfl (q_call rfl fn_48 rfl (fun w1 h1 => c48 w1 _ _)) (by kernel_rfl) (by kernel_rfl) (by kernel_rfl) rfl ?_
    refine d_p 7 rfl (p_pure rfl) (by kernel_rfl) rfl rfl ?_
    refine d_p 8 rfl (p_pure rfl) (by kernel_rfl) rfl rfl ?_
    refine d_p 9 rfl (p_fieldAddr rfl rfl fd_48_4 sz_46 rfl) (by kernel_rfl) rfl rfl ?_
    first | refine d_q 10 [] rfl (q_load rfl rfl sz_46 (by repeat (first | exact .here | apply Pick.there)) rfl) (by kernel_rfl) (by kernel_rfl) (by kernel_rfl) rfl ?_ | refine d_q 10 [] rfl (q_load_at rfl rfl sz_46 (fun w h => (h.rd_blk (Mc := []) (by repeat (first | exact .here | apply Pick.there)) rfl (by simp)))) (by kernel_rfl) (by kernel_rfl) (by kernel_rfl) rfl ?_ | refine d_q 10 [] rfl (q_load_at rfl rfl sz_46 (fun w h => (HS.ft (a := some ⟨ga, 0, none⟩) (cap := cap) (l := L) h (by repeat (first | exact .here | apply Pick.there))).1.rdj 3 hi rfl)) (by kernel_rfl) (by kernel_rfl) (by kernel_rfl) rfl ?_ | refine d_q 10 [] rfl (q_load_at rfl rfl sz_46 (fun w h => by have h9 := ((HS.ft (a := some ⟨ga, 0, none⟩) (cap := cap) (l := L) h (by repeat (first | exact .here | apply Pick.there))).at hi).1.rdj 1 hk rfl; rw [hoa] at h9; exact h9)) (by kernel_rfl) (by kernel_rfl) (by kernel_rfl) rfl ?_ | refine d_q 10 [] rfl (q_load_at rfl rfl sz_46 (fun w h => by have h9 := ((HS.ft (a := some ⟨ga, 0, none⟩) (cap := cap) (l := L) h (by repeat (first | exact .here | apply Pick.there))).at hi).1.rdj 4 hk rfl; rw [hoa] at h9; exact h9)) (by kernel_rfl) (by kernel_rfl) (by kernel_rfl) rfl ?_ | refine d_q 10 [] rfl (q_load_at rfl rfl sz_46 (fun w h => (h.rd_blk (Mc := []) (b := go) (by repeat (first | exact .here | apply Pick.there)) (by rw [flat_get ov5 _ k 4 _ (nth_get hk) (by decide)]; rfl) (by simp)))) (by kernel_rfl) (by kernel_rfl) (by kernel_rfl) rfl ?_
    first | refine d_p 11 rfl (p_len_slice rfl rfl Try.underlying46) (by kernel_rfl) rfl rfl ?_ | refine d_q 11 [] rfl (q_len_own rfl rfl Try.underlying46 (by repeat (first | exact .here | apply Pick.there))) (by kernel_rfl) (by kernel_rfl) (by kernel_rfl) rfl ?_
    refine d_p 12 rfl (p_pure rfl) (by kernel_rfl) rfl rfl ?_
    refine d_q 13 [] rfl (q_call rfl fn_48 rfl (fun w1 h1 => c48 w1 _ _)) (by kernel_rfl) (by kernel_rfl) (by kernel_rfl) rfl ?_
    refine d_p 14 rfl (p_pure rfl) (by kernel_rfl) rfl rfl ?_
    refine d_p 15 rfl (p_pure rfl) (by kernel_rfl) rfl rfl ?_
    refine d_q 16 [] rfl (q_call rfl fn_48 rfl (fun w1 h1 => c48 w1 _ _)) (by kernel_rfl) (by kernel_rfl) (by kernel_rfl) rfl ?_
    refine d_h 17 rfl (h_buildSlice (cs := [_, _, _]) rfl rfl sl_146 zr_28 rfl rfl rfl) (by kernel_rfl) (fun w h => h.ent (by repeat (first | exact .nil | refine .cons (by repeat (first | exact .here | apply Pick.there)) ?_))) rfl (fun b5 _ => ?_)
    refine d_base (fun w h => h.ent (by repeat (first | exact .nil | refine .cons (by repeat (first | exact .here | apply Pick.there)) ?_))) ?_
    refine d_q 18 [] rfl (q_call rfl fn_52 rfl (fun w1 h1 => f52 h1 (by repeat (first | exact .here | apply Pick.there)) (by rfl) (by rfl) (by decide))) (by kernel_rfl) (by kernel_rfl) (by kernel_rfl) rfl ?_
    refine d_p 19 rfl (p_pure rfl) (by kernel_rfl) rfl rfl ?_
    refine d_nil (by kernel_rfl) (fun w h => h.ent (by repeat (first | exact .nil | refine .cons (by repeat (first | exact .here | apply Pick.there)) ?_))) ?_
    refine s_seq ?_
    refine s_weaken (L' := [(5, _), (6, _), (11, _), (13, _)]) (by repeat (first | exact sl_n | refine sl_c rfl ?_)) (fun _ h => h) ?_
    refine s_region ?_
    refine o_p (p_pure rfl) rfl ?_
    refine o_p (p_pure rfl) rfl ?_
    refine o_nil ?_
    refine s_cond rfl (fun h6 => ?_) (fun h6 => ?_)
    · try simp only [decide_eq_true_eq, decide_eq_false_iff_not, Bool.not_eq_true', Bool.not_eq_false', Bool.and_eq_true, Bool.or_eq_true, Bool.and_eq_false_iff, Bool.or_eq_false_iff, Bool.not_true, Bool.not_false] at h6
      have hle : ¬ lockE (pls L) i k q = 0 := by rw [← lockE_loc hi hk]; exact h6
      refine s_seq ?_
      refine s_region ?_
      refine o_p (p_pure rfl) rfl ?_
      refine o_p (p_pure rfl) rfl ?_
      refine o_nil ?_
      exact s_retv (rs := [.tmp 6]) rfl (.tmp rfl (.nil)) (fun w' h' => ⟨((some ⟨ga, 0, none⟩, cap), L), by rw [lockT, hfe]; simp only [if_true]; rw [if_pos hz.2, if_neg hle, ← lockE_loc hi hk]; rfl, by rw [lockT, hfe]; simp only [if_true]; rw [if_pos hz.2, if_neg hle], h'.ent (by repeat (first | exact .nil | refine .cons (by repeat (first | exact .here | apply Pick.there)) ?_))⟩)
    · try simp only [decide_eq_true_eq, decide_eq_false_iff_not, Bool.not_eq_true', Bool.not_eq_false', Bool.and_eq_true, Bool.or_eq_true, Bool.and_eq_false_iff, Bool.or_eq_false_iff, Bool.not_true, Bool.not_false] at h6
      have hle : lockE (pls L) i k q = 0 := by rw [← lockE_loc hi hk]; exact h6
      have hlp := lockE_pos hle
      have hl16 : (nth (nth L i).op k).lk.length ≤ 16 := hV3.2.2
      refine s_class (fun w h => HS.lock_at hi hk hoa h (by repeat (first | exact .here | apply Pick.there))) ?_
      refine s_skip ?_
      refine s_seq ?_
      refine s_draw [7, 10] mixed ?_
      refine d_p 0 rfl (p_pure rfl) (by kernel_rfl) rfl rfl ?_
      refine d_p 1 rfl (p_pure rfl) (by kernel_rfl) rfl rfl ?_
      refine d_p 2 rfl (p_pure rfl) (by kernel_rfl) rfl rfl ?_
      refine d_p 3 rfl (p_fieldAddr rfl rfl fd_48_4 sz_46 rfl) (by kernel_rfl) rfl rfl ?_
      refine d_slot (show _ = Value.pointer (some ⟨go, k * 5 + 4, none⟩) from by rw [Nat.zero_add]) ?_
      first | refine d_q 4 [[], []] rfl (q_load rfl rfl sz_46 (by repeat (first | exact .here | apply Pick.there)) rfl) (by kernel_rfl) (by kernel_rfl) (by kernel_rfl) rfl ?_ | refine d_q 4 [[], []] rfl (q_load_at rfl rfl sz_46 (fun w h => (h.rd_blk (Mc := []) (by repeat (first | exact .here | apply Pick.there)) rfl (by simp)))) (by kernel_rfl) (by kernel_rfl) (by kernel_rfl) rfl ?_ | refine d_q 4 [[], []] rfl (q_load_at rfl rfl sz_46 (fun w h => (HS.ft (a := some ⟨ga, 0, none⟩) (cap := cap) (l := L) h (by repeat (first | exact .here | apply Pick.there))).1.rdj 3 hi rfl)) (by kernel_rfl) (by kernel_rfl) (by kernel_rfl) rfl ?_ | refine d_q 4 [[], []] rfl (q_load_at rfl rfl sz_46 (fun w h => by have h9 := ((HS.ft (a := some ⟨ga, 0, none⟩) (cap := cap) (l := L) h (by repeat (first | exact .here | apply Pick.there))).at hi).1.rdj 1 hk rfl; rw [hoa] at h9; exact h9)) (by kernel_rfl) (by kernel_rfl) (by kernel_rfl) rfl ?_ | refine d_q 4 [[], []] rfl (q_load_at rfl rfl sz_46 (fun w h => by have h9 := ((HS.ft (a := some ⟨ga, 0, none⟩) (cap := cap) (l := L) h (by repeat (first | exact .here | apply Pick.there))).at hi).1.rdj 4 hk rfl; rw [hoa] at h9; exact h9)) (by kernel_rfl) (by kernel_rfl) (by kernel_rfl) rfl ?_ | refine d_q 4 [[], []] rfl (q_load_at rfl rfl sz_46 (fun w h => (h.rd_blk (Mc := []) (b := go) (by repeat (first | exact .here | apply Pick.there)) (by rw [flat_get ov5 _ k 4 _ (nth_get hk) (by decide)]; rfl) (by simp)))) (by kernel_rfl) (by kernel_rfl) (by kernel_rfl) rfl ?_
      first | refine d_q 5 [[6], []] rfl (q_loadn rfl rfl sz_62 (by repeat (first | exact .here | apply Pick.there)) rfl) (by kernel_rfl) (by kernel_rfl) (by kernel_rfl) rfl ?_ | refine d_q 5 [[6], []] rfl (q_load_atn _ rfl rfl sz_62 fun w h => (h.rd_blk (Mc := []) (by repeat (first | exact .here | apply Pick.there)) rfl (by simp))) (by kernel_rfl) (by kernel_rfl) (by kernel_rfl) rfl ?_ | refine d_q 5 [[6], []] rfl (q_load_atn _ rfl rfl sz_62 fun w h => (HS.ft (a := some ⟨ga, 0, none⟩) (cap := cap) (l := L) h (by repeat (first | exact .here | apply Pick.there))).1.rdj 3 hi rfl) (by kernel_rfl) (by kernel_rfl) (by kernel_rfl) rfl ?_ | refine d_q 5 [[6], []] rfl (q_load_atn _ rfl rfl sz_62 fun w h => by have h9 := ((HS.ft (a := some ⟨ga, 0, none⟩) (cap := cap) (l := L) h (by repeat (first | exact .here | apply Pick.there))).at hi).1.rdj 1 hk rfl; rw [hoa] at h9; exact h9) (by kernel_rfl) (by kernel_rfl) (by kernel_rfl) rfl ?_ | refine d_q 5 [[6], []] rfl (q_load_atn _ rfl rfl sz_62 fun w h => by have h9 := ((HS.ft (a := some ⟨ga, 0, none⟩) (cap := cap) (l := L) h (by repeat (first | exact .here | apply Pick.there))).at hi).1.rdj 4 hk rfl; rw [hoa] at h9; exact h9) (by kernel_rfl) (by kernel_rfl) (by kernel_rfl) rfl ?_ | refine d_q 5 [[6], []] rfl (q_load_atn _ rfl rfl sz_62 fun w h => (h.rd_blk (Mc := []) (b := go) (by repeat (first | exact .here | apply Pick.there)) (by rw [flat_get ov5 _ k 4 _ (nth_get hk) (by decide)]; rfl) (by simp))) (by kernel_rfl) (by kernel_rfl) (by kernel_rfl) rfl ?_
      refine d_h 6 rfl (h_buildSlice (cs := [_, _, _]) rfl rfl sl_46 zr_62 rfl rfl rfl) (by kernel_rfl) (fun w h => h.ent (by repeat (first | exact .nil | refine .cons (by repeat (first | exact .here | apply Pick.there)) ?_))) rfl (fun b7 _ => ?_)
      refine d_base (fun w h => h.ent (by repeat (first | exact .nil | refine .cons (by repeat (first | exact .here | apply Pick.there)) ?_))) ?_
      refine d_h 7 rfl (h_appendS (n := (nth (nth L i).op k).lk.length) q.vals rfl rfl rfl sl_46 Try.underlying46 zr_62 rfl (by repeat (first | exact .here | apply Pick.there)) (src_blk (by repeat (first | exact .here | apply Pick.there))) rfl (lv1 q) (by omega) (by simp only [maxLen]; omega)) (by kernel_rfl) (fun w h => h.ent (by repeat (first | exact .nil | refine .cons (by repeat (first | exact .here | apply Pick.there)) ?_))) rfl (fun b8 _ => ?_)
      refine d_turn [10] (by kernel_rfl) ?_
      refine d_p 8 rfl (p_pure rfl) (by kernel_rfl) rfl rfl ?_
      refine d_p 9 rfl (p_fieldAddr rfl rfl fd_48_4 sz_46 rfl) (by kernel_rfl) rfl rfl ?_
      refine d_slot (show _ = Value.pointer (some ⟨go, k * 5 + 4, none⟩) from by rw [Nat.zero_add]) ?_
      refine d_h0 10 rfl (h_store rfl rfl rfl sz_46 rfl (by repeat (first | exact .here | apply Put.there)) (by rw [flat_length ov5]; omega) rfl) (by kernel_rfl) (fun w h => h.ent (by repeat (first | exact .nil | refine .cons (by repeat (first | exact .here | apply Pick.there)) ?_))) (fun _ _ => ?_)
      refine d_turn [] (by kernel_rfl) ?_
      refine d_nil (by kernel_rfl) (fun w h => h.ent (by repeat (first | exact .nil | refine .cons (by repeat (first | exact .here | apply Pick.there)) ?_))) ?_
      refine s_seq ?_
      refine s_region ?_
      refine o_p (p_pure rfl) rfl ?_
      refine o_nil ?_
      exact s_retv (rs := [.tmp 6]) rfl (.tmp rfl (.nil)) (fun w' h' => ⟨((some ⟨ga, 0, none⟩, cap), L.set i { nth L i with op := (nth L i).op.set k { (nth (nth L i).op k) with la := b8.1, lc := b8.2, lk := (nth (nth L i).op k).lk ++ [q] } }), by rw [lockT, hfe]; simp only [if_true]; rw [if_pos hz.2, if_pos hle]; rfl, by rw [lockT, hfe]; simp only [if_true]; rw [if_pos hz.2, if_pos hle]; exact upd_lk (o := { (nth (nth L i).op k) with la := b8.1, lc := b8.2, lk := (nth (nth L i).op k).lk ++ [q] }) (u := fun o => { o with lk := o.lk ++ [q] }) hi hk rfl, by have h2 := HS.lock_put (o := { (nth (nth L i).op k) with la := b8.1, lc := b8.2, lk := (nth (nth L i).op k).lk ++ [q] }) hi hk hoa (h'.ent (Bs := [.blk go 48 ((nth L i).oc * 5) _, .own (.slice b8.1 ((nth (nth L i).op k).lk.length + 1) b8.2) 62 3 ((nth (nth L i).op k).lk.length + 1) ((nth (nth L i).op k).lk.flatMap Lock.vals ++ q.vals), .star ((others (nth L i).op k).map subO), .blk ga 77 (cap * 4) (L.flatMap LFil.vals), .star ((others L i).map subF), .blk bt 106 2 [.int .i64 next, .slice (some ⟨ga, 0, none⟩) L.length cap]]) (by repeat (first | exact .nil | refine .cons (by repeat (first | exact .here | apply Pick.there)) ?_)) |> fun hh => by simpa [HA.locks, List.flatMap_append] using hh) (flat_set ov5 (nth L i).op k 4 [.slice b8.1 ((nth (nth L i).op k).lk.length + 1) b8.2] (nth (nth L i).op k) _ (nth_get hk) (by simp [LOpn.vals, setMany]) (by simp)) hoc hom hcap hcm; rw [List.length_set]; exact h2.ent (by repeat (first | exact .nil | refine .cons (by repeat (first | exact .here | apply Pick.there)) ?_))⟩)

end Go.Proofs
