/- Contracts of the program's functions, proved by walking them with the rules of the Gx texts; without conditions beyond those that each contract names. -/
import Derived.Test.YtgdigngojonbhaaC25F
import Derived.Test.YtgdigngojonbhaaGxHandles2
namespace Go.Proofs
open Go Go.RowKit Gx
set_option linter.unusedVariables false
set_option linter.unusedSimpArgs false
attribute [local irreducible] Go.Calls Gx.S Gx.O Gx.D Gx.OpP Gx.OpQ Gx.OpH

theorem fn_100 : isFn Try.prog 100 = true := by kernel_rfl
theorem fd_77_1 : tfd Try.prog 77 1 = some (2, 4) := by kernel_rfl


theorem and_all : ((List.range 8).all fun n => ((decide (Gx.bits .and .i64 (n : Int) 4 = 0)) == !decide (n / 4 % 2 = 1)) && ((decide (Gx.bits .and .i64 (n : Int) 2 = 0)) == !decide (n / 2 % 2 = 1)) && ((decide (Gx.bits .and .i64 (n : Int) 1 = 0)) == !decide (n / 1 % 2 = 1)) && ((decide (Gx.bits .and .i64 (n : Int) 3 = 0)) == !(decide (n / 1 % 2 = 1) || decide (n / 2 % 2 = 1)))) = true := by decide +kernel
theorem and_8 {x : Int} (hx : 0 ≤ x ∧ x ≤ 7) : decide (Gx.bits .and .i64 x 4 = 0) = !hasB x 4 ∧ decide (Gx.bits .and .i64 x 2 = 0) = !hasB x 2 ∧ decide (Gx.bits .and .i64 x 1 = 0) = !hasB x 1 ∧ decide (Gx.bits .and .i64 x 3 = 0) = !(hasB x 1 || hasB x 2) := by
  have h := and_all
  rw [List.all_eq_true] at h
  have h1 := h x.toNat (List.mem_range.2 (by omega))
  rw [Int.toNat_of_nonneg hx.1] at h1
  simp only [Bool.and_eq_true, beq_iff_eq] at h1
  exact ⟨h1.1.1.1, h1.1.1.2, h1.1.2, h1.2⟩
theorem findF_spec {h : Int} : ∀ {L : List Fil} {j : Nat}, (findF L h j).2.2 = 0 → ∃ i k, findF L h j = (j + i, k, 0) ∧ i < L.length ∧ k < (nth L i).op.length ∧ k = ixO (nth L i).op h
  | [], j, e => by cases e
  | f :: L, j, e => by
    unfold findF at e ⊢
    split
    · rename_i h1
      exact ⟨0, _, rfl, by simp, by simpa [nth] using h1, by simp [nth]⟩
    · rename_i h1
      rw [if_neg h1] at e
      obtain ⟨i, k, h2, h3, h4, h5⟩ := findF_spec e
      exact ⟨i + 1, k, by rw [h2]; congr 1; omega, by simpa using h3, by simpa [nth] using h4, by simpa [nth] using h5⟩
theorem findF_err {h : Int} : ∀ {L : List Fil} {j : Nat}, (findF L h j).2.2 = 0 ∨ findF L h j = (0, 0, 6)
  | [], j => .inr rfl
  | f :: L, j => by
    unfold findF
    split
    · exact .inl rfl
    · exact findF_err
theorem VW.at {L : List LFil} (hV : VW (pls L)) {i k : Nat} (hi : i < L.length) (hk : k < (nth L i).op.length) : openE (nth (nth L i).op k).ac (nth (nth L i).op k).sh = 0 ∧ okL (nth (nth L i).op k).lk ∧ (nth (nth L i).op k).lk.length ≤ 16 :=
  hV.op (nth L i).pl (List.mem_map.2 ⟨_, mem_nth hi, rfl⟩) (nth (nth L i).op k).pl (List.mem_map.2 ⟨_, mem_nth hk, rfl⟩)
theorem VW.lens {L : List LFil} (hV : VW (pls L)) : L.length ≤ 32 ∧ ∀ f ∈ L, f.op.length ≤ 32 := by
  refine ⟨by simpa using hV.len, fun f hf => ?_⟩
  have h9 := cntT_mem (List.mem_map.2 ⟨f, hf, rfl⟩ : f.pl ∈ pls L)
  have h8 : cntT (L.map LFil.pl) ≤ 32 := hV.cnt
  simp only [LFil.pl, List.length_map] at h9
  omega
theorem findF_some {L : List LFil} {h : Int} (hV : VW (pls L)) (e : (findF (pls L) h 0).2.2 = 0) : ∃ i k, findF (pls L) h 0 = (i, k, 0) ∧ i < L.length ∧ k < (nth L i).op.length ∧ openE (nth (nth L i).op k).ac (nth (nth L i).op k).sh = 0 ∧ okL (nth (nth L i).op k).lk ∧ (nth (nth L i).op k).lk.length ≤ 16 := by
  obtain ⟨i, k, h1, h2, h3, _⟩ := findF_spec e
  have hi : i < L.length := by simpa using h2
  rw [nth_pls hi] at h3
  have hk : k < (nth L i).op.length := by simpa [LFil.pl] using h3
  exact ⟨i, k, by rw [h1, Nat.zero_add], hi, hk, VW.at hV hi hk⟩
def updF (L : List Fil) (i : Nat) (u : Fil → Fil) : List Fil := L.set i (u (nth L i))
def updO (L : List Fil) (i k : Nat) (u : Opn → Opn) : List Fil := updF L i fun f => { f with op := f.op.set k (u (nth f.op k)) }
theorem pls_set {L : List LFil} {i : Nat} {f : LFil} : pls (L.set i f) = (pls L).set i f.pl := by simp [pls, List.map_set]
def markT (L : List Fil) (h : Int) (d : Bool) : List Fil × Int :=
  if (findF L h 0).2.2 = 0 then if hasB (nth (nth L (findF L h 0).1).op (findF L h 0).2.1).ac 4 = true then (updF L (findF L h 0).1 fun f => { f with pd := d }, 0) else (L, 27) else (L, (findF L h 0).2.2)
def anyK (f : Fil) (q : Lock) : Bool := f.op.any fun o => o.lk.any (clsh · q)
def lockE (L : List Fil) (i k : Nat) (q : Lock) : Int :=
  if (hasB (nth (nth L i).op k).ac 1 || hasB (nth (nth L i).op k).ac 2) = true then if (nth (nth L i).op k).lk.length < 16 then if anyK (nth L i) q = true then 29 else 0 else 16 else 27
def lockT (L : List Fil) (h : Int) (q : Lock) : List Fil × Int :=
  if (findF L h 0).2.2 = 0 then if rngE q.fr q.cnt = 0 then if lockE L (findF L h 0).1 (findF L h 0).2.1 q = 0 then (updO L (findF L h 0).1 (findF L h 0).2.1 fun o => { o with lk := o.lk ++ [q] }, 0) else (L, lockE L (findF L h 0).1 (findF L h 0).2.1 q) else (L, rngE q.fr q.cnt) else (L, (findF L h 0).2.2)
theorem lockE_first {L : List Fil} {i k : Nat} {q : Lock} : firstV [.int .i64 (bif !!(hasB (nth (nth L i).op k).ac 1 || hasB (nth (nth L i).op k).ac 2) then 0 else 27), .int .i64 (bif decide (((nth (nth L i).op k).lk.length : Int) < 16) then 0 else 16), .int .i64 (bif !anyK (nth L i) q then 0 else 29)] = lockE L i k q := by
  simp only [firstV, lockE, cond_eq_ite, decide_eq_true_eq, Bool.not_not, Bool.not_eq_true']
  grind

set_option maxRecDepth 20000 in
theorem c84 (w : World) (bt : Nat) (next : Int) (a : Option Addr) (cap : Nat) (L : List LFil) (h : Int) (d : Bool) (hw : HS w (fps [.blk bt 106 2 [.int .i64 (next), .slice a (L).length cap], .files a cap (L)]) [.blk bt 106 2 [.int .i64 (next), .slice a (L).length cap], .files a cap (L)] w) (hV : VW (pls L)) : Calls Try.prog 84 #[.pointer (some ⟨bt, 0, none⟩), .int .i64 h, .bool d] w fun en w' => ∃ g : (Option Addr × Nat) × List LFil, en = .returned (.int .i64 (markT (pls L) h d).2) ∧ pls g.2 = (markT (pls L) h d).1 ∧ HS w (fps [.blk bt 106 2 [.int .i64 (next), .slice a (L).length cap], .files a cap (L)]) [.blk bt 106 2 [.int .i64 (next), .slice g.1.1 (g.2).length g.1.2], .files g.1.1 g.1.2 (g.2)] w' := by
  refine enter (args := [_, _, _]) Try.func84 Try.ntmps84 rfl rfl hw ?_
  refine s_seq ?_
  refine s_region ?_
  refine o_p (p_pure rfl) rfl ?_
  refine o_nil ?_
  refine s_seq ?_
  refine s_region ?_
  refine o_p (p_pure rfl) rfl ?_
  refine o_p (p_pure rfl) rfl ?_
  refine o_q (q_call rfl fn_100 rfl (fun w1 h1 => c100 w1 bt _ _ L h (h1.rd_blk (Mc := []) (by repeat (first | exact .here | apply Pick.there)) rfl (by simp)) (h1.ft (by repeat (first | exact .here | apply Pick.there))) (by have := (VW.lens hV).1; omega) (fun f hf => by have := (VW.lens hV).2 f hf; omega))) rfl ?_
  refine o_p (p_pure rfl) rfl ?_
  refine o_p (p_pure rfl) rfl ?_
  refine o_p (p_pure rfl) rfl ?_
  refine o_p (p_pure rfl) rfl ?_
  refine o_p (p_pure rfl) rfl ?_
  refine o_p (p_pure rfl) rfl ?_
  refine o_p (p_pure rfl) rfl ?_
  refine o_nil ?_
  refine s_seq ?_
  refine s_seq ?_
  refine s_region ?_
  refine o_p (p_pure rfl) rfl ?_
  refine o_p (p_pure rfl) rfl ?_
  refine o_nil ?_
  refine s_cond rfl (fun h1 => ?_) (fun h1 => ?_)
  · try simp only [decide_eq_true_eq, decide_eq_false_iff_not, Bool.not_eq_true', Bool.not_eq_false', Bool.and_eq_true, Bool.or_eq_true, Bool.and_eq_false_iff, Bool.or_eq_false_iff, Bool.not_true, Bool.not_false] at h1
    refine s_seq ?_
    refine s_region ?_
    refine o_p (p_pure rfl) rfl ?_
    refine o_p (p_pure rfl) rfl ?_
    refine o_nil ?_
    exact s_retv (rs := [.tmp 6]) rfl (.tmp rfl (.nil)) (fun w' h' => ⟨((a, cap), L), by rw [markT, if_neg h1]; rfl, by rw [markT, if_neg h1], h'.ent (by repeat (first | exact .nil | refine .cons (by repeat (first | exact .here | apply Pick.there)) ?_))⟩)
  · try simp only [decide_eq_true_eq, decide_eq_false_iff_not, Bool.not_eq_true', Bool.not_eq_false', Bool.and_eq_true, Bool.or_eq_true, Bool.and_eq_false_iff, Bool.or_eq_false_iff, Bool.not_true, Bool.not_false] at h1
    obtain ⟨i, k, hfe, hi, hk, hV3⟩ := findF_some hV h1
    rw [hfe]
    obtain ⟨ga, rfl, hcap, hcm⟩ := files_addr (by omega) hw (.there .here)
    obtain ⟨go, hoa, hoc, hom⟩ := file_addr hi (by omega) hw (.there .here)
    dsimp only
    refine s_skip ?_
    refine s_seq ?_
    refine s_seq ?_
    refine s_region ?_
    refine o_p (p_pure rfl) rfl ?_
    refine o_p (p_pure rfl) rfl ?_
    refine o_p (p_fieldAddr rfl rfl fd_106_0 sz_26 rfl) rfl ?_
    refine o_p (p_fieldAddr rfl rfl fd_26_1 sz_24 rfl) rfl ?_
    first | refine o_q (q_load rfl rfl sz_24 (by repeat (first | exact .here | apply Pick.there)) rfl) rfl ?_ | refine o_q (q_load_at rfl rfl sz_24 (fun w h => (h.rd_blk (Mc := []) (by repeat (first | exact .here | apply Pick.there)) rfl (by simp)))) rfl ?_ | refine o_q (q_load_at rfl rfl sz_24 (fun w h => (HS.ft (a := some ⟨ga, 0, none⟩) (cap := cap) (l := L) h (by repeat (first | exact .here | apply Pick.there))).1.rdj 3 hi rfl)) rfl ?_ | refine o_q (q_load_at rfl rfl sz_24 (fun w h => by have h9 := ((HS.ft (a := some ⟨ga, 0, none⟩) (cap := cap) (l := L) h (by repeat (first | exact .here | apply Pick.there))).at hi).1.rdj 1 hk rfl; rw [hoa] at h9; exact h9)) rfl ?_ | refine o_q (q_load_at rfl rfl sz_24 (fun w h => by have h9 := ((HS.ft (a := some ⟨ga, 0, none⟩) (cap := cap) (l := L) h (by repeat (first | exact .here | apply Pick.there))).at hi).1.rdj 4 hk rfl; rw [hoa] at h9; exact h9)) rfl ?_
    refine o_p (p_pure rfl) rfl ?_
    first | refine o_p (p_indexAddr rfl rfl rfl sl_24 (i) (by omega) (by omega) rfl) rfl ?_ | refine o_p (p_indexAddr rfl rfl rfl sl_24 (i) (by omega) (by omega) hoa) rfl ?_
    refine o_p (p_fieldAddr rfl rfl fd_77_2 sz_75 rfl) rfl ?_
    first | refine o_q (q_load rfl rfl sz_75 (by repeat (first | exact .here | apply Pick.there)) rfl) rfl ?_ | refine o_q (q_load_at rfl rfl sz_75 (fun w h => (h.rd_blk (Mc := []) (by repeat (first | exact .here | apply Pick.there)) rfl (by simp)))) rfl ?_ | refine o_q (q_load_at rfl rfl sz_75 (fun w h => (HS.ft (a := some ⟨ga, 0, none⟩) (cap := cap) (l := L) h (by repeat (first | exact .here | apply Pick.there))).1.rdj 3 hi rfl)) rfl ?_ | refine o_q (q_load_at rfl rfl sz_75 (fun w h => by have h9 := ((HS.ft (a := some ⟨ga, 0, none⟩) (cap := cap) (l := L) h (by repeat (first | exact .here | apply Pick.there))).at hi).1.rdj 1 hk rfl; rw [hoa] at h9; exact h9)) rfl ?_ | refine o_q (q_load_at rfl rfl sz_75 (fun w h => by have h9 := ((HS.ft (a := some ⟨ga, 0, none⟩) (cap := cap) (l := L) h (by repeat (first | exact .here | apply Pick.there))).at hi).1.rdj 4 hk rfl; rw [hoa] at h9; exact h9)) rfl ?_
    refine o_p (p_pure rfl) rfl ?_
    first | refine o_p (p_indexAddr rfl rfl rfl sl_75 (k) (by omega) (by omega) rfl) rfl ?_ | refine o_p (p_indexAddr rfl rfl rfl sl_75 (k) (by omega) (by omega) hoa) rfl ?_
    refine o_p (p_fieldAddr rfl rfl fd_48_1 sz_3 rfl) rfl ?_
    first | refine o_q (q_load rfl rfl sz_3 (by repeat (first | exact .here | apply Pick.there)) rfl) rfl ?_ | refine o_q (q_load_at rfl rfl sz_3 (fun w h => (h.rd_blk (Mc := []) (by repeat (first | exact .here | apply Pick.there)) rfl (by simp)))) rfl ?_ | refine o_q (q_load_at rfl rfl sz_3 (fun w h => (HS.ft (a := some ⟨ga, 0, none⟩) (cap := cap) (l := L) h (by repeat (first | exact .here | apply Pick.there))).1.rdj 3 hi rfl)) rfl ?_ | refine o_q (q_load_at rfl rfl sz_3 (fun w h => by have h9 := ((HS.ft (a := some ⟨ga, 0, none⟩) (cap := cap) (l := L) h (by repeat (first | exact .here | apply Pick.there))).at hi).1.rdj 1 hk rfl; rw [hoa] at h9; exact h9)) rfl ?_ | refine o_q (q_load_at rfl rfl sz_3 (fun w h => by have h9 := ((HS.ft (a := some ⟨ga, 0, none⟩) (cap := cap) (l := L) h (by repeat (first | exact .here | apply Pick.there))).at hi).1.rdj 4 hk rfl; rw [hoa] at h9; exact h9)) rfl ?_
    refine o_p (p_pure rfl) rfl ?_
    refine o_p (p_pure rfl) rfl ?_
    refine o_nil ?_
    refine s_cond rfl (fun h2 => ?_) (fun h2 => ?_)
    · try simp only [decide_eq_true_eq, decide_eq_false_iff_not, Bool.not_eq_true', Bool.not_eq_false', Bool.and_eq_true, Bool.or_eq_true, Bool.and_eq_false_iff, Bool.or_eq_false_iff, Bool.not_true, Bool.not_false] at h2
      have hno : hasB (nth (nth L i).op k).ac 4 = false := by have hq := h2; have h9 := (and_8 (x := (nth (nth L i).op k).ac) (by have := openE_r hV3.1; omega)).1; rw [hq] at h9; simpa using h9.symm
      refine s_seq ?_
      refine s_weaken (L' := [(0, _), (2, _), (6, _), (7, _)]) (by repeat (first | exact sl_n | refine sl_c rfl ?_)) (fun _ h => h) ?_
      refine s_region ?_
      refine o_p (p_pure rfl) rfl ?_
      refine o_nil ?_
      exact s_retv (rs := [.tmp 6]) rfl (.tmp rfl (.nil)) (fun w' h' => ⟨((some ⟨ga, 0, none⟩, cap), L), by rw [markT, hfe]; simp only [if_true]; rw [nth_pls hi, LFil.pl, nth_plo hk, if_neg (by simp only [LOpn.pl]; rw [hno]; decide)]; rfl, by rw [markT, hfe]; simp only [if_true]; rw [nth_pls hi, LFil.pl, nth_plo hk, if_neg (by simp only [LOpn.pl]; rw [hno]; decide)], h'.ent (by repeat (first | exact .nil | refine .cons (by repeat (first | exact .here | apply Pick.there)) ?_))⟩)
    · try simp only [decide_eq_true_eq, decide_eq_false_iff_not, Bool.not_eq_true', Bool.not_eq_false', Bool.and_eq_true, Bool.or_eq_true, Bool.and_eq_false_iff, Bool.or_eq_false_iff, Bool.not_true, Bool.not_false] at h2
      have hyes : hasB (nth (nth L i).op k).ac 4 = true := by have hq := h2; have h9 := (and_8 (x := (nth (nth L i).op k).ac) (by have := openE_r hV3.1; omega)).1; rw [decide_eq_false hq] at h9; simpa using h9.symm
      refine s_class (fun w h => HS.file_at hi h (by repeat (first | exact .here | apply Pick.there))) ?_
      refine s_skip ?_
      refine s_seq ?_
      refine s_weaken (L' := [(0, _), (2, _), (6, _), (7, _)]) (by repeat (first | exact sl_n | refine sl_c rfl ?_)) (fun _ h => h) ?_
      refine s_region ?_
      refine o_p (p_pure rfl) rfl ?_
      refine o_p (p_pure rfl) rfl ?_
      refine o_p (p_fieldAddr rfl rfl fd_106_0 sz_26 rfl) rfl ?_
      refine o_p (p_fieldAddr rfl rfl fd_26_1 sz_24 rfl) rfl ?_
      first | refine o_q (q_load rfl rfl sz_24 (by repeat (first | exact .here | apply Pick.there)) rfl) rfl ?_ | refine o_q (q_load_at rfl rfl sz_24 (fun w h => (h.rd_blk (Mc := []) (by repeat (first | exact .here | apply Pick.there)) rfl (by simp)))) rfl ?_ | refine o_q (q_load_at rfl rfl sz_24 (fun w h => (HS.ft (a := some ⟨ga, 0, none⟩) (cap := cap) (l := L) h (by repeat (first | exact .here | apply Pick.there))).1.rdj 3 hi rfl)) rfl ?_ | refine o_q (q_load_at rfl rfl sz_24 (fun w h => by have h9 := ((HS.ft (a := some ⟨ga, 0, none⟩) (cap := cap) (l := L) h (by repeat (first | exact .here | apply Pick.there))).at hi).1.rdj 1 hk rfl; rw [hoa] at h9; exact h9)) rfl ?_ | refine o_q (q_load_at rfl rfl sz_24 (fun w h => by have h9 := ((HS.ft (a := some ⟨ga, 0, none⟩) (cap := cap) (l := L) h (by repeat (first | exact .here | apply Pick.there))).at hi).1.rdj 4 hk rfl; rw [hoa] at h9; exact h9)) rfl ?_
      refine o_p (p_pure rfl) rfl ?_
      refine o_p (p_pure rfl) rfl ?_
      first | refine o_p (p_indexAddr rfl rfl rfl sl_24 (i) (by omega) (by omega) rfl) rfl ?_ | refine o_p (p_indexAddr rfl rfl rfl sl_24 (i) (by omega) (by omega) hoa) rfl ?_
      refine o_slot (show _ = Value.pointer (some ⟨ga, i * 4, none⟩) from by rw [Nat.zero_add]) ?_
      refine o_p (p_fieldAddr rfl rfl fd_77_1 sz_4 rfl) rfl ?_
      refine o_h0 (h_store rfl rfl rfl sz_4 rfl (by repeat (first | exact .here | apply Put.there)) (by rw [flat_length fv4]; omega) rfl) (fun _ _ => ?_)
      refine o_nil ?_
      refine s_seq ?_
      refine s_region ?_
      refine o_p (p_pure rfl) rfl ?_
      refine o_nil ?_
      exact s_retv (rs := [.tmp 6]) rfl (.tmp rfl (.nil)) (fun w' h' => ⟨((some ⟨ga, 0, none⟩, cap), L.set i { nth L i with pd := d }), by rw [markT, hfe]; simp only [if_true]; rw [nth_pls hi, LFil.pl, nth_plo hk, if_pos (by simp only [LOpn.pl]; exact hyes)]; rfl, by rw [markT, hfe]; simp only [if_true]; rw [nth_pls hi, LFil.pl, nth_plo hk, if_pos (by simp only [LOpn.pl]; exact hyes), pls_set, updF, nth_pls hi]; rfl, by have h2 := HS.file_put (f := { nth L i with pd := d }) hi (h'.ent (Bs := [.blk ga 77 (cap * 4) _, .opens (nth L i).oa (nth L i).oc (nth L i).op, .star ((others L i).map subF), .blk bt 106 2 [.int .i64 next, .slice (some ⟨ga, 0, none⟩) L.length cap]]) (by repeat (first | exact .nil | refine .cons (by repeat (first | exact .here | apply Pick.there)) ?_))) (flat_set fv4 L i 2 [.bool d] (nth L i) _ (nth_get hi) rfl (by simp)) hcap hcm; rw [List.length_set]; exact h2.ent (by repeat (first | exact .nil | refine .cons (by repeat (first | exact .here | apply Pick.there)) ?_))⟩)

end Go.Proofs
