/- Contracts of the program's functions, proved by walking them with the rules of the Gx texts; without conditions beyond those that each contract names. -/
import Derived.Test.YtgdigngojonbhaaC25C
namespace Go.Proofs
open Go Go.RowKit Gx
set_option linter.unusedVariables false
set_option linter.unusedSimpArgs false
attribute [local irreducible] Go.Calls Gx.S Gx.O Gx.D Gx.OpP Gx.OpQ Gx.OpH

theorem fn_121 : isFn Try.prog 121 = true := by kernel_rfl
theorem zr_46 : tzero Try.prog 46 = some [.slice none 0 0] := by kernel_rfl
theorem fd_48_4 : tfd Try.prog 48 4 = some (4, 46) := by kernel_rfl
theorem fn_92 : isFn Try.prog 92 = true := by kernel_rfl
theorem fd_48_0 : tfd Try.prog 48 0 = some (0, 3) := by kernel_rfl
theorem fd_114_0 : tfd Try.prog 114 0 = some (0, 3) := by kernel_rfl
theorem fn_62 : isFn Try.prog 62 = true := by kernel_rfl
theorem fn_52 : isFn Try.prog 52 = true := by kernel_rfl
theorem zr_28 : tzero Try.prog 28 = some [.int .i64 0] := by kernel_rfl
theorem fd_114_1 : tfd Try.prog 114 1 = some (1, 112) := by kernel_rfl
theorem sz_112 : tsz Try.prog 112 = some (1, false) := by kernel_rfl
theorem zv_4 : tzv Try.prog 4 = some (.bool false) := by kernel_rfl
theorem ki_3 : tki Try.prog 3 = some .i64 := by kernel_rfl
theorem fn_95 : isFn Try.prog 95 = true := by kernel_rfl
theorem fn_97 : isFn Try.prog 97 = true := by kernel_rfl


abbrev KI : Int → Value := fun n => Value.int .i64 n
theorem key112 : KeyK Try.prog 3 KI := key_int ki_3
theorem lockedE_step {H : List Lock} {k : Lock} {ks : List Lock} (h : H.any (clsh · k) = false) : lockedE H (k :: ks) = lockedE (lkA H k) ks := by
  unfold lkA
  rw [lockedE, if_neg (by rw [h]; decide), if_neg (by rw [h]; decide)]
theorem lockedE_hit {H : List Lock} {k : Lock} {ks : List Lock} (h : H.any (clsh · k) = true) : lockedE H (k :: ks) = 29 := by rw [lockedE, if_pos h]
theorem heldK_le {l : List LOpn} (hl : ∀ o ∈ l, o.lk.length ≤ 16) : ∀ k, k ≤ l.length → (heldK l k).length ≤ 16 * k
  | 0, _ => by simp [heldK]
  | k + 1, h => by
    have h1 := heldK_le hl k (by omega)
    have h2 := hl _ (mem_nth (show k < l.length by omega))
    rw [heldK_succ (by omega), List.length_append]
    omega
theorem heldK_ok {l : List LOpn} (hl : ∀ o ∈ l, okL o.lk) (k : Nat) : okL (heldK l k) := by
  intro x hx
  obtain ⟨o, ho, hk⟩ := List.mem_flatMap.1 hx
  exact hl o (List.mem_of_mem_take ho) x hk
theorem nth_plo {l : List LOpn} {k : Nat} (h : k < l.length) : nth (plo l) k = (nth l k).pl := by
  simp only [nth, plo, List.getD_eq_getElem?_getD, List.getElem?_map, List.getElem?_eq_getElem h, Option.map_some, Option.getD_some]
def hdE1 (next : Int) (ops : List Opn) (k : Nat) : Int :=
  if 1 ≤ (nth ops k).hd ∧ (nth ops k).hd ≤ next - 1 then if openE (nth ops k).ac (nth ops k).sh = 0 then if k = 0 ∨ (nth ops (k - 1)).hd < (nth ops k).hd then if (nth ops k).lk.length ≤ 16 then 0 else 8 else 9 else openE (nth ops k).ac (nth ops k).sh else 2
def hdE2 (next : Int) (ops : List Opn) (k : Nat) : Int := if hdE1 next ops k = 0 then rngsE (nth ops k).lk else hdE1 next ops k
open Classical in
noncomputable def hdE3 (next : Int) (known : List Int) (ops : List Opn) (k : Nat) : Int := if hdE2 next ops k = 0 then if (nth ops k).hd ∈ known then 23 else 0 else hdE2 next ops k
noncomputable def hdE4 (next : Int) (known : List Int) (ops : List Opn) (k : Nat) : Int := if hdE3 next known ops k = 0 then if (ops.take k).any (cfl (nth ops k)) = true then 28 else 0 else hdE3 next known ops k
theorem hdl_4 (next : Int) (known : List Int) (ops : List Opn) (k : Nat) : hdlE next known ops k = if hdE4 next known ops k = 0 then lockedE ((ops.take k).flatMap Opn.lk) (nth ops k).lk else hdE4 next known ops k := by
  unfold hdE4 hdE3 hdE2 hdE1 hdlE
  simp only []
  grind
theorem hd1_0 {next : Int} {ops : List Opn} {k : Nat} (h : hdE1 next ops k = 0) : (1 ≤ (nth ops k).hd ∧ (nth ops k).hd ≤ next - 1) ∧ openE (nth ops k).ac (nth ops k).sh = 0 ∧ (k = 0 ∨ (nth ops (k - 1)).hd < (nth ops k).hd) ∧ (nth ops k).lk.length ≤ 16 := by
  unfold hdE1 at h
  grind
theorem hd2_0 {next : Int} {ops : List Opn} {k : Nat} (h : hdE2 next ops k = 0) : hdE1 next ops k = 0 ∧ okL (nth ops k).lk := by
  unfold hdE2 at h
  split at h
  · rename_i h1; exact ⟨h1, rngs_ok h⟩
  · contradiction
theorem hd3_0 {next : Int} {known : List Int} {ops : List Opn} {k : Nat} (h : hdE3 next known ops k = 0) : hdE2 next ops k = 0 ∧ (nth ops k).hd ∉ known := by
  unfold hdE3 at h
  grind
theorem hd4_0 {next : Int} {known : List Int} {ops : List Opn} {k : Nat} (h : hdE4 next known ops k = 0) : hdE3 next known ops k = 0 ∧ (ops.take k).any (cfl (nth ops k)) = false := by
  unfold hdE4 at h
  grind
theorem hdl_0 {next : Int} {known : List Int} {ops : List Opn} {k : Nat} (h : hdlE next known ops k = 0) : hdE4 next known ops k = 0 ∧ lockedE ((ops.take k).flatMap Opn.lk) (nth ops k).lk = 0 := by
  rw [hdl_4] at h
  grind
theorem hd_way {next : Int} {ops : List Opn} {k : Nat} {b : Bool} (hb : b = decide (k = 0 ∨ (nth ops (k - 1)).hd < (nth ops k).hd)) :
    firstV [.int .i64 (bif decide (1 ≤ (nth ops k).hd) && decide ((nth ops k).hd ≤ next - 1) then 0 else 2), .int .i64 (openE (nth ops k).ac (nth ops k).sh), .int .i64 (bif b then 0 else 9), .int .i64 (bif decide (((nth ops k).lk.length : Int) ≤ 16) then 0 else 8)] = hdE1 next ops k := by
  subst hb
  simp only [firstV, cond_eq_ite, decide_eq_true_eq, Bool.and_eq_true, hdE1]
  grind

set_option maxRecDepth 20000 in
theorem d92 (w : World) (a : Option Addr) (cap : Nat) (x : List Lock) (b : Nat) (g0 : Option Addr × Nat) (H0 : List Lock) (hw : HS w (fps [.blk b 46 1 [.slice g0.1 (H0).length g0.2], .own (.slice g0.1 (H0).length g0.2) 62 3 (H0).length ((H0).flatMap Lock.vals)]) [.blk b 46 1 [.slice g0.1 (H0).length g0.2], .own (.slice g0.1 (H0).length g0.2) 62 3 (H0).length ((H0).flatMap Lock.vals)] w) (hs : Kt w (fps [.blk b 46 1 [.slice g0.1 (H0).length g0.2], .own (.slice g0.1 (H0).length g0.2) 62 3 (H0).length ((H0).flatMap Lock.vals)]) a x) (hH : okL H0) (hx : okL x) (hm : H0.length ≤ 10000) (hm2 : x.length ≤ 10000) : Calls Try.prog 92 #[.slice a x.length cap, .func (.func 121) #[] #[.pointer (some ⟨b, 0, none⟩)]] w fun en w' => ∃ g : Int, en = .returned (.tuple #[.int .i64 g, .int .i64 (lockedE H0 x)]) ∧ True ∧ HS w (fps [.blk b 46 1 [.slice g0.1 (H0).length g0.2], .own (.slice g0.1 (H0).length g0.2) 62 3 (H0).length ((H0).flatMap Lock.vals)]) [] w' := by
  refine enter (args := [_, _]) Try.func92 Try.ntmps92 rfl rfl hw ?_
  refine s_seq ?_
  refine s_region ?_
  refine o_p (p_pure rfl) rfl ?_
  refine o_p (p_pure rfl) rfl ?_
  refine o_nil ?_
  refine s_seq ?_
  refine s_seq ?_
  refine s_region ?_
  refine o_p (p_pure rfl) rfl ?_
  first | refine o_p (p_len_slice rfl rfl Try.underlying46) rfl ?_ | refine o_q (q_len_own rfl rfl Try.underlying46 (by repeat (first | exact .here | apply Pick.there))) rfl ?_
  refine o_p (p_pure rfl) rfl ?_
  refine o_nil ?_
  refine s_block ?_
  refine s_loopI (α := Nat × Option Addr × Nat) [4, 5, 6, 7, 8, 11, 12, 13, 14, 15, 16, 17, 18, 19, 20, 21, 22, 23, 24] (fun y => [(11, .int .i64 (y.1 : Int))]) (fun y => HS w (fps [.blk b 46 1 [.slice g0.1 (H0).length g0.2], .own (.slice g0.1 (H0).length g0.2) 62 3 (H0).length ((H0).flatMap Lock.vals)]) [.blk b 46 1 [.slice y.2.1 (H0 ++ x.take y.1).length y.2.2], .own (.slice y.2.1 (H0 ++ x.take y.1).length y.2.2) 62 3 (H0 ++ x.take y.1).length ((H0 ++ x.take y.1).flatMap Lock.vals)]) (fun y => y.1 ≤ x.length ∧ lockedE H0 x = lockedE (H0 ++ x.take y.1) (x.drop y.1)) (fun y => x.length - y.1) (0, g0) ⟨by simp, by simp⟩ (by repeat (first | exact sl_n | refine sl_c rfl ?_)) (fun w h => by simp only [List.take_zero, List.append_nil]; exact h.ent (by repeat (first | exact .nil | refine .cons (by repeat (first | exact .here | apply Pick.there)) ?_))) (fun ⟨k, gk⟩ hk => ?_)
  dsimp only
  simp only [] at hk
  obtain ⟨hk1, hk2⟩ := hk
  refine s_seq ?_
  refine s_region ?_
  refine o_p (p_pure rfl) rfl ?_
  refine o_nil ?_
  refine s_seq ?_
  refine s_cond rfl (fun h1 => ?_) (fun h1 => ?_)
  · try simp only [decide_eq_true_eq, decide_eq_false_iff_not, Bool.not_eq_true', Bool.not_eq_false', Bool.and_eq_true, Bool.or_eq_true, Bool.and_eq_false_iff, Bool.or_eq_false_iff, Bool.not_true, Bool.not_false] at h1
    have hk : k < x.length := by omega
    have hdr := drop_nth hk
    have hok := okL_nth hx hk
    refine s_skip ?_
    refine s_seq ?_
    refine s_block ?_
    refine s_seq ?_
    refine s_region ?_
    refine o_p (p_pure rfl) rfl ?_
    first | refine o_p (p_indexAddr rfl rfl rfl sl_46 (k) (by omega) (by omega) rfl) rfl ?_ | refine o_p (p_indexAddr rfl rfl rfl sl_46 (k) (by omega) (by omega) (Rw.some hs (by omega))) rfl ?_
    first | refine o_q (q_loadn rfl rfl sz_62 (by repeat (first | exact .here | apply Pick.there)) rfl) rfl ?_ | refine o_q (q_load_oldn _ rfl rfl sz_62 rfl (Rw.rd hs (by omega))) rfl ?_
    refine o_h (h_alloc rfl zr_62) rfl (fun b2 _ => ?_)
    refine o_p (p_pure rfl) rfl ?_
    refine o_h0 (h_store rfl rfl rfl sz_62 rfl (by repeat (first | exact .here | apply Put.there)) (by simp only [setMany_length, List.length_set, List.length_cons, List.length_nil, List.length_map]; omega) rfl) (fun _ _ => ?_)
    refine o_nil ?_
    refine s_seq ?_
    refine s_region ?_
    refine o_p (p_pure rfl) rfl ?_
    refine o_p (p_pure rfl) rfl ?_
    first | refine o_q (q_loadn rfl rfl sz_62 (by repeat (first | exact .here | apply Pick.there)) rfl) rfl ?_ | refine o_q (q_load_oldn _ rfl rfl sz_62 rfl (Rw.rd hs (by omega))) rfl ?_
    refine o_h (h_callvF (Cs := [.blk b 46 1 [.slice gk.1 (H0 ++ x.take k).length gk.2], .own (.slice gk.1 (H0 ++ x.take k).length gk.2) 62 3 (H0 ++ x.take k).length ((H0 ++ x.take k).flatMap Lock.vals)]) rfl rfl fn_121 rfl (by repeat (first | exact Picks.nil | (apply Picks.cons; · (repeat (first | exact .here | apply Pick.there))))) (fun w1 h1 hf => c121 w1 b k (nth x k) gk (H0 ++ x.take k) hf (fun q hq => (List.mem_append.1 hq).elim (hH q) (fun h => hx q (List.mem_of_mem_take h))) hok (by simp only [List.length_append, List.length_take]; omega))) rfl (fun b3 _ => ?_)
    refine o_p (p_pure rfl) rfl ?_
    refine o_nil ?_
    refine s_seq ?_
    refine s_region ?_
    refine o_p (p_pure rfl) rfl ?_
    refine o_p (p_pure rfl) rfl ?_
    refine o_nil ?_
    refine s_cond rfl (fun h4 => ?_) (fun h4 => ?_)
    · try simp only [decide_eq_true_eq, decide_eq_false_iff_not, Bool.not_eq_true', Bool.not_eq_false', Bool.and_eq_true, Bool.or_eq_true, Bool.and_eq_false_iff, Bool.or_eq_false_iff, Bool.not_true, Bool.not_false] at h4
      have hya : (H0 ++ x.take k).any (clsh · (nth x k)) = true := by have hq := h4; revert hq; cases (H0 ++ x.take k).any (clsh · (nth x k)) <;> simp
      refine s_seq ?_
      refine s_region ?_
      refine o_p (p_pure rfl) rfl ?_
      refine o_p (p_pure rfl) rfl ?_
      refine o_p (p_pure rfl) rfl ?_
      refine o_p (p_pure rfl) rfl ?_
      refine o_nil ?_
      exact s_retv (rs := [.tmp 4, .tmp 5]) rfl (.tmp rfl (.tmp rfl (.nil))) (fun w' h' => ⟨k, by rw [hk2, hdr, lockedE_hit hya, if_pos hya]; rfl, trivial, h'.ent (by repeat (first | exact .nil | refine .cons (by repeat (first | exact .here | apply Pick.there)) ?_))⟩)
    · try simp only [decide_eq_true_eq, decide_eq_false_iff_not, Bool.not_eq_true', Bool.not_eq_false', Bool.and_eq_true, Bool.or_eq_true, Bool.and_eq_false_iff, Bool.or_eq_false_iff, Bool.not_true, Bool.not_false] at h4
      have hna : (H0 ++ x.take k).any (clsh · (nth x k)) = false := by have hq := h4; revert hq; cases (H0 ++ x.take k).any (clsh · (nth x k)) <;> simp
      have hla : lkA (H0 ++ x.take k) (nth x k) = H0 ++ x.take (k + 1) := by rw [lkA, if_neg (by rw [hna]; decide), take_succ_nth hk, List.append_assoc]
      refine s_skip ?_
      refine s_blk ?_
      refine s_region ?_
      refine o_p (p_pure rfl) rfl ?_
      try (refine o_slot (i64w (by omega) (by omega)) ?_)
      refine o_p (p_pure rfl) rfl ?_
      refine o_nil ?_
      exact s_backI (k + 1, b3) (by (try simp only []); omega) ⟨by (try simp only []); omega, by rw [hk2, hdr, lockedE_step hna, hla]⟩ (by repeat (first | exact sl_n | refine sl_c rfl ?_)) (fun w h => by rw [hla] at h; exact h.ent (by repeat (first | exact .nil | refine .cons (by repeat (first | exact .here | apply Pick.there)) ?_)))
  · try simp only [decide_eq_true_eq, decide_eq_false_iff_not, Bool.not_eq_true', Bool.not_eq_false', Bool.and_eq_true, Bool.or_eq_true, Bool.and_eq_false_iff, Bool.or_eq_false_iff, Bool.not_true, Bool.not_false] at h1
    refine s_exit_to rfl ?_
    refine s_seq ?_
    refine s_region ?_
    refine o_p (p_pure rfl) rfl ?_
    refine o_p (p_pure rfl) rfl ?_
    refine o_nil ?_
    exact s_retv (rs := [.tmp 4, .tmp 5]) rfl (.tmp rfl (.tmp rfl (.nil))) (fun w' h' => ⟨0, by rw [hk2, List.drop_of_length_le (by omega)]; rfl, trivial, h'.ent (by repeat (first | exact .nil | refine .cons (by repeat (first | exact .here | apply Pick.there)) ?_))⟩)

set_option maxRecDepth 20000 in
theorem c97 (w : World) (x : LOpn) (a : Option Addr) (cap : Nat) (l : List LOpn) (hs : Ot w [] a l) (hx : Kt w [] x.la x.lk) (hox : okL x.lk) (hol : ∀ o ∈ l, okL o.lk) (hm : l.length ≤ 500) (hl : ∀ o ∈ l, o.lk.length ≤ 16) (hxl : x.lk.length ≤ 16) : Calls Try.prog 97 #[.agg #[.int .i64 x.hd, .int .i64 x.ac, .int .i64 x.sh, .bool x.dl, .slice x.la x.lk.length x.lc], .slice a l.length cap] w fun en w' => en = .returned (.int .i64 (lockedE (heldK l l.length) x.lk)) ∧ Below w.heap.size w w' := by
  refine enter (args := [_, _]) Try.func97 Try.ntmps97 rfl rfl (HS.refl w []) ?_
  refine s_seq ?_
  refine s_region ?_
  refine o_h (h_box rfl rfl) rfl (fun b1 _ => ?_)
  refine o_p (p_pure rfl) rfl ?_
  refine o_nil ?_
  refine s_seq ?_
  refine s_region ?_
  refine o_h (h_alloc rfl zr_46) rfl (fun b2 _ => ?_)
  refine o_nil ?_
  refine s_seq ?_
  refine s_seq ?_
  refine s_region ?_
  refine o_p (p_pure rfl) rfl ?_
  first | refine o_p (p_len_slice rfl rfl Try.underlying75) rfl ?_ | refine o_q (q_len_own rfl rfl Try.underlying75 (by repeat (first | exact .here | apply Pick.there))) rfl ?_
  refine o_p (p_pure rfl) rfl ?_
  refine o_nil ?_
  refine s_block ?_
  refine s_loopI (α := Nat × Option Addr × Nat) [7, 12, 13, 14, 15, 16, 17, 18, 19, 20] (fun y => [(12, .int .i64 (y.1 : Int))]) (fun y => HS w [] [.blk b2 46 1 [.slice y.2.1 (heldK l y.1).length y.2.2], .own (.slice y.2.1 (heldK l y.1).length y.2.2) 62 3 (heldK l y.1).length ((heldK l y.1).flatMap Lock.vals), .blk b1 48 5 x.vals]) (fun y => y.1 ≤ l.length) (fun y => l.length - y.1) (0, none, 0) (by simp) (by repeat (first | exact sl_n | refine sl_c rfl ?_)) (fun w h => (h.own_nil 62 3).ent (by repeat (first | exact .nil | refine .cons (by repeat (first | exact .here | apply Pick.there)) ?_))) (fun ⟨k, g1, g2⟩ hk => ?_)
  dsimp only
  simp only [] at hk
  refine s_seq ?_
  refine s_region ?_
  refine o_p (p_pure rfl) rfl ?_
  refine o_nil ?_
  refine s_seq ?_
  refine s_cond rfl (fun h3 => ?_) (fun h3 => ?_)
  · try simp only [decide_eq_true_eq, decide_eq_false_iff_not, Bool.not_eq_true', Bool.not_eq_false', Bool.and_eq_true, Bool.or_eq_true, Bool.and_eq_false_iff, Bool.or_eq_false_iff, Bool.not_true, Bool.not_false] at h3
    have hkl : k < l.length := by omega
    have hhl := heldK_le hl k (by omega)
    have hkk := hl _ (mem_nth hkl)
    refine s_skip ?_
    refine s_seq ?_
    refine s_block ?_
    refine s_seq ?_
    refine s_region ?_
    first | refine o_p (p_indexAddr rfl rfl rfl sl_75 (k) (by omega) (by omega) rfl) rfl ?_ | refine o_p (p_indexAddr rfl rfl rfl sl_75 (k) (by omega) (by omega) (Rw.some hs.1 (by omega))) rfl ?_
    first | refine o_q (q_loadn rfl rfl sz_48 (by repeat (first | exact .here | apply Pick.there)) rfl) rfl ?_ | refine o_q (q_load_oldn _ rfl rfl sz_48 rfl (Rw.rd hs.1 (by omega))) rfl ?_
    refine o_h (h_alloc rfl zr_48) rfl (fun b4 _ => ?_)
    refine o_h0 (h_store rfl rfl rfl sz_48 rfl (by repeat (first | exact .here | apply Put.there)) (by simp only [setMany_length, List.length_set, List.length_cons, List.length_nil, List.length_map]; omega) rfl) (fun _ _ => ?_)
    refine o_nil ?_
    refine s_region ?_
    first | refine o_q (q_load rfl rfl sz_46 (by repeat (first | exact .here | apply Pick.there)) rfl) rfl ?_ | refine o_q (q_load_old rfl rfl sz_46 (rfl (Rw.rd hs.1 (by omega)))) rfl ?_
    refine o_p (p_fieldAddr rfl rfl fd_48_4 sz_46 rfl) rfl ?_
    first | refine o_q (q_load rfl rfl sz_46 (by repeat (first | exact .here | apply Pick.there)) rfl) rfl ?_ | refine o_q (q_load_old rfl rfl sz_46 (rfl (Rw.rd hs.1 (by omega)))) rfl ?_
    refine o_h (h_appendS (n := (heldK l k).length) ((nth l k).lk.flatMap Lock.vals) rfl rfl rfl sl_46 Try.underlying46 zr_62 rfl (by repeat (first | exact .here | apply Pick.there)) (fun w h => Rw.src lv3 (hs.at hkl) h) (flat_length lv3 _) (flat_one lv1 _) (by omega) (by simp only [maxLen]; omega)) rfl (fun b5 _ => ?_)
    refine o_h0 (h_store rfl rfl rfl sz_46 rfl (by repeat (first | exact .here | apply Put.there)) (by simp only [setMany_length, List.length_set, List.length_cons, List.length_nil, List.length_map]; omega) rfl) (fun _ _ => ?_)
    refine o_nil ?_
    refine s_blk ?_
    refine s_region ?_
    refine o_p (p_pure rfl) rfl ?_
    try (refine o_slot (i64w (by omega) (by omega)) ?_)
    refine o_p (p_pure rfl) rfl ?_
    refine o_nil ?_
    exact s_backI (k + 1, _, _) (by (try simp only []); omega) (by (try simp only []); omega) (by repeat (first | exact sl_n | refine sl_c rfl ?_)) (fun w h => by rw [heldK_succ hkl, List.flatMap_append, List.length_append]; exact h.ent (by repeat (first | exact .nil | refine .cons (by repeat (first | exact .here | apply Pick.there)) ?_)))
  · try simp only [decide_eq_true_eq, decide_eq_false_iff_not, Bool.not_eq_true', Bool.not_eq_false', Bool.and_eq_true, Bool.or_eq_true, Bool.and_eq_false_iff, Bool.or_eq_false_iff, Bool.not_true, Bool.not_false] at h3
    have hke : k = l.length := by omega
    have hhl := heldK_le hl k (by omega)
    refine s_exit_to rfl ?_
    refine s_seq ?_
    refine s_region ?_
    refine o_p (p_fieldAddr rfl rfl fd_48_4 sz_46 rfl) rfl ?_
    first | refine o_q (q_load rfl rfl sz_46 (by repeat (first | exact .here | apply Pick.there)) rfl) rfl ?_ | refine o_q (q_load_old rfl rfl sz_46 (rfl (Rw.rd hs.1 (by omega)))) rfl ?_
    refine o_p (p_pure rfl) rfl ?_
    refine o_h (h_callF (Cs := [.blk b2 46 1 [.slice g1 (heldK l k).length g2], .own (.slice g1 (heldK l k).length g2) 62 3 (heldK l k).length ((heldK l k).flatMap Lock.vals)]) rfl fn_92 rfl (by repeat (first | exact Picks.nil | (apply Picks.cons; · (repeat (first | exact .here | apply Pick.there))))) (fun w1 h1 hf => d92 w1 x.la x.lc x.lk b2 (g1, g2) (heldK l k) hf (hx.keep (h1.ent (by repeat (first | exact .nil | refine .cons (by repeat (first | exact .here | apply Pick.there)) ?_)))) (heldK_ok hol k) hox (by omega) (by omega))) rfl (fun gi _ => ?_)
    refine o_p (p_pure rfl) rfl ?_
    refine o_p (p_pure rfl) rfl ?_
    refine o_p (p_pure rfl) rfl ?_
    refine o_p (p_pure rfl) rfl ?_
    refine o_p (p_pure rfl) rfl ?_
    refine o_nil ?_
    refine s_seq ?_
    refine s_region ?_
    refine o_p (p_pure rfl) rfl ?_
    refine o_p (p_pure rfl) rfl ?_
    refine o_nil ?_
    exact s_retv (rs := [.tmp 4]) rfl (.tmp rfl (.nil)) (fun w' h' => ⟨by rw [hke]; rfl, h'.below⟩)

set_option maxRecDepth 20000 in
theorem c59 (w : World) (bc r : Nat) (next : Int) (known : List Int) (a : Option Addr) (cap : Nat) (l : List LOpn) (i : Nat) (hb0 : Rd w [] bc 0 (.int .i64 next)) (hb1 : Rd w [] bc 1 (.map (some r))) (hr : MpR w [] r KI known) (hs : Ot w [] a l) (hi : i < l.length) (hcap : l.length ≤ cap) (hm : l.length ≤ 500) (hn : 1 ≤ next ∧ next ≤ 2147483647) (hv : ∀ j, j < i → hdlE next known (plo l) j = 0) : Calls Try.prog 59 #[.pointer (some ⟨bc, 0, none⟩), .slice a l.length cap, .int .i64 (i : Int)] w fun en w' => en = .returned (.int .i64 (hdlE next known (plo l) i)) ∧ Below w.heap.size w w' := by
  have ep := nth_plo hi
  have eany : ((plo l).take i).any (cfl (nth (plo l) i)) = (l.take i).any (fun y => cfl (nth l i).pl y.pl) := by rw [ep, plo, ← List.map_take, List.any_map]; rfl
  have hci : l.length = (plo l).length := by simp
  have hvo : ∀ o ∈ l.take i, openE o.ac o.sh = 0 ∧ okL o.lk ∧ o.lk.length ≤ 16 := by
    intro o ho
    obtain ⟨j, hj, e⟩ := List.getElem_of_mem ho
    have hji : j < i := by rw [List.length_take] at hj; omega
    have e2 : nth l j = o := by rw [← nth_take hji]; exact nth_eq (by rw [List.getElem?_eq_getElem hj, e])
    have h0 := (hdl_0 (hv j hji)).1
    have h3 := hd4_0 h0
    have h2 := hd3_0 h3.1
    have h1 := hd2_0 h2.1
    have h00 := hd1_0 h1.1
    rw [nth_plo (by omega), e2] at h00 h1
    exact ⟨h00.2.1, h1.2, h00.2.2.2⟩
  refine enter (args := [_, _, _]) Try.func59 Try.ntmps59 rfl rfl (HS.refl w []) ?_
  refine s_seq ?_
  refine s_region ?_
  refine o_p (p_pure rfl) rfl ?_
  refine o_nil ?_
  refine s_seq ?_
  refine s_region ?_
  refine o_p (p_pure rfl) rfl ?_
  refine o_p (p_pure rfl) rfl ?_
  first | refine o_p (p_indexAddr rfl rfl rfl sl_75 (i) (by omega) (by omega) rfl) rfl ?_ | refine o_p (p_indexAddr rfl rfl rfl sl_75 (i) (by omega) (by omega) (Rw.some hs.1 (by omega))) rfl ?_
  first | refine o_q (q_loadn rfl rfl sz_48 (by repeat (first | exact .here | apply Pick.there)) rfl) rfl ?_ | refine o_q (q_load_oldn _ rfl rfl sz_48 rfl (Rw.rd hs.1 (i := i) (by omega))) rfl ?_ | refine o_q (q_load_oldn _ rfl rfl sz_48 hb0) rfl ?_ | refine o_q (q_load_oldn _ rfl rfl sz_48 hb1) rfl ?_ | refine o_q (q_load_oldn _ rfl rfl sz_48 (hs.1.rdj (i := i - 1) 0 (by omega) rfl)) rfl ?_
  refine o_h (h_alloc rfl zr_48) rfl (fun b1 _ => ?_)
  refine o_h0 (h_store rfl rfl rfl sz_48 rfl (by repeat (first | exact .here | apply Put.there)) (by simp only [setMany_length, List.length_set, List.length_cons, List.length_nil, List.length_map]; omega) rfl) (fun _ _ => ?_)
  refine o_nil ?_
  refine s_seq ?_
  refine s_cutI (α := Unit) [8, 13, 14, 15, 16, 17, 18, 19, 20, 21, 22, 23, 24, 25, 26, 27, 28, 29, 30, 31, 32, 33, 34, 35, 36, 37, 38, 39, 40, 41, 42, 43, 44, 45] (fun _ => [(8, .int .i64 (hdE1 next (plo l) i))]) (fun _ => HS w [] [.blk b1 48 5 [.int .i64 (nth l i).hd, .int .i64 (nth l i).ac, .int .i64 (nth l i).sh, .bool (nth l i).dl, .slice (nth l i).la (nth l i).lk.length (nth l i).lc]]) (fun _ => True) ?_ ?_
  · skip
    refine s_draw [] mixed ?_
    refine d_p 0 rfl (p_fieldAddr rfl rfl fd_48_0 sz_3 rfl) (by kernel_rfl) rfl rfl ?_
    first | refine d_q 1 [] rfl (q_load rfl rfl sz_3 (by repeat (first | exact .here | apply Pick.there)) rfl) (by kernel_rfl) (by kernel_rfl) (by kernel_rfl) rfl ?_ | refine d_q 1 [] rfl (q_load_old rfl rfl sz_3 (rfl (Rw.rd hs.1 (i := i) (by omega)))) (by kernel_rfl) (by kernel_rfl) (by kernel_rfl) rfl ?_ | refine d_q 1 [] rfl (q_load_old rfl rfl sz_3 (hb0)) (by kernel_rfl) (by kernel_rfl) (by kernel_rfl) rfl ?_ | refine d_q 1 [] rfl (q_load_old rfl rfl sz_3 (hb1)) (by kernel_rfl) (by kernel_rfl) (by kernel_rfl) rfl ?_ | refine d_q 1 [] rfl (q_load_old rfl rfl sz_3 ((hs.1.rdj (i := i - 1) 0 (by omega) rfl))) (by kernel_rfl) (by kernel_rfl) (by kernel_rfl) rfl ?_
    refine d_p 2 rfl (p_pure rfl) (by kernel_rfl) rfl rfl ?_
    refine d_p 3 rfl (p_pure rfl) (by kernel_rfl) rfl rfl ?_
    refine d_p 4 rfl (p_fieldAddr rfl rfl fd_114_0 sz_3 rfl) (by kernel_rfl) rfl rfl ?_
    first | refine d_q 5 [] rfl (q_load rfl rfl sz_3 (by repeat (first | exact .here | apply Pick.there)) rfl) (by kernel_rfl) (by kernel_rfl) (by kernel_rfl) rfl ?_ | refine d_q 5 [] rfl (q_load_old rfl rfl sz_3 (rfl (Rw.rd hs.1 (i := i) (by omega)))) (by kernel_rfl) (by kernel_rfl) (by kernel_rfl) rfl ?_ | refine d_q 5 [] rfl (q_load_old rfl rfl sz_3 (hb0)) (by kernel_rfl) (by kernel_rfl) (by kernel_rfl) rfl ?_ | refine d_q 5 [] rfl (q_load_old rfl rfl sz_3 (hb1)) (by kernel_rfl) (by kernel_rfl) (by kernel_rfl) rfl ?_ | refine d_q 5 [] rfl (q_load_old rfl rfl sz_3 ((hs.1.rdj (i := i - 1) 0 (by omega) rfl))) (by kernel_rfl) (by kernel_rfl) (by kernel_rfl) rfl ?_
    refine d_p 6 rfl (p_pure rfl) (by kernel_rfl) rfl rfl ?_
    try (refine d_slot (i64w (by omega) (by omega)) ?_)
    refine d_q 7 [] rfl (q_call rfl fn_49 rfl (fun w1 h1 => c49 w1 _ _ _)) (by kernel_rfl) (by kernel_rfl) (by kernel_rfl) rfl ?_
    refine d_q 8 [] rfl (q_call rfl fn_48 rfl (fun w1 h1 => c48 w1 _ _)) (by kernel_rfl) (by kernel_rfl) (by kernel_rfl) rfl ?_
    first | refine d_q 9 [] rfl (q_loadn rfl rfl sz_48 (by repeat (first | exact .here | apply Pick.there)) rfl) (by kernel_rfl) (by kernel_rfl) (by kernel_rfl) rfl ?_ | refine d_q 9 [] rfl (q_load_oldn _ rfl rfl sz_48 rfl (Rw.rd hs.1 (i := i) (by omega))) (by kernel_rfl) (by kernel_rfl) (by kernel_rfl) rfl ?_ | refine d_q 9 [] rfl (q_load_oldn _ rfl rfl sz_48 hb0) (by kernel_rfl) (by kernel_rfl) (by kernel_rfl) rfl ?_ | refine d_q 9 [] rfl (q_load_oldn _ rfl rfl sz_48 hb1) (by kernel_rfl) (by kernel_rfl) (by kernel_rfl) rfl ?_ | refine d_q 9 [] rfl (q_load_oldn _ rfl rfl sz_48 (hs.1.rdj (i := i - 1) 0 (by omega) rfl)) (by kernel_rfl) (by kernel_rfl) (by kernel_rfl) rfl ?_
    refine d_q 10 [] rfl (q_call rfl fn_62 rfl (fun w1 h1 => c62 w1 _)) (by kernel_rfl) (by kernel_rfl) (by kernel_rfl) rfl ?_
    refine d_p 11 rfl (p_pure rfl) (by kernel_rfl) rfl rfl ?_
    refine d_p 12 rfl (p_pure rfl) (by kernel_rfl) rfl rfl ?_
    refine d_p 13 rfl (p_pure rfl) (by kernel_rfl) rfl rfl ?_
    apply d_split 26
    · exact rfl
    · intro hg2
      have hs3 := hg2; try simp only [decide_eq_true_eq, decide_eq_false_iff_not, Bool.not_eq_true', Bool.not_eq_false', Bool.and_eq_true, Bool.or_eq_true, Bool.and_eq_false_iff, Bool.or_eq_false_iff, Bool.not_true, Bool.not_false] at hs3
      refine d_off 14 26 rfl rfl rfl hg2 (by kernel_rfl) rfl rfl ?_
      refine d_off 15 26 rfl rfl rfl hg2 (by kernel_rfl) rfl rfl ?_
      refine d_off 16 26 rfl rfl rfl hg2 (by kernel_rfl) rfl rfl ?_
      refine d_off 17 26 rfl rfl rfl hg2 (by kernel_rfl) rfl rfl ?_
      refine d_off 18 26 rfl rfl rfl hg2 (by kernel_rfl) rfl rfl ?_
      refine d_off 19 26 rfl rfl rfl hg2 (by kernel_rfl) rfl rfl ?_
      refine d_off 20 26 rfl rfl rfl hg2 (by kernel_rfl) rfl rfl ?_
      refine d_off 21 26 rfl rfl rfl hg2 (by kernel_rfl) rfl rfl ?_
      refine d_off 22 26 rfl rfl rfl hg2 (by kernel_rfl) rfl rfl ?_
      refine d_off 23 26 rfl rfl rfl hg2 (by kernel_rfl) rfl rfl ?_
      refine d_p 24 rfl (p_pickt rfl rfl hg2 rfl) (by kernel_rfl) rfl rfl ?_
      refine d_q 25 [] rfl (q_call rfl fn_48 rfl (fun w1 h1 => c48 w1 _ _)) (by kernel_rfl) (by kernel_rfl) (by kernel_rfl) rfl ?_
      refine d_p 26 rfl (p_fieldAddr rfl rfl fd_48_4 sz_46 rfl) (by kernel_rfl) rfl rfl ?_
      first | refine d_q 27 [] rfl (q_load rfl rfl sz_46 (by repeat (first | exact .here | apply Pick.there)) rfl) (by kernel_rfl) (by kernel_rfl) (by kernel_rfl) rfl ?_ | refine d_q 27 [] rfl (q_load_old rfl rfl sz_46 (rfl (Rw.rd hs.1 (i := i) (by omega)))) (by kernel_rfl) (by kernel_rfl) (by kernel_rfl) rfl ?_ | refine d_q 27 [] rfl (q_load_old rfl rfl sz_46 (hb0)) (by kernel_rfl) (by kernel_rfl) (by kernel_rfl) rfl ?_ | refine d_q 27 [] rfl (q_load_old rfl rfl sz_46 (hb1)) (by kernel_rfl) (by kernel_rfl) (by kernel_rfl) rfl ?_ | refine d_q 27 [] rfl (q_load_old rfl rfl sz_46 ((hs.1.rdj (i := i - 1) 0 (by omega) rfl))) (by kernel_rfl) (by kernel_rfl) (by kernel_rfl) rfl ?_
      first | refine d_p 28 rfl (p_len_slice rfl rfl Try.underlying46) (by kernel_rfl) rfl rfl ?_ | refine d_q 28 [] rfl (q_len_own rfl rfl Try.underlying46 (by repeat (first | exact .here | apply Pick.there))) (by kernel_rfl) (by kernel_rfl) (by kernel_rfl) rfl ?_
      refine d_p 29 rfl (p_pure rfl) (by kernel_rfl) rfl rfl ?_
      refine d_q 30 [] rfl (q_call rfl fn_48 rfl (fun w1 h1 => c48 w1 _ _)) (by kernel_rfl) (by kernel_rfl) (by kernel_rfl) rfl ?_
      refine d_h 31 rfl (h_buildSlice (cs := [_, _, _, _]) rfl rfl sl_146 zr_28 rfl rfl rfl) (by kernel_rfl) (fun w h => h.ent (by repeat (first | exact .nil | refine .cons (by repeat (first | exact .here | apply Pick.there)) ?_))) rfl (fun b4 _ => ?_)
      refine d_base (fun w h => h.ent (by repeat (first | exact .nil | refine .cons (by repeat (first | exact .here | apply Pick.there)) ?_))) ?_
      refine d_q 32 [] rfl (q_call rfl fn_52 rfl (fun w1 h1 => f52 h1 (by repeat (first | exact .here | apply Pick.there)) (by rfl) (by rfl) (by decide))) (by kernel_rfl) (by kernel_rfl) (by kernel_rfl) rfl ?_
      refine d_p 33 rfl (p_pure rfl) (by kernel_rfl) rfl rfl ?_
      refine d_nil (by kernel_rfl) (fun w h => h.ent (by repeat (first | exact .nil | refine .cons (by repeat (first | exact .here | apply Pick.there)) ?_))) ?_
      exact s_joinI () trivial (sl_c (congrArg (fun e => some (Value.int .i64 e)) ((by have hw9 := hd_way (next := next) (ops := plo l) (k := i) (b := true) (by simp; omega); rw [ep] at hw9; exact hw9) )) (by repeat (first | exact sl_n | refine sl_c rfl ?_))) (fun w h => h.ent (by repeat (first | exact .nil | refine .cons (by repeat (first | exact .here | apply Pick.there)) ?_)))
    · intro hg5
      have hs6 := hg5; try simp only [decide_eq_true_eq, decide_eq_false_iff_not, Bool.not_eq_true', Bool.not_eq_false', Bool.and_eq_true, Bool.or_eq_true, Bool.and_eq_false_iff, Bool.or_eq_false_iff, Bool.not_true, Bool.not_false] at hs6
      refine d_pon 14 26 rfl rfl rfl hg5 (p_pure rfl) (by kernel_rfl) rfl rfl ?_
      refine d_pon 15 26 rfl rfl rfl hg5 (p_pure rfl) (by kernel_rfl) rfl rfl ?_
      refine d_pon 16 26 rfl rfl rfl hg5 (p_pure rfl) (by kernel_rfl) rfl rfl ?_
      try (refine d_slot (i64w (by omega) (by omega)) ?_)
      refine d_pon 17 26 rfl rfl rfl hg5 (p_max2 rfl rfl rfl ) (by kernel_rfl) rfl rfl ?_
      refine d_slot (show _ = Value.int .i64 ((i - 1 : Nat) : Int) from by congr 1; split <;> omega) ?_
      first | refine d_pon 18 26 rfl rfl rfl hg5 (p_indexAddr rfl rfl rfl sl_75 ((i - 1)) (by omega) (by omega) rfl) (by kernel_rfl) rfl rfl ?_ | refine d_pon 18 26 rfl rfl rfl hg5 (p_indexAddr rfl rfl rfl sl_75 ((i - 1)) (by omega) (by omega) (Rw.some hs.1 (by omega))) (by kernel_rfl) rfl rfl ?_
      refine d_pon 19 26 rfl rfl rfl hg5 (p_fieldAddr rfl rfl fd_48_0 sz_3 rfl) (by kernel_rfl) rfl rfl ?_
      first | refine d_qon 20 26 [] rfl rfl rfl hg5 (q_load rfl rfl sz_3 (by repeat (first | exact .here | apply Pick.there)) rfl) (by kernel_rfl) (by kernel_rfl) (by kernel_rfl) rfl ?_ | refine d_qon 20 26 [] rfl rfl rfl hg5 (q_load_old rfl rfl sz_3 (rfl (Rw.rd hs.1 (i := i) (by omega)))) (by kernel_rfl) (by kernel_rfl) (by kernel_rfl) rfl ?_ | refine d_qon 20 26 [] rfl rfl rfl hg5 (q_load_old rfl rfl sz_3 (hb0)) (by kernel_rfl) (by kernel_rfl) (by kernel_rfl) rfl ?_ | refine d_qon 20 26 [] rfl rfl rfl hg5 (q_load_old rfl rfl sz_3 (hb1)) (by kernel_rfl) (by kernel_rfl) (by kernel_rfl) rfl ?_ | refine d_qon 20 26 [] rfl rfl rfl hg5 (q_load_old rfl rfl sz_3 ((hs.1.rdj (i := i - 1) 0 (by omega) rfl))) (by kernel_rfl) (by kernel_rfl) (by kernel_rfl) rfl ?_
      refine d_pon 21 26 rfl rfl rfl hg5 (p_fieldAddr rfl rfl fd_48_0 sz_3 rfl) (by kernel_rfl) rfl rfl ?_
      first | refine d_qon 22 26 [] rfl rfl rfl hg5 (q_load rfl rfl sz_3 (by repeat (first | exact .here | apply Pick.there)) rfl) (by kernel_rfl) (by kernel_rfl) (by kernel_rfl) rfl ?_ | refine d_qon 22 26 [] rfl rfl rfl hg5 (q_load_old rfl rfl sz_3 (rfl (Rw.rd hs.1 (i := i) (by omega)))) (by kernel_rfl) (by kernel_rfl) (by kernel_rfl) rfl ?_ | refine d_qon 22 26 [] rfl rfl rfl hg5 (q_load_old rfl rfl sz_3 (hb0)) (by kernel_rfl) (by kernel_rfl) (by kernel_rfl) rfl ?_ | refine d_qon 22 26 [] rfl rfl rfl hg5 (q_load_old rfl rfl sz_3 (hb1)) (by kernel_rfl) (by kernel_rfl) (by kernel_rfl) rfl ?_ | refine d_qon 22 26 [] rfl rfl rfl hg5 (q_load_old rfl rfl sz_3 ((hs.1.rdj (i := i - 1) 0 (by omega) rfl))) (by kernel_rfl) (by kernel_rfl) (by kernel_rfl) rfl ?_
      refine d_pon 23 26 rfl rfl rfl hg5 (p_pure rfl) (by kernel_rfl) rfl rfl ?_
      refine d_p 24 rfl (p_pickf rfl rfl hg5 rfl) (by kernel_rfl) rfl rfl ?_
      refine d_q 25 [] rfl (q_call rfl fn_48 rfl (fun w1 h1 => c48 w1 _ _)) (by kernel_rfl) (by kernel_rfl) (by kernel_rfl) rfl ?_
      refine d_p 26 rfl (p_fieldAddr rfl rfl fd_48_4 sz_46 rfl) (by kernel_rfl) rfl rfl ?_
      first | refine d_q 27 [] rfl (q_load rfl rfl sz_46 (by repeat (first | exact .here | apply Pick.there)) rfl) (by kernel_rfl) (by kernel_rfl) (by kernel_rfl) rfl ?_ | refine d_q 27 [] rfl (q_load_old rfl rfl sz_46 (rfl (Rw.rd hs.1 (i := i) (by omega)))) (by kernel_rfl) (by kernel_rfl) (by kernel_rfl) rfl ?_ | refine d_q 27 [] rfl (q_load_old rfl rfl sz_46 (hb0)) (by kernel_rfl) (by kernel_rfl) (by kernel_rfl) rfl ?_ | refine d_q 27 [] rfl (q_load_old rfl rfl sz_46 (hb1)) (by kernel_rfl) (by kernel_rfl) (by kernel_rfl) rfl ?_ | refine d_q 27 [] rfl (q_load_old rfl rfl sz_46 ((hs.1.rdj (i := i - 1) 0 (by omega) rfl))) (by kernel_rfl) (by kernel_rfl) (by kernel_rfl) rfl ?_
      first | refine d_p 28 rfl (p_len_slice rfl rfl Try.underlying46) (by kernel_rfl) rfl rfl ?_ | refine d_q 28 [] rfl (q_len_own rfl rfl Try.underlying46 (by repeat (first | exact .here | apply Pick.there))) (by kernel_rfl) (by kernel_rfl) (by kernel_rfl) rfl ?_
      refine d_p 29 rfl (p_pure rfl) (by kernel_rfl) rfl rfl ?_
      refine d_q 30 [] rfl (q_call rfl fn_48 rfl (fun w1 h1 => c48 w1 _ _)) (by kernel_rfl) (by kernel_rfl) (by kernel_rfl) rfl ?_
      refine d_h 31 rfl (h_buildSlice (cs := [_, _, _, _]) rfl rfl sl_146 zr_28 rfl rfl rfl) (by kernel_rfl) (fun w h => h.ent (by repeat (first | exact .nil | refine .cons (by repeat (first | exact .here | apply Pick.there)) ?_))) rfl (fun b7 _ => ?_)
      refine d_base (fun w h => h.ent (by repeat (first | exact .nil | refine .cons (by repeat (first | exact .here | apply Pick.there)) ?_))) ?_
      refine d_q 32 [] rfl (q_call rfl fn_52 rfl (fun w1 h1 => f52 h1 (by repeat (first | exact .here | apply Pick.there)) (by rfl) (by rfl) (by decide))) (by kernel_rfl) (by kernel_rfl) (by kernel_rfl) rfl ?_
      refine d_p 33 rfl (p_pure rfl) (by kernel_rfl) rfl rfl ?_
      refine d_nil (by kernel_rfl) (fun w h => h.ent (by repeat (first | exact .nil | refine .cons (by repeat (first | exact .here | apply Pick.there)) ?_))) ?_
      exact s_joinI () trivial (sl_c (congrArg (fun e => some (Value.int .i64 e)) (by have hw9 := hd_way (next := next) (ops := plo l) (k := i) (b := decide ((nth l (i - 1)).hd < (nth l i).hd)) (by rw [ep, nth_plo (by omega)]; simp only [LOpn.pl]; apply decide_eq_decide.2; omega); rw [ep] at hw9; exact hw9)) (by repeat (first | exact sl_n | refine sl_c rfl ?_))) (fun w h => h.ent (by repeat (first | exact .nil | refine .cons (by repeat (first | exact .here | apply Pick.there)) ?_)))
  · intro _ _
    refine s_seq ?_
    refine s_seq ?_
    refine s_region ?_
    refine o_p (p_pure rfl) rfl ?_
    refine o_p (p_pure rfl) rfl ?_
    refine o_nil ?_
    refine s_cutI (α := Unit) [8, 48, 49, 50, 51, 52, 53] (fun _ => [(8, .int .i64 (hdE2 next (plo l) i))]) (fun _ => HS w [] [.blk b1 48 5 [.int .i64 (nth l i).hd, .int .i64 (nth l i).ac, .int .i64 (nth l i).sh, .bool (nth l i).dl, .slice (nth l i).la (nth l i).lk.length (nth l i).lc]]) (fun _ => True) ?_ ?_
    · skip
      refine s_cond rfl (fun h8 => ?_) (fun h8 => ?_)
      · try simp only [decide_eq_true_eq, decide_eq_false_iff_not, Bool.not_eq_true', Bool.not_eq_false', Bool.and_eq_true, Bool.or_eq_true, Bool.and_eq_false_iff, Bool.or_eq_false_iff, Bool.not_true, Bool.not_false] at h8
        have he1 : hdE1 next (plo l) i = 0 := by omega
        have h10 := hd1_0 he1
        rw [ep] at h10
        refine s_region ?_
        refine o_p (p_fieldAddr rfl rfl fd_48_4 sz_46 rfl) rfl ?_
        first | refine o_q (q_load rfl rfl sz_46 (by repeat (first | exact .here | apply Pick.there)) rfl) rfl ?_ | refine o_q (q_load_old rfl rfl sz_46 (rfl (Rw.rd hs.1 (i := i) (by omega)))) rfl ?_ | refine o_q (q_load_old rfl rfl sz_46 (hb0)) rfl ?_ | refine o_q (q_load_old rfl rfl sz_46 (hb1)) rfl ?_ | refine o_q (q_load_old rfl rfl sz_46 ((hs.1.rdj (i := i - 1) 0 (by omega) rfl))) rfl ?_
        refine o_q (q_call rfl fn_92 rfl (fun w1 h1 => by have h9 := c92 w1 (nth l i).la (nth l i).lc (nth l i).lk 93 #[] ((nth l i).lk.map fun k => rngE k.fr k.cnt) ((hs.at hi).later h1) (by have := h10.2.2.2; simp only [LOpn.pl] at this; omega) (by kernel_rfl) (by simp) (fun j w2 hj _ h2 => by rw [map_getD_nth hj]; exact c93 w2 _ _); exact h9)) rfl ?_
        refine o_p (p_pure rfl) rfl ?_
        refine o_p (p_pure rfl) rfl ?_
        refine o_p (p_pure rfl) rfl ?_
        refine o_p (p_pure rfl) rfl ?_
        refine o_nil ?_
        exact s_joinI () trivial (sl_c (congrArg (fun e => some (Value.int .i64 e)) (by rw [hdE2, if_pos he1, ep]; rfl)) (by repeat (first | exact sl_n | refine sl_c rfl ?_))) (fun w h => h.ent (by repeat (first | exact .nil | refine .cons (by repeat (first | exact .here | apply Pick.there)) ?_)))
      · try simp only [decide_eq_true_eq, decide_eq_false_iff_not, Bool.not_eq_true', Bool.not_eq_false', Bool.and_eq_true, Bool.or_eq_true, Bool.and_eq_false_iff, Bool.or_eq_false_iff, Bool.not_true, Bool.not_false] at h8
        refine s_skip ?_
        exact s_joinI () trivial (sl_c (congrArg (fun e => some (Value.int .i64 e)) (by rw [hdE2, if_neg (by omega)])) (by repeat (first | exact sl_n | refine sl_c rfl ?_))) (fun w h => h.ent (by repeat (first | exact .nil | refine .cons (by repeat (first | exact .here | apply Pick.there)) ?_)))
    · intro _ _
      refine s_seq ?_
      refine s_draw [] mixed ?_
      refine d_p 0 rfl (p_pure rfl) (by kernel_rfl) rfl rfl ?_
      refine d_p 1 rfl (p_pure rfl) (by kernel_rfl) rfl rfl ?_
      refine d_p 2 rfl (p_pure rfl) (by kernel_rfl) rfl rfl ?_
      refine d_p 3 rfl (p_fieldAddr rfl rfl fd_114_1 sz_112 rfl) (by kernel_rfl) rfl rfl ?_
      first | refine d_q 4 [] rfl (q_load rfl rfl sz_112 (by repeat (first | exact .here | apply Pick.there)) rfl) (by kernel_rfl) (by kernel_rfl) (by kernel_rfl) rfl ?_ | refine d_q 4 [] rfl (q_load_old rfl rfl sz_112 (rfl (Rw.rd hs.1 (i := i) (by omega)))) (by kernel_rfl) (by kernel_rfl) (by kernel_rfl) rfl ?_ | refine d_q 4 [] rfl (q_load_old rfl rfl sz_112 (hb0)) (by kernel_rfl) (by kernel_rfl) (by kernel_rfl) rfl ?_ | refine d_q 4 [] rfl (q_load_old rfl rfl sz_112 (hb1)) (by kernel_rfl) (by kernel_rfl) (by kernel_rfl) rfl ?_ | refine d_q 4 [] rfl (q_load_old rfl rfl sz_112 ((hs.1.rdj (i := i - 1) 0 (by omega) rfl))) (by kernel_rfl) (by kernel_rfl) (by kernel_rfl) rfl ?_
      refine d_p 5 rfl (p_fieldAddr rfl rfl fd_48_0 sz_3 rfl) (by kernel_rfl) rfl rfl ?_
      first | refine d_q 6 [] rfl (q_load rfl rfl sz_3 (by repeat (first | exact .here | apply Pick.there)) rfl) (by kernel_rfl) (by kernel_rfl) (by kernel_rfl) rfl ?_ | refine d_q 6 [] rfl (q_load_old rfl rfl sz_3 (rfl (Rw.rd hs.1 (i := i) (by omega)))) (by kernel_rfl) (by kernel_rfl) (by kernel_rfl) rfl ?_ | refine d_q 6 [] rfl (q_load_old rfl rfl sz_3 (hb0)) (by kernel_rfl) (by kernel_rfl) (by kernel_rfl) rfl ?_ | refine d_q 6 [] rfl (q_load_old rfl rfl sz_3 (hb1)) (by kernel_rfl) (by kernel_rfl) (by kernel_rfl) rfl ?_ | refine d_q 6 [] rfl (q_load_old rfl rfl sz_3 ((hs.1.rdj (i := i - 1) 0 (by omega) rfl))) (by kernel_rfl) (by kernel_rfl) (by kernel_rfl) rfl ?_
      first | refine d_q 7 [] rfl (q_lookup rfl rfl rfl Try.underlying112 zv_4 (key_int ki_3) (by repeat (first | exact .here | apply Pick.there))) (by kernel_rfl) (by kernel_rfl) (by kernel_rfl) rfl ?_ | refine d_q 7 [] rfl (q_lookup_old rfl rfl rfl Try.underlying112 zv_4 (key_int ki_3) (hr)) (by kernel_rfl) (by kernel_rfl) (by kernel_rfl) rfl ?_
      refine d_p 8 rfl (p_pure rfl) (by kernel_rfl) rfl rfl ?_
      refine d_q 9 [] rfl (q_call rfl fn_48 rfl (fun w1 h1 => c48 w1 _ _)) (by kernel_rfl) (by kernel_rfl) (by kernel_rfl) rfl ?_
      refine d_h 10 rfl (h_buildSlice (cs := [_, _]) rfl rfl sl_146 zr_28 rfl rfl rfl) (by kernel_rfl) (fun w h => h.ent (by repeat (first | exact .nil | refine .cons (by repeat (first | exact .here | apply Pick.there)) ?_))) rfl (fun b9 _ => ?_)
      refine d_base (fun w h => h.ent (by repeat (first | exact .nil | refine .cons (by repeat (first | exact .here | apply Pick.there)) ?_))) ?_
      refine d_q 11 [] rfl (q_call rfl fn_52 rfl (fun w1 h1 => f52 h1 (by repeat (first | exact .here | apply Pick.there)) (by rfl) (by rfl) (by decide))) (by kernel_rfl) (by kernel_rfl) (by kernel_rfl) rfl ?_
      refine d_slot (show _ = Value.int .i64 (hdE3 next known (plo l) i) from by congr 1; unfold hdE3; rw [ep]; simp only [firstV, cond_eq_ite]; have : ∀ p : Prop, [Decidable p] → ((if (!decide p) = true then (0 : Int) else 23) = if p then 23 else 0) := (by intro p _; by_cases p <;> simp [*]); rw [this]; simp only [LOpn.pl]; grind) ?_
      refine d_p 12 rfl (p_pure rfl) (by kernel_rfl) rfl rfl ?_
      refine d_nil (by kernel_rfl) (fun w h => h.ent (by repeat (first | exact .nil | refine .cons (by repeat (first | exact .here | apply Pick.there)) ?_))) ?_
      refine s_seq ?_
      refine s_seq ?_
      refine s_region ?_
      refine o_p (p_pure rfl) rfl ?_
      refine o_p (p_pure rfl) rfl ?_
      refine o_p (p_pure rfl) rfl ?_
      refine o_and 6 68 74 _ _ rfl
        (by
          intro hg10
          have hs11 := hg10; try simp only [decide_eq_true_eq, decide_eq_false_iff_not, Bool.not_eq_true', Bool.not_eq_false', Bool.and_eq_true, Bool.or_eq_true, Bool.and_eq_false_iff, Bool.or_eq_false_iff, Bool.not_true, Bool.not_false] at hs11
          refine o_on 68 _ rfl rfl hg10 ?_
          refine o_p (p_pure rfl) rfl ?_
          refine o_on 68 _ rfl rfl hg10 ?_
          refine o_p (p_pure rfl) rfl ?_
          refine o_on 68 _ rfl rfl hg10 ?_
          refine o_p (p_slice _ _ 0 i rfl rfl sl_75 rfl ⟨_, _, rfl, rfl⟩ (by omega) (by omega)) rfl ?_
          refine o_slot (show _ = Value.slice a (l.take i).length cap from by rw [subA0 (Rw.some hs.1 (by omega)), List.length_take]; congr 1; omega) ?_
          refine o_on 68 _ rfl rfl hg10 ?_
          refine o_p (p_pure rfl) rfl ?_
          refine o_on 68 _ rfl rfl hg10 ?_
          refine o_q (q_call rfl fn_95 rfl (fun w1 h1 => by have h9 := c95 w1 a cap (l.take i) 96 #[.pointer (some ⟨b1, 0, none⟩)] ((l.take i).map fun y => cfl (nth l i).pl y.pl) ((hs.take i).1.later h1) (by simp; omega) (by kernel_rfl) (by simp) (fun j w2 hj h2 => by rw [map_getD_nthB hj]; exact c96 w2 b1 _ (nth l i) (fun q v hv => by rw [Nat.zero_add]; exact (h1.rd_blk (Mc := []) (by repeat (first | exact .here | apply Pick.there)) hv (by simp)).later h2 (by simp)) (by have h30 := hd3_0 (next := next) (known := known) (ops := plo l) (k := i) (by omega); have h10 := hd1_0 (hd2_0 h30.1).1; rw [ep] at h10; exact h10.2.1) (hvo _ (mem_nth hj)).1); rw [any_map_id, ← eany] at h9; exact h9)) rfl ?_
          refine o_p (p_pickt rfl rfl hg10 rfl) rfl ?_
          refine o_nil ?_
          exact s_joinN 6 74 _ rfl rfl rfl (fun w h => by first | exact h | exact h.ent (by repeat (first | exact .nil | refine .cons (by repeat (first | exact .here | apply Pick.there)) ?_))))
        (by
          intro hg12
          have hs13 := hg12; try simp only [decide_eq_true_eq, decide_eq_false_iff_not, Bool.not_eq_true', Bool.not_eq_false', Bool.and_eq_true, Bool.or_eq_true, Bool.and_eq_false_iff, Bool.or_eq_false_iff, Bool.not_true, Bool.not_false] at hs13
          refine o_off 68 _ rfl rfl hg12 rfl ?_
          refine o_off 68 _ rfl rfl hg12 rfl ?_
          refine o_off 68 _ rfl rfl hg12 rfl ?_
          refine o_off 68 _ rfl rfl hg12 rfl ?_
          refine o_off 68 _ rfl rfl hg12 rfl ?_
          refine o_p (p_pickf rfl rfl hg12 rfl) rfl ?_
          refine o_nil ?_
          exact s_joinN 6 74 _ rfl rfl rfl (fun w h => by first | exact h | exact h.ent (by repeat (first | exact .nil | refine .cons (by repeat (first | exact .here | apply Pick.there)) ?_)))) ?_
      refine o_nil ?_
      refine s_weaken (L' := [(1, _), (2, _), (6, _), (7, _), (8, _), (74, _)]) (by repeat (first | exact sl_n | refine sl_c rfl ?_)) (fun _ h => h) ?_
      refine s_cutI (α := Unit) [8] (fun _ => [(8, .int .i64 (hdE4 next known (plo l) i))]) (fun _ => HS w [] [.blk b1 48 5 [.int .i64 (nth l i).hd, .int .i64 (nth l i).ac, .int .i64 (nth l i).sh, .bool (nth l i).dl, .slice (nth l i).la (nth l i).lk.length (nth l i).lc]]) (fun _ => True) ?_ ?_
      · skip
        refine s_cond rfl (fun h14 => ?_) (fun h14 => ?_)
        · try simp only [decide_eq_true_eq, decide_eq_false_iff_not, Bool.not_eq_true', Bool.not_eq_false', Bool.and_eq_true, Bool.or_eq_true, Bool.and_eq_false_iff, Bool.or_eq_false_iff, Bool.not_true, Bool.not_false] at h14
          refine s_region ?_
          refine o_p (p_pure rfl) rfl ?_
          refine o_nil ?_
          exact s_joinI () trivial (sl_c (congrArg (fun e => some (Value.int .i64 e)) (by have hq := h14; (try simp only [Bool.and_eq_true, decide_eq_true_eq] at hq); rw [hdE4, if_pos hq.1, if_pos hq.2])) (by repeat (first | exact sl_n | refine sl_c rfl ?_))) (fun w h => h.ent (by repeat (first | exact .nil | refine .cons (by repeat (first | exact .here | apply Pick.there)) ?_)))
        · try simp only [decide_eq_true_eq, decide_eq_false_iff_not, Bool.not_eq_true', Bool.not_eq_false', Bool.and_eq_true, Bool.or_eq_true, Bool.and_eq_false_iff, Bool.or_eq_false_iff, Bool.not_true, Bool.not_false] at h14
          refine s_skip ?_
          exact s_joinI () trivial (sl_c (congrArg (fun e => some (Value.int .i64 e)) (by have hq := h14; unfold hdE4; grind)) (by repeat (first | exact sl_n | refine sl_c rfl ?_))) (fun w h => h.ent (by repeat (first | exact .nil | refine .cons (by repeat (first | exact .here | apply Pick.there)) ?_)))
      · intro _ _
        refine s_seq ?_
        refine s_seq ?_
        refine s_region ?_
        refine o_p (p_pure rfl) rfl ?_
        refine o_p (p_pure rfl) rfl ?_
        refine o_nil ?_
        refine s_cond rfl (fun h15 => ?_) (fun h15 => ?_)
        · try simp only [decide_eq_true_eq, decide_eq_false_iff_not, Bool.not_eq_true', Bool.not_eq_false', Bool.and_eq_true, Bool.or_eq_true, Bool.and_eq_false_iff, Bool.or_eq_false_iff, Bool.not_true, Bool.not_false] at h15
          have he4 : hdE4 next known (plo l) i = 0 := by omega
          have h40 := hd4_0 he4
          have h30 := hd3_0 h40.1
          have h20 := hd2_0 h30.1
          have h10 := hd1_0 h20.1
          rw [ep] at h10 h20
          refine s_draw [] mixed ?_
          first | refine d_q 0 [] rfl (q_loadn rfl rfl sz_48 (by repeat (first | exact .here | apply Pick.there)) rfl) (by kernel_rfl) (by kernel_rfl) (by kernel_rfl) rfl ?_ | refine d_q 0 [] rfl (q_load_oldn _ rfl rfl sz_48 rfl (Rw.rd hs.1 (i := i) (by omega))) (by kernel_rfl) (by kernel_rfl) (by kernel_rfl) rfl ?_ | refine d_q 0 [] rfl (q_load_oldn _ rfl rfl sz_48 hb0) (by kernel_rfl) (by kernel_rfl) (by kernel_rfl) rfl ?_ | refine d_q 0 [] rfl (q_load_oldn _ rfl rfl sz_48 hb1) (by kernel_rfl) (by kernel_rfl) (by kernel_rfl) rfl ?_ | refine d_q 0 [] rfl (q_load_oldn _ rfl rfl sz_48 (hs.1.rdj (i := i - 1) 0 (by omega) rfl)) (by kernel_rfl) (by kernel_rfl) (by kernel_rfl) rfl ?_
          refine d_p 1 rfl (p_pure rfl) (by kernel_rfl) rfl rfl ?_
          refine d_p 2 rfl (p_pure rfl) (by kernel_rfl) rfl rfl ?_
          refine d_p 3 rfl (p_slice _ _ 0 i rfl rfl sl_75 rfl ⟨_, _, rfl, rfl⟩ (by omega) (by omega)) (by kernel_rfl) rfl rfl ?_
          refine d_slot (show _ = Value.slice a (l.take i).length cap from by rw [subA0 (Rw.some hs.1 (by omega)), List.length_take]; congr 1; omega) ?_
          refine d_q 4 [] rfl (q_call rfl fn_97 rfl (fun w1 h1 => c97 w1 (nth l i) a cap (l.take i) ((hs.take i).later h1) ((hs.at hi).later h1) h20.2 (fun o ho => (hvo o ho).2.1) (by simp; omega) (fun o ho => (hvo o ho).2.2) h10.2.2.2)) (by kernel_rfl) (by kernel_rfl) (by kernel_rfl) rfl ?_
          refine d_p 5 rfl (p_pure rfl) (by kernel_rfl) rfl rfl ?_
          refine d_nil (by kernel_rfl) (fun w h => h.ent (by repeat (first | exact .nil | refine .cons (by repeat (first | exact .here | apply Pick.there)) ?_))) ?_
          refine s_seq ?_
          refine s_region ?_
          refine o_p (p_pure rfl) rfl ?_
          refine o_p (p_pure rfl) rfl ?_
          refine o_nil ?_
          exact s_retv (rs := [.tmp 6]) rfl (.tmp rfl (.nil)) (fun w' h' => ⟨by rw [hdl_4]; first | (rw [if_pos he4, heldK_all, ← List.map_take, ep]; rfl) | (rw [if_neg (by omega)]; rfl), h'.below⟩)
        · try simp only [decide_eq_true_eq, decide_eq_false_iff_not, Bool.not_eq_true', Bool.not_eq_false', Bool.and_eq_true, Bool.or_eq_true, Bool.and_eq_false_iff, Bool.or_eq_false_iff, Bool.not_true, Bool.not_false] at h15
          refine s_skip ?_
          refine s_seq ?_
          refine s_region ?_
          refine o_p (p_pure rfl) rfl ?_
          refine o_p (p_pure rfl) rfl ?_
          refine o_nil ?_
          exact s_retv (rs := [.tmp 6]) rfl (.tmp rfl (.nil)) (fun w' h' => ⟨by rw [hdl_4]; first | (rw [if_pos he4, heldK_all, ← List.map_take, ep]; rfl) | (rw [if_neg (by omega)]; rfl), h'.below⟩)

end Go.Proofs
