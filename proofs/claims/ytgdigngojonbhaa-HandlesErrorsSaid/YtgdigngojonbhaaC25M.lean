/- Contracts of the program's functions, proved by walking them with the rules of the Gx texts; without conditions beyond those that each contract names. -/
import Derived.Test.YtgdigngojonbhaaC25L
import Derived.Test.YtgdigngojonbhaaP25A
namespace Go.Proofs
open Go Go.RowKit Gx
set_option linter.unusedVariables false
set_option linter.unusedSimpArgs false
attribute [local irreducible] Go.Calls Gx.S Gx.O Gx.D Gx.OpP Gx.OpQ Gx.OpH

theorem sl_22 : tsl Try.prog 22 = some (44, 9, 72) := by kernel_rfl
theorem sz_44 : tsz Try.prog 44 = some (9, true) := by kernel_rfl
theorem zr_44 : tzero Try.prog 44 = some [.int .i64 0, .int .i64 0, .int .i64 0, .int .i64 0, .int .i64 0, .int .i64 0, .int .i64 0, .int .i64 0, .bool false] := by kernel_rfl
theorem zr_26 : tzero Try.prog 26 = some [.int .i64 0, .slice none 0 0] := by kernel_rfl
theorem pl_26 : tplaces Try.prog 26 = some [(0, 1), (1, 1)] := by kernel_rfl
theorem fn_46 : isFn Try.prog 46 = true := by kernel_rfl
theorem pl_106 : tplaces Try.prog 106 = some [(0, 2)] := by kernel_rfl
theorem zr_106 : tzero Try.prog 106 = some [.int .i64 0, .slice none 0 0] := by kernel_rfl
theorem fn_50 : isFn Try.prog 50 = true := by kernel_rfl
theorem sl_27 : tsl Try.prog 27 = some (40, 2, 16) := by kernel_rfl


def kindE (a : HAct) : Int := if 0 ≤ a.kd ∧ a.kd ≤ 6 then 0 else 15
def runE (l : List HAct) : Int := if 100 < l.length then 8 else (eachF (l.map kindE) 0).2
def stepT (s : (List Fil × Int) × List (Int × Int)) (a : HAct) : (List Fil × Int) × List (Int × Int) :=
  (((doT s.1.2 s.1.1 a).1, (doT s.1.2 s.1.1 a).2.1), s.2 ++ [((doT s.1.2 s.1.1 a).2.2.2, (doT s.1.2 s.1.1 a).2.2.1)])
def runS (l : List HAct) : (List Fil × Int) × List (Int × Int) := l.foldl stepT (([], 1), [])
def runR (l : List HAct) : (List Fil × Int) × List (Int × Int) := if runE l = 0 then runS l else (([], 0), [])
def ansV (p : Int × Int) : List Value := [.int .i64 p.1, .int .i64 p.2]
theorem runS_ok (l : List HAct) : Ok (runS l).1.2 (runS l).1.1 := by
  suffices h : ∀ (l : List HAct) (s : (List Fil × Int) × List (Int × Int)), Ok s.1.2 s.1.1 → Ok (l.foldl stepT s).1.2 (l.foldl stepT s).1.1 from h l _ Ok.nil
  intro l
  induction l with
  | nil => exact fun s h => h
  | cons a l ih => exact fun s h => ih _ (doT_ok h)
theorem runS_succ {l : List HAct} {k : Nat} (h : k < l.length) : runS (l.take (k + 1)) = stepT (runS (l.take k)) (nth l k) := by
  unfold runS
  rw [take_succ_nth h, List.foldl_append]
  rfl
theorem runS_len (l : List HAct) : (runS l).2.length = l.length := by
  suffices h : ∀ (l : List HAct) (s : (List Fil × Int) × List (Int × Int)), (l.foldl stepT s).2.length = s.2.length + l.length from by
    have := h l (([], 1), [])
    unfold runS
    rw [this]
    simp
  intro l
  induction l with
  | nil => intro s; rfl
  | cons a l ih =>
    intro s
    rw [List.foldl_cons, ih]
    simp [stepT]
    omega
theorem HS.files_none {w0 w : World} {M : List Nat} {As : List HA} (h : HS w0 M As w) : HS w0 M (.files none 0 [] :: As) w := HS.row_shut (n := 0) (xs := []) (h.star_nil.own_nil 77 4) rfl rfl
theorem runE_big {l : List HAct} (h : 100 < l.length) : runE l = 8 := by rw [runE, if_pos h]
theorem runE_sm {l : List HAct} (h : ¬ 100 < l.length) : runE l = (eachF (l.map kindE) 0).2 := by rw [runE, if_neg h]
theorem runR_0 {l : List HAct} (h : runE l = 0) : runR l = runS l := by rw [runR, if_pos h]
theorem runR_e {l : List HAct} (h : ¬ runE l = 0) : runR l = (([], 0), []) := by rw [runR, if_neg h]

set_option maxRecDepth 20000 in
theorem c46 (w : World) (a : Option Addr) (cap : Nat) (l : List HAct) (q : Nat) (cv : Array Value) (es : List Int) (hs : Rw HAct.vals 9 w [] a l) (hm : l.length ≤ 1000000) (hq : isFn Try.prog q = true) (he : es.length = l.length) (hc : ∀ k w1, k < l.length → (∀ j, j < k → es.getD j 0 = 0) → HS w [] [] w1 → Calls Try.prog q (#[] ++ [.int .i64 (k : Int), .agg (HAct.vals (nth l k)).toArray].toArray ++ cv) w1 fun en w2 => en = .returned (.int .i64 (es.getD k 0)) ∧ Below w1.heap.size w1 w2) : Calls Try.prog 46 #[.slice a l.length cap, .func (.func q) #[] cv] w fun en w' => en = .returned (.tuple #[.int .i64 (eachF es 0).1, .int .i64 (eachF es 0).2]) ∧ Below w.heap.size w w' := by
  refine enter (args := [_, _]) Try.func46 Try.ntmps46 rfl rfl (HS.refl w []) ?_
  refine s_seq ?_
  refine s_region ?_
  refine o_p (p_pure rfl) rfl ?_
  refine o_p (p_pure rfl) rfl ?_
  refine o_nil ?_
  refine s_seq ?_
  refine s_seq ?_
  refine s_region ?_
  refine o_p (p_pure rfl) rfl ?_
  first | refine o_p (p_len_slice rfl rfl Try.underlying22) rfl ?_ | refine o_q (q_len_own rfl rfl Try.underlying22 (by repeat (first | exact .here | apply Pick.there))) rfl ?_
  refine o_p (p_pure rfl) rfl ?_
  refine o_nil ?_
  refine s_block ?_
  refine s_loopI (α := Nat) [4, 5, 6, 7, 8, 11, 12, 13, 14, 15, 16, 17, 18, 19, 20, 21, 22, 23, 24] (fun k => [(11, .int .i64 (k : Int))]) (fun _ => HS w [] []) (fun k => k ≤ l.length ∧ eachF es 0 = eachF (es.drop k) k ∧ ∀ j, j < k → es.getD j 0 = 0) (fun k => l.length - k) 0 ⟨by omega, rfl, fun i h => absurd h (Nat.not_lt_zero i)⟩ (by repeat (first | exact sl_n | refine sl_c rfl ?_)) (fun w h => h.ent (by repeat (first | exact .nil | refine .cons (by repeat (first | exact .here | apply Pick.there)) ?_))) (fun k hk => ?_)
  obtain ⟨hk1, hk2, hk3⟩ := hk
  refine s_seq ?_
  refine s_region ?_
  refine o_p (p_pure rfl) rfl ?_
  refine o_nil ?_
  refine s_seq ?_
  refine s_cond rfl (fun h1 => ?_) (fun h1 => ?_)
  · try simp only [decide_eq_true_eq, decide_eq_false_iff_not, Bool.not_eq_true', Bool.not_eq_false', Bool.and_eq_true, Bool.or_eq_true, Bool.and_eq_false_iff, Bool.or_eq_false_iff, Bool.not_true, Bool.not_false] at h1
    refine s_skip ?_
    refine s_seq ?_
    refine s_block ?_
    refine s_seq ?_
    refine s_region ?_
    refine o_p (p_pure rfl) rfl ?_
    first | refine o_p (p_indexAddr rfl rfl rfl sl_22 (k) (by omega) (by omega) rfl) rfl ?_ | refine o_p (p_indexAddr rfl rfl rfl sl_22 (k) (by omega) (by omega) (Rw.some hs (by omega))) rfl ?_
    first | refine o_q (q_loadn rfl rfl sz_44 (by repeat (first | exact .here | apply Pick.there)) rfl) rfl ?_ | refine o_q (q_load_oldn _ rfl rfl sz_44 rfl (Rw.rd hs (by omega))) rfl ?_ | refine o_q (q_load_oldn _ rfl rfl sz_44 (hs.rdj 0 (by omega) rfl)) rfl ?_
    refine o_h (h_alloc rfl zr_44) rfl (fun b2 _ => ?_)
    refine o_p (p_pure rfl) rfl ?_
    refine o_h0 (h_store rfl rfl rfl sz_44 rfl (by repeat (first | exact .here | apply Put.there)) (by simp only [setMany_length, List.length_set, List.length_cons, List.length_nil, List.length_map]; omega) rfl) (fun _ _ => ?_)
    refine o_nil ?_
    refine s_seq ?_
    refine s_region ?_
    refine o_p (p_pure rfl) rfl ?_
    refine o_p (p_pure rfl) rfl ?_
    first | refine o_q (q_loadn rfl rfl sz_44 (by repeat (first | exact .here | apply Pick.there)) rfl) rfl ?_ | refine o_q (q_load_oldn _ rfl rfl sz_44 rfl (Rw.rd hs (by omega))) rfl ?_ | refine o_q (q_load_oldn _ rfl rfl sz_44 (hs.rdj 0 (by omega) rfl)) rfl ?_
    refine o_q (q_callv rfl rfl hq rfl (fun w1 h1 => hc k w1 (by omega) hk3 (h1.ent (by repeat (first | exact .nil | refine .cons (by repeat (first | exact .here | apply Pick.there)) ?_))))) rfl ?_
    refine o_p (p_pure rfl) rfl ?_
    refine o_nil ?_
    refine s_seq ?_
    refine s_region ?_
    refine o_p (p_pure rfl) rfl ?_
    refine o_p (p_pure rfl) rfl ?_
    refine o_nil ?_
    refine s_cond rfl (fun h3 => ?_) (fun h3 => ?_)
    · try simp only [decide_eq_true_eq, decide_eq_false_iff_not, Bool.not_eq_true', Bool.not_eq_false', Bool.and_eq_true, Bool.or_eq_true, Bool.and_eq_false_iff, Bool.or_eq_false_iff, Bool.not_true, Bool.not_false] at h3
      refine s_seq ?_
      refine s_region ?_
      refine o_p (p_pure rfl) rfl ?_
      refine o_p (p_pure rfl) rfl ?_
      refine o_p (p_pure rfl) rfl ?_
      refine o_p (p_pure rfl) rfl ?_
      refine o_nil ?_
      exact s_retv (rs := [.tmp 4, .tmp 5]) rfl (.tmp rfl (.tmp rfl (.nil))) (fun w' h' => ⟨by simp only [retV]; rw [hk2, eachF_drop (by omega), if_neg (by assumption)], h'.below⟩)
    · try simp only [decide_eq_true_eq, decide_eq_false_iff_not, Bool.not_eq_true', Bool.not_eq_false', Bool.and_eq_true, Bool.or_eq_true, Bool.and_eq_false_iff, Bool.or_eq_false_iff, Bool.not_true, Bool.not_false] at h3
      refine s_skip ?_
      refine s_blk ?_
      refine s_region ?_
      refine o_p (p_pure rfl) rfl ?_
      try (refine o_slot (i64w (by omega) (by omega)) ?_)
      refine o_p (p_pure rfl) rfl ?_
      refine o_nil ?_
      exact s_backI (k+1) (by omega) ⟨by omega, by rw [hk2, eachF_drop (by omega), if_pos (by assumption)], fun j hj => (Nat.lt_or_ge j k).elim (hk3 j) (fun h => by obtain rfl : j = k := (by omega); assumption)⟩ (by repeat (first | exact sl_n | refine sl_c rfl ?_)) (fun w h => h.ent (by repeat (first | exact .nil | refine .cons (by repeat (first | exact .here | apply Pick.there)) ?_)))
  · try simp only [decide_eq_true_eq, decide_eq_false_iff_not, Bool.not_eq_true', Bool.not_eq_false', Bool.and_eq_true, Bool.or_eq_true, Bool.and_eq_false_iff, Bool.or_eq_false_iff, Bool.not_true, Bool.not_false] at h1
    refine s_exit_to rfl ?_
    refine s_seq ?_
    refine s_region ?_
    refine o_p (p_pure rfl) rfl ?_
    refine o_p (p_pure rfl) rfl ?_
    refine o_nil ?_
    exact s_retv (rs := [.tmp 4, .tmp 5]) rfl (.tmp rfl (.tmp rfl (.nil))) (fun w' h' => ⟨by simp only [retV]; rw [hk2, eachF_end (by omega)], h'.below⟩)

set_option maxRecDepth 20000 in
theorem c47 (w : World) (i : Int) (a9 : HAct) : Calls Try.prog 47 #[.int .i64 i, .agg #[.int .i64 a9.kd, .int .i64 a9.hd, .int .i64 a9.ac, .int .i64 a9.sh, .int .i64 a9.fr, .int .i64 a9.cnt, .int .i64 a9.rc, .int .i64 a9.sq, .bool a9.fl]] w fun en w' => en = .returned (.int .i64 (kindE a9)) ∧ Below w.heap.size w w' := by
  refine enter (args := [_, _]) Try.func47 Try.ntmps47 rfl rfl (HS.refl w []) ?_
  refine s_seq ?_
  refine s_region ?_
  refine o_h (h_box rfl rfl) rfl (fun b1 _ => ?_)
  refine o_p (p_pure rfl) rfl ?_
  refine o_nil ?_
  refine s_seq ?_
  refine s_region ?_
  refine o_p (p_fieldAddr rfl rfl fd_44_0 sz_3 rfl) rfl ?_
  refine o_q (q_load rfl rfl sz_3 (by repeat (first | exact .here | apply Pick.there)) rfl) rfl ?_
  refine o_q (q_call rfl fn_49 rfl (fun w1 h1 => c49 w1 _ _ _)) rfl ?_
  refine o_q (q_call rfl fn_48 rfl (fun w1 h1 => c48 w1 _ _)) rfl ?_
  refine o_p (p_pure rfl) rfl ?_
  refine o_nil ?_
  exact s_retv (rs := [.tmp 4]) rfl (.tmp rfl (.nil)) (fun w' h' => ⟨by simp only [retV, kindE, cond_eq_ite, Bool.and_eq_true, decide_eq_true_eq], h'.below⟩)

set_option maxRecDepth 20000 in
set_option maxHeartbeats 1000000 in
theorem c12 (w : World) (a : Option Addr) (cap : Nat) (l : List HAct) (hs : Rw HAct.vals 9 w [] a l) (hm : l.length ≤ 1000000) : Calls Try.prog 12 #[.slice a l.length cap] w fun en w' => ∃ g : ((Option Addr × Nat) × List LFil) × (Option Addr × Nat), en = .returned (.tuple #[.agg #[.int .i64 (runR l).1.2, .slice g.1.1.1 g.1.2.length g.1.1.2], .slice g.2.1 (runR l).2.length g.2.2, .int .i64 (runE l)]) ∧ pls g.1.2 = (runR l).1.1 ∧ HS w [] [.files g.1.1.1 g.1.1.2 g.1.2, .own (.slice g.2.1 (runR l).2.length g.2.2) 40 2 (runR l).2.length ((runR l).2.flatMap ansV)] w' := by
  refine enter (args := [_]) Try.func12 Try.ntmps12 rfl rfl (HS.refl w []) ?_
  refine s_seq ?_
  refine s_region ?_
  refine o_h (h_alloc rfl zr_26) rfl (fun b1 _ => ?_)
  refine o_p (p_pure rfl) rfl ?_
  refine o_p (p_pure rfl) rfl ?_
  refine o_nil ?_
  refine s_seq ?_
  refine s_seq ?_
  refine s_region ?_
  refine o_p (p_pure rfl) rfl ?_
  first | refine o_p (p_len_slice rfl rfl Try.underlying22) rfl ?_ | refine o_q (q_len_own rfl rfl Try.underlying22 (by repeat (first | exact .here | apply Pick.there))) rfl ?_
  refine o_p (p_pure rfl) rfl ?_
  refine o_nil ?_
  refine s_cond rfl (fun h2 => ?_) (fun h2 => ?_)
  · try simp only [decide_eq_true_eq, decide_eq_false_iff_not, Bool.not_eq_true', Bool.not_eq_false', Bool.and_eq_true, Bool.or_eq_true, Bool.and_eq_false_iff, Bool.or_eq_false_iff, Bool.not_true, Bool.not_false] at h2
    have hbig : 100 < l.length := by have hq := h2; omega
    refine s_seq ?_
    refine s_region ?_
    refine o_p (p_build (cs := [_, _]) rfl rfl pl_26 zr_26 rfl) rfl ?_
    refine o_h0 (h_store rfl rfl rfl sz_26 rfl (by repeat (first | exact .here | apply Put.there)) (by simp only [setMany_length, List.length_set, List.length_cons, List.length_nil, List.length_map]; omega) rfl) (fun _ _ => ?_)
    refine o_p (p_pure rfl) rfl ?_
    refine o_p (p_pure rfl) rfl ?_
    refine o_nil ?_
    exact s_retv (rs := [.cell 2 26, .tmp 3, .tmp 4]) rfl (.cell rfl sz_26 (by repeat (first | exact .here | apply Pick.there)) rfl (.tmp rfl (.tmp rfl (.nil)))) (fun w' h' => ⟨(((none, 0), []), (none, 0)), by rw [runR_e (by rw [runE_big hbig]; decide)]; rw [runE_big hbig]; rfl, by rw [runR_e (by rw [runE_big hbig]; decide)]; rfl, by rw [runR_e (by rw [runE_big hbig]; decide)]; exact ((HS.files_none h').own_nil 40 2).ent (by repeat (first | exact .nil | refine .cons (by repeat (first | exact .here | apply Pick.there)) ?_))⟩)
  · try simp only [decide_eq_true_eq, decide_eq_false_iff_not, Bool.not_eq_true', Bool.not_eq_false', Bool.and_eq_true, Bool.or_eq_true, Bool.and_eq_false_iff, Bool.or_eq_false_iff, Bool.not_true, Bool.not_false] at h2
    have hbig : ¬ 100 < l.length := by have hq := h2; omega
    refine s_skip ?_
    refine s_seq ?_
    refine s_seq ?_
    refine s_region ?_
    refine o_p (p_pure rfl) rfl ?_
    refine o_q (q_call rfl fn_46 rfl (fun w1 h1 => c46 w1 a cap l 47 #[] (l.map kindE) (hs.later h1) hm (by kernel_rfl) (by simp) (fun k w2 hk _ h2 => by rw [map_getD_nth hk]; exact c47 w2 _ _))) rfl ?_
    refine o_p (p_pure rfl) rfl ?_
    refine o_p (p_pure rfl) rfl ?_
    refine o_p (p_pure rfl) rfl ?_
    refine o_p (p_pure rfl) rfl ?_
    refine o_p (p_pure rfl) rfl ?_
    refine o_nil ?_
    refine s_seq ?_
    refine s_region ?_
    refine o_p (p_pure rfl) rfl ?_
    refine o_p (p_pure rfl) rfl ?_
    refine o_nil ?_
    refine s_cond rfl (fun h3 => ?_) (fun h3 => ?_)
    · try simp only [decide_eq_true_eq, decide_eq_false_iff_not, Bool.not_eq_true', Bool.not_eq_false', Bool.and_eq_true, Bool.or_eq_true, Bool.and_eq_false_iff, Bool.or_eq_false_iff, Bool.not_true, Bool.not_false] at h3
      have hke : ¬ (eachF (l.map kindE) 0).2 = 0 := h3
      refine s_seq ?_
      refine s_region ?_
      refine o_p (p_build (cs := [_, _]) rfl rfl pl_26 zr_26 rfl) rfl ?_
      refine o_p (p_pure rfl) rfl ?_
      refine o_h0 (h_store rfl rfl rfl sz_26 rfl (by repeat (first | exact .here | apply Put.there)) (by simp only [setMany_length, List.length_set, List.length_cons, List.length_nil, List.length_map]; omega) rfl) (fun _ _ => ?_)
      refine o_p (p_pure rfl) rfl ?_
      refine o_p (p_pure rfl) rfl ?_
      refine o_nil ?_
      exact s_retv (rs := [.cell 2 26, .tmp 3, .tmp 4]) rfl (.cell rfl sz_26 (by repeat (first | exact .here | apply Pick.there)) rfl (.tmp rfl (.tmp rfl (.nil)))) (fun w' h' => ⟨(((none, 0), []), (none, 0)), by rw [runR_e (by rw [runE_sm hbig]; exact hke)]; rw [runE_sm hbig]; rfl, by rw [runR_e (by rw [runE_sm hbig]; exact hke)]; rfl, by rw [runR_e (by rw [runE_sm hbig]; exact hke)]; exact ((HS.files_none h').own_nil 40 2).ent (by repeat (first | exact .nil | refine .cons (by repeat (first | exact .here | apply Pick.there)) ?_))⟩)
    · try simp only [decide_eq_true_eq, decide_eq_false_iff_not, Bool.not_eq_true', Bool.not_eq_false', Bool.and_eq_true, Bool.or_eq_true, Bool.and_eq_false_iff, Bool.or_eq_false_iff, Bool.not_true, Bool.not_false] at h3
      have hke : (eachF (l.map kindE) 0).2 = 0 := h3
      have hrz : runE l = 0 := by rw [runE_sm hbig]; exact hke
      refine s_skip ?_
      refine s_seq ?_
      refine s_region ?_
      refine o_p (p_build (cs := [_, _]) rfl rfl pl_26 zr_26 rfl) rfl ?_
      refine o_p (p_build (cs := [_, _]) rfl rfl pl_106 zr_106 rfl) rfl ?_
      refine o_h (h_box rfl rfl) rfl (fun b4 _ => ?_)
      refine o_p (p_pure rfl) rfl ?_
      refine o_nil ?_
      refine s_seq ?_
      refine s_region ?_
      refine o_p (p_pure rfl) rfl ?_
      refine o_nil ?_
      refine s_seq ?_
      refine s_seq ?_
      refine s_region ?_
      refine o_p (p_pure rfl) rfl ?_
      first | refine o_p (p_len_slice rfl rfl Try.underlying22) rfl ?_ | refine o_q (q_len_own rfl rfl Try.underlying22 (by repeat (first | exact .here | apply Pick.there))) rfl ?_
      refine o_p (p_pure rfl) rfl ?_
      refine o_nil ?_
      refine s_block ?_
      refine s_weaken (L' := [(2, _), (3, _), (4, _), (7, _), (8, _), (27, _), (28, _), (29, _)]) (by repeat (first | exact sl_n | refine sl_c rfl ?_)) (fun _ h => h) ?_
      refine s_loopI (α := Nat × ((Option Addr × Nat) × List LFil) × (Option Addr × Nat)) [8, 10, 29, 30, 31, 32, 33, 34, 35, 36, 37, 38, 39] (fun y => [(29, .int .i64 (y.1 : Int)), (8, .slice y.2.2.1 y.1 y.2.2.2)]) (fun y => HS w [] [.blk b4 106 2 [.int .i64 (runS (l.take y.1)).1.2, .slice y.2.1.1.1 y.2.1.2.length y.2.1.1.2], .files y.2.1.1.1 y.2.1.1.2 y.2.1.2, .own (.slice y.2.2.1 y.1 y.2.2.2) 40 2 y.1 ((runS (l.take y.1)).2.flatMap ansV), .blk b1 26 2 [.int .i64 0, .slice none 0 0]]) (fun y => y.1 ≤ l.length ∧ pls y.2.1.2 = (runS (l.take y.1)).1.1) (fun y => l.length - y.1) (0, ((none, 0), []), (none, 0)) ⟨Nat.zero_le _, rfl⟩ (by repeat (first | exact sl_n | refine sl_c rfl ?_)) (fun w h => ((HS.files_none h).own_nil 40 2).ent (by repeat (first | exact .nil | refine .cons (by repeat (first | exact .here | apply Pick.there)) ?_))) (fun ⟨k, x, o⟩ hk => ?_)
      dsimp only at hk ⊢
      obtain ⟨hk1, hk2⟩ := hk
      refine s_seq ?_
      refine s_region ?_
      refine o_p (p_pure rfl) rfl ?_
      refine o_nil ?_
      refine s_seq ?_
      refine s_cond rfl (fun h5 => ?_) (fun h5 => ?_)
      · try simp only [decide_eq_true_eq, decide_eq_false_iff_not, Bool.not_eq_true', Bool.not_eq_false', Bool.and_eq_true, Bool.or_eq_true, Bool.and_eq_false_iff, Bool.or_eq_false_iff, Bool.not_true, Bool.not_false] at h5
        have hkl : k < l.length := by omega
        have hok := runS_ok (l.take k)
        have hnx := hok.nx
        rw [← hk2] at hok
        have hvw := hok.vw
        have e : runS (l.take (k + 1)) = (((doT (runS (l.take k)).1.2 (pls x.2) (nth l k)).1, (doT (runS (l.take k)).1.2 (pls x.2) (nth l k)).2.1), (runS (l.take k)).2 ++ [((doT (runS (l.take k)).1.2 (pls x.2) (nth l k)).2.2.2, (doT (runS (l.take k)).1.2 (pls x.2) (nth l k)).2.2.1)]) := by rw [runS_succ hkl, stepT, ← hk2]
        have e3 : (runS (l.take (k + 1))).2.flatMap ansV = (runS (l.take k)).2.flatMap ansV ++ [.int .i64 (doT (runS (l.take k)).1.2 (pls x.2) (nth l k)).2.2.2, .int .i64 (doT (runS (l.take k)).1.2 (pls x.2) (nth l k)).2.2.1] := by rw [e, flat_append]; rfl
        refine s_skip ?_
        refine s_seq ?_
        refine s_block ?_
        refine s_seq ?_
        refine s_region ?_
        first | refine o_p (p_indexAddr rfl rfl rfl sl_22 (k) (by omega) (by omega) rfl) rfl ?_ | refine o_p (p_indexAddr rfl rfl rfl sl_22 (k) (by omega) (by omega) (Rw.some hs (by omega))) rfl ?_
        first | refine o_q (q_loadn rfl rfl sz_44 (by repeat (first | exact .here | apply Pick.there)) rfl) rfl ?_ | refine o_q (q_load_oldn _ rfl rfl sz_44 rfl (Rw.rd hs hkl)) rfl ?_
        refine o_h (h_alloc rfl zr_44) rfl (fun b6 _ => ?_)
        refine o_h0 (h_store rfl rfl rfl sz_44 rfl (by repeat (first | exact .here | apply Put.there)) (by simp only [setMany_length, List.length_set, List.length_cons, List.length_nil, List.length_map]; omega) rfl) (fun _ _ => ?_)
        refine o_nil ?_
        refine s_region ?_
        refine o_p (p_pure rfl) rfl ?_
        refine o_p (p_pure rfl) rfl ?_
        first | refine o_q (q_loadn rfl rfl sz_44 (by repeat (first | exact .here | apply Pick.there)) rfl) rfl ?_ | refine o_q (q_load_oldn _ rfl rfl sz_44 rfl (Rw.rd hs hkl)) rfl ?_
        refine o_h (h_callF (Cs := [.blk b4 106 2 [.int .i64 (runS (l.take k)).1.2, .slice x.1.1 x.2.length x.1.2], .files x.1.1 x.1.2 x.2]) rfl fn_50 rfl (by repeat (first | exact Picks.nil | (apply Picks.cons; · (repeat (first | exact .here | apply Pick.there))))) (fun w1 h1 hf => c50 w1 b4 _ x.1.1 x.1.2 x.2 (nth l k) hf hvw (by omega))) rfl (fun gz hgz => ?_)
        refine o_h (h_buildSlice (cs := [_, _]) rfl rfl sl_27 zr_40 rfl rfl rfl) rfl (fun b7 _ => ?_)
        refine o_h (h_appendS (n := k) (ansV ((doT (runS (l.take k)).1.2 (pls x.2) (nth l k)).2.2.2, (doT (runS (l.take k)).1.2 (pls x.2) (nth l k)).2.2.1)) rfl rfl rfl sl_27 Try.underlying27 zr_40 rfl (by repeat (first | exact .here | apply Pick.there)) (src_blk (by repeat (first | exact .here | apply Pick.there))) rfl (by intro u hu; simp only [ansV, List.mem_cons, List.mem_nil_iff, or_false] at hu; rcases hu with rfl | rfl <;> rfl) (by omega) (by simp only [maxLen]; omega)) rfl (fun b8 _ => ?_)
        refine o_p (p_pure rfl) rfl ?_
        refine o_nil ?_
        refine s_blk ?_
        refine s_region ?_
        refine o_p (p_pure rfl) rfl ?_
        try (refine o_slot (i64w (by omega) (by omega)) ?_)
        refine o_p (p_pure rfl) rfl ?_
        refine o_nil ?_
        exact s_backI (k + 1, gz, b8) (by show l.length - (k + 1) < l.length - k; omega) ⟨by show k + 1 ≤ l.length; omega, by show pls gz.2 = (runS (l.take (k + 1))).1.1; rw [hgz, e]⟩ (by repeat (first | exact sl_n | refine sl_c rfl ?_)) (fun w h => by dsimp only; rw [e3]; rw [e]; exact h.ent (by repeat (first | exact .nil | refine .cons (by repeat (first | exact .here | apply Pick.there)) ?_)))
      · try simp only [decide_eq_true_eq, decide_eq_false_iff_not, Bool.not_eq_true', Bool.not_eq_false', Bool.and_eq_true, Bool.or_eq_true, Bool.and_eq_false_iff, Bool.or_eq_false_iff, Bool.not_true, Bool.not_false] at h5
        obtain rfl : k = l.length := by omega
        rw [List.take_length]
        rw [List.take_length] at hk2
        refine s_exit_to rfl ?_
        refine s_seq ?_
        refine s_region ?_
        refine o_p (p_pure rfl) rfl ?_
        refine o_p (p_pure rfl) rfl ?_
        refine o_p (p_fieldAddr rfl rfl fd_106_0 sz_26 rfl) rfl ?_
        first | refine o_q (q_loadn rfl rfl sz_26 (by repeat (first | exact .here | apply Pick.there)) rfl) rfl ?_ | refine o_q (q_load_oldn _ rfl rfl sz_26 rfl (Rw.rd hs hkl)) rfl ?_
        refine o_p (p_pure rfl) rfl ?_
        refine o_h0 (h_store rfl rfl rfl sz_26 rfl (by repeat (first | exact .here | apply Put.there)) (by simp only [setMany_length, List.length_set, List.length_cons, List.length_nil, List.length_map]; omega) rfl) (fun _ _ => ?_)
        refine o_p (p_pure rfl) rfl ?_
        refine o_p (p_pure rfl) rfl ?_
        refine o_nil ?_
        exact s_retv (rs := [.cell 2 26, .tmp 3, .tmp 4]) rfl (.cell rfl sz_26 (by repeat (first | exact .here | apply Pick.there)) rfl (.tmp rfl (.tmp rfl (.nil)))) (fun w' h' => ⟨(x, o), by rw [runR_0 hrz, hrz, runS_len]; rfl, by rw [runR_0 hrz]; exact hk2, by rw [runR_0 hrz, runS_len]; exact h'.ent (by repeat (first | exact .nil | refine .cons (by repeat (first | exact .here | apply Pick.there)) ?_))⟩)

end Go.Proofs
