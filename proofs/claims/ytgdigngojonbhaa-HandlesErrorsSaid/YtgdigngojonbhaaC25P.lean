/- Contracts of the program's functions, proved by walking them with the rules of the Gx texts; without conditions beyond those that each contract names. -/
import Derived.Test.YtgdigngojonbhaaC25O
namespace Go.Proofs
open Go Go.RowKit Gx
set_option linter.unusedVariables false
set_option linter.unusedSimpArgs false
attribute [local irreducible] Go.Calls Gx.S Gx.O Gx.D Gx.OpP Gx.OpQ Gx.OpH

theorem fn_72 : isFn Try.prog 72 = true := by kernel_rfl


theorem hdl_r (next : Int) (known : List Int) (ops : List Opn) (k : Nat) : hdlE next known ops k = if ¬ (1 ≤ (nth ops k).hd ∧ (nth ops k).hd ≤ next - 1) then 2 else if ¬ openE (nth ops k).ac (nth ops k).sh = 0 then openE (nth ops k).ac (nth ops k).sh else if ¬ (k = 0 ∨ (nth ops (k - 1)).hd < (nth ops k).hd) then 9 else if ¬ lksE (nth ops k).lk = 0 then lksE (nth ops k).lk else if (nth ops k).hd ∈ known then 23 else if (ops.take k).any (cfl (nth ops k)) = true then 28 else lockedE ((ops.take k).flatMap Opn.lk) (nth ops k).lk := by
  unfold hdlE lksE
  simp only []
  grind
theorem lksE_0 {l : List Lock} (h : lksE l = 0) : l.length ≤ 16 ∧ okL l := by
  unfold lksE at h
  split at h
  · exact absurd h (by decide)
  · exact ⟨by omega, rngs_ok h⟩
theorem hdl_ok {next : Int} {known : List Int} {ops : List Opn} {k : Nat} (h : hdlE next known ops k = 0) : openE (nth ops k).ac (nth ops k).sh = 0 ∧ (nth ops k).lk.length ≤ 16 ∧ okL (nth ops k).lk := by
  rw [hdl_r] at h
  split at h
  · exact absurd h (by decide)
  split at h
  · contradiction
  rename_i h2
  split at h
  · exact absurd h (by decide)
  split at h
  · contradiction
  rename_i h3
  exact ⟨Decidable.not_not.1 h2, lksE_0 (Decidable.not_not.1 h3)⟩
theorem fil_r {next : Int} {L : List LFil} {i : Nat} (hi : i < L.length) : filE next (pls L) i = if ¬ refE (nth L i).rc (nth L i).sq = 0 then refE (nth L i).rc (nth L i).sq else if ¬ (i = 0 ∨ refLt ((nth L (i - 1)).rc, (nth L (i - 1)).sq) ((nth L i).rc, (nth L i).sq) = true) then 9 else if (nth L i).op.length = 0 then 17 else hdlsE next (hds ((pls L).take i)) (plo (nth L i).op) := by
  unfold filE
  rw [nth_pls hi, nth_pls (show i - 1 < L.length by omega)]
  simp only [LFil.pl, List.length_map]
  grind
theorem hds_mem {L : List LFil} {i : Nat} {x : Int} : x ∈ hds ((pls L).take i) ↔ ∃ n m, n < i ∧ n < L.length ∧ m < (nth L n).op.length ∧ (nth (nth L n).op m).hd = x := by
  unfold hds
  rw [List.mem_flatMap]
  constructor
  · rintro ⟨f, hf, hx⟩
    obtain ⟨n, h1, h2, rfl⟩ := nth_mem_take hf
    have h2' : n < L.length := by simpa using h2
    rw [nth_pls h2'] at hx
    obtain ⟨o, ho, rfl⟩ := List.mem_map.1 hx
    obtain ⟨p, hp, rfl⟩ := List.mem_map.1 ho
    obtain ⟨m, hm, e⟩ := List.getElem_of_mem hp
    exact ⟨n, m, h1, h2', hm, by rw [nth_eq ((List.getElem?_eq_getElem hm).trans (congrArg some e))]; rfl⟩
  · rintro ⟨n, m, h1, h2, h3, rfl⟩
    refine ⟨(nth L n).pl, ?_, List.mem_map.2 ⟨(nth (nth L n).op m).pl, List.mem_map.2 ⟨_, mem_nth h3, rfl⟩, rfl⟩⟩
    have e : nth ((pls L).take i) n = (nth L n).pl := by rw [nth_take h1, nth_pls h2]
    rw [← e]
    exact mem_nth (by rw [List.length_take, List.length_map]; omega)
theorem any_take {ops : List LOpn} {k : Nat} {x : Opn} (hk : k ≤ ops.length) : ((plo ops).take k).any (cfl x) = true ↔ ∃ m, m < k ∧ cfl x (nth ops m).pl = true := by
  rw [List.any_eq_true]
  constructor
  · rintro ⟨o, ho, hx⟩
    obtain ⟨m, h1, h2, rfl⟩ := nth_mem_take ho
    rw [nth_plo (by simpa using h2)] at hx
    exact ⟨m, h1, hx⟩
  · rintro ⟨m, h1, hx⟩
    refine ⟨(nth ops m).pl, ?_, hx⟩
    have e : nth ((plo ops).take k) m = (nth ops m).pl := by rw [nth_take h1, nth_plo (by omega)]
    rw [← e]
    exact mem_nth (by rw [List.length_take, List.length_map]; omega)

set_option maxRecDepth 20000 in
theorem c99 (w : World) (f : LFil) (k : Nat) (hs : Ot w [] f.oa f.op) (hk : k < f.op.length) (hm0 : f.op.length ≤ 1000) (hv : ∀ n, n ≤ k → okL (nth f.op n).lk ∧ (nth f.op n).lk.length ≤ 16) : Calls Try.prog 99 #[.agg #[.int .i64 f.rc, .int .i64 f.sq, .bool f.pd, .slice f.oa f.op.length f.oc], .int .i64 (k : Int)] w fun en w' => en = .returned (.int .i64 (lockedE (((plo f.op).take k).flatMap Opn.lk) (nth f.op k).lk)) ∧ Below w.heap.size w w' := by
  have hvk := hv k (Nat.le_refl _)
  refine enter (args := [_, _]) Try.func99 Try.ntmps99 rfl rfl (HS.refl w []) ?_
  refine s_seq ?_
  refine s_region ?_
  refine o_h (h_box rfl rfl) rfl (fun b1 _ => ?_)
  refine o_p (p_pure rfl) rfl ?_
  refine o_nil ?_
  refine s_seq ?_
  refine s_seq ?_
  refine s_region ?_
  refine o_p (p_pure rfl) rfl ?_
  refine o_nil ?_
  refine s_block ?_
  refine s_loopI (α := Nat) [4, 5, 6, 7, 8, 9, 10, 11, 12, 13, 14, 15, 16, 17, 18, 19, 20, 21, 22, 23, 24, 25, 26, 27, 28, 29, 30, 31, 32, 33, 34, 35, 36, 37, 38, 39, 40, 41, 42, 43, 44, 45, 46, 47, 48, 49, 50, 51, 52, 53, 54, 55, 56, 57, 58, 59, 60, 61, 62, 63, 64, 65] (fun i => [(5, .int .i64 (i : Int))]) (fun _ => HS w [] [.blk b1 77 4 f.vals]) (fun i => i ≤ (nth f.op k).lk.length ∧ lockedE (((plo f.op).take k).flatMap Opn.lk) (nth f.op k).lk = lockedE ((((plo f.op).take k).flatMap Opn.lk) ++ (nth f.op k).lk.take i) ((nth f.op k).lk.drop i)) (fun i => (nth f.op k).lk.length - i) 0 ⟨Nat.zero_le _, by simp⟩ (by repeat (first | exact sl_n | refine sl_c rfl ?_)) (fun w h => h.ent (by repeat (first | exact .nil | refine .cons (by repeat (first | exact .here | apply Pick.there)) ?_))) (fun i hy => ?_)
  obtain ⟨hi1, hi2⟩ := hy
  refine s_seq ?_
  refine s_seq ?_
  refine s_region ?_
  refine o_p (p_pure rfl) rfl ?_
  refine o_p (p_fieldAddr rfl rfl fd_77_2 sz_75 rfl) rfl ?_
  first | refine o_q (q_load rfl rfl sz_75 (by repeat (first | exact .here | apply Pick.there)) rfl) rfl ?_ | refine o_q (q_load_old rfl rfl sz_75 ((hs.1.rdj 4 hk rfl))) rfl ?_ | refine o_q (q_load_old rfl rfl sz_75 (rfl (Rw.rd (hs.at hk) hil))) rfl ?_ | refine o_q (q_load_old rfl rfl sz_75 ((hs.1.rdj 4 hnl rfl))) rfl ?_ | refine o_q (q_load_old rfl rfl sz_75 (rfl (Rw.rd (hs.at hnl) hml))) rfl ?_
  refine o_p (p_pure rfl) rfl ?_
  first | refine o_p (p_indexAddr rfl rfl rfl sl_75 (k) (by omega) (by omega) rfl) rfl ?_ | refine o_p (p_indexAddr rfl rfl rfl sl_75 (k) (by omega) (by omega) (Rw.some hs.1 (by omega))) rfl ?_ | refine o_p (p_indexAddr rfl rfl rfl sl_75 (k) (by omega) (by omega) (Rw.some (hs.at hk) (by omega))) rfl ?_ | refine o_p (p_indexAddr rfl rfl rfl sl_75 (k) (by omega) (by omega) (Rw.some (hs.at hnl) (by omega))) rfl ?_
  refine o_p (p_fieldAddr rfl rfl fd_48_4 sz_46 rfl) rfl ?_
  first | refine o_q (q_load rfl rfl sz_46 (by repeat (first | exact .here | apply Pick.there)) rfl) rfl ?_ | refine o_q (q_load_old rfl rfl sz_46 ((hs.1.rdj 4 hk rfl))) rfl ?_ | refine o_q (q_load_old rfl rfl sz_46 (rfl (Rw.rd (hs.at hk) hil))) rfl ?_ | refine o_q (q_load_old rfl rfl sz_46 ((hs.1.rdj 4 hnl rfl))) rfl ?_ | refine o_q (q_load_old rfl rfl sz_46 (rfl (Rw.rd (hs.at hnl) hml))) rfl ?_
  first | refine o_p (p_len_slice rfl rfl Try.underlying46) rfl ?_ | refine o_q (q_len_own rfl rfl Try.underlying46 (by repeat (first | exact .here | apply Pick.there))) rfl ?_
  refine o_p (p_pure rfl) rfl ?_
  refine o_nil ?_
  refine s_cond rfl (fun h2 => ?_) (fun h2 => ?_)
  · try simp only [decide_eq_true_eq, decide_eq_false_iff_not, Bool.not_eq_true', Bool.not_eq_false', Bool.and_eq_true, Bool.or_eq_true, Bool.and_eq_false_iff, Bool.or_eq_false_iff, Bool.not_true, Bool.not_false] at h2
    have hil : i < (nth f.op k).lk.length := by omega
    refine s_skip ?_
    refine s_seq ?_
    refine s_block ?_
    refine s_seq ?_
    refine s_region ?_
    refine o_p (p_fieldAddr rfl rfl fd_77_2 sz_75 rfl) rfl ?_
    first | refine o_q (q_load rfl rfl sz_75 (by repeat (first | exact .here | apply Pick.there)) rfl) rfl ?_ | refine o_q (q_load_old rfl rfl sz_75 ((hs.1.rdj 4 hk rfl))) rfl ?_ | refine o_q (q_load_old rfl rfl sz_75 (rfl (Rw.rd (hs.at hk) hil))) rfl ?_ | refine o_q (q_load_old rfl rfl sz_75 ((hs.1.rdj 4 hnl rfl))) rfl ?_ | refine o_q (q_load_old rfl rfl sz_75 (rfl (Rw.rd (hs.at hnl) hml))) rfl ?_
    refine o_p (p_pure rfl) rfl ?_
    first | refine o_p (p_indexAddr rfl rfl rfl sl_75 (k) (by omega) (by omega) rfl) rfl ?_ | refine o_p (p_indexAddr rfl rfl rfl sl_75 (k) (by omega) (by omega) (Rw.some hs.1 (by omega))) rfl ?_ | refine o_p (p_indexAddr rfl rfl rfl sl_75 (k) (by omega) (by omega) (Rw.some (hs.at hk) (by omega))) rfl ?_ | refine o_p (p_indexAddr rfl rfl rfl sl_75 (k) (by omega) (by omega) (Rw.some (hs.at hnl) (by omega))) rfl ?_
    refine o_p (p_fieldAddr rfl rfl fd_48_4 sz_46 rfl) rfl ?_
    first | refine o_q (q_load rfl rfl sz_46 (by repeat (first | exact .here | apply Pick.there)) rfl) rfl ?_ | refine o_q (q_load_old rfl rfl sz_46 ((hs.1.rdj 4 hk rfl))) rfl ?_ | refine o_q (q_load_old rfl rfl sz_46 (rfl (Rw.rd (hs.at hk) hil))) rfl ?_ | refine o_q (q_load_old rfl rfl sz_46 ((hs.1.rdj 4 hnl rfl))) rfl ?_ | refine o_q (q_load_old rfl rfl sz_46 (rfl (Rw.rd (hs.at hnl) hml))) rfl ?_
    refine o_p (p_pure rfl) rfl ?_
    first | refine o_p (p_indexAddr rfl rfl rfl sl_46 (i) (by omega) (by omega) rfl) rfl ?_ | refine o_p (p_indexAddr rfl rfl rfl sl_46 (i) (by omega) (by omega) (Rw.some hs.1 (by omega))) rfl ?_ | refine o_p (p_indexAddr rfl rfl rfl sl_46 (i) (by omega) (by omega) (Rw.some (hs.at hk) (by omega))) rfl ?_ | refine o_p (p_indexAddr rfl rfl rfl sl_46 (i) (by omega) (by omega) (Rw.some (hs.at hnl) (by omega))) rfl ?_
    first | refine o_q (q_loadn rfl rfl sz_62 (by repeat (first | exact .here | apply Pick.there)) rfl) rfl ?_ | refine o_q (q_load_oldn _ rfl rfl sz_62 (hs.1.rdj 4 hk rfl)) rfl ?_ | refine o_q (q_load_oldn _ rfl rfl sz_62 rfl (Rw.rd (hs.at hk) hil)) rfl ?_ | refine o_q (q_load_oldn _ rfl rfl sz_62 (hs.1.rdj 4 hnl rfl)) rfl ?_ | refine o_q (q_load_oldn _ rfl rfl sz_62 rfl (Rw.rd (hs.at hnl) hml)) rfl ?_
    refine o_h (h_alloc rfl zr_62) rfl (fun b3 _ => ?_)
    refine o_h0 (h_store rfl rfl rfl sz_62 rfl (by repeat (first | exact .here | apply Put.there)) (by simp only [setMany_length, List.length_set, List.length_cons, List.length_nil, List.length_map]; omega) rfl) (fun _ _ => ?_)
    refine o_nil ?_
    refine s_seq ?_
    refine s_region ?_
    refine o_p (p_pure rfl) rfl ?_
    refine o_nil ?_
    refine s_block ?_
    refine s_weaken (L' := [(0, _), (1, _), (2, _), (5, _), (6, _), (7, _)]) (by repeat (first | exact sl_n | refine sl_c rfl ?_)) (fun _ h => h) ?_
    refine s_loopI (α := Nat) [4, 7, 8, 29, 30, 31, 32, 33, 34, 35, 36, 37, 38, 39, 40, 41, 42, 43, 44, 45, 46, 47, 48, 49, 50, 51, 52, 53, 54, 55, 56, 57, 58, 59, 60, 61, 62, 63, 64, 65] (fun n => [(7, .int .i64 (n : Int))]) (fun _ => HS w [] [.blk b1 77 4 f.vals, .blk b3 62 3 (nth (nth f.op k).lk i).vals]) (fun n => n ≤ k + 1 ∧ noCl f.op k i n 0 (nth (nth f.op k).lk i)) (fun n => k + 1 - n) 0 ⟨by omega, fun n2 m2 h1 h2 h3 => by omega⟩ (by repeat (first | exact sl_n | refine sl_c rfl ?_)) (fun w h => h.ent (by repeat (first | exact .nil | refine .cons (by repeat (first | exact .here | apply Pick.there)) ?_))) (fun n hy => ?_)
    obtain ⟨hn1, hn2⟩ := hy
    refine s_seq ?_
    refine s_seq ?_
    refine s_region ?_
    refine o_p (p_pure rfl) rfl ?_
    refine o_p (p_pure rfl) rfl ?_
    refine o_p (p_pure rfl) rfl ?_
    refine o_nil ?_
    refine s_cond rfl (fun h4 => ?_) (fun h4 => ?_)
    · try simp only [decide_eq_true_eq, decide_eq_false_iff_not, Bool.not_eq_true', Bool.not_eq_false', Bool.and_eq_true, Bool.or_eq_true, Bool.and_eq_false_iff, Bool.or_eq_false_iff, Bool.not_true, Bool.not_false] at h4
      have hnk : n ≤ k := by omega
      have hnl : n < f.op.length := by omega
      have hvn := hv n hnk
      refine s_skip ?_
      refine s_seq ?_
      refine s_block ?_
      refine s_seq ?_
      refine s_region ?_
      refine o_p (p_pure rfl) rfl ?_
      refine o_nil ?_
      refine s_block ?_
      refine s_loopI (α := Nat) [4, 8, 34, 35, 36, 37, 38, 39, 40, 41, 42, 43, 44, 45, 46, 47, 48, 49, 50, 51, 52, 53, 54, 55, 56, 57, 58, 59, 60, 61, 62, 63, 64, 65] (fun m => [(8, .int .i64 (m : Int))]) (fun _ => HS w [] [.blk b1 77 4 f.vals, .blk b3 62 3 (nth (nth f.op k).lk i).vals]) (fun m => m ≤ (nth f.op n).lk.length ∧ noCl f.op k i n m (nth (nth f.op k).lk i)) (fun m => (nth f.op n).lk.length - m) 0 ⟨Nat.zero_le _, hn2⟩ (by repeat (first | exact sl_n | refine sl_c rfl ?_)) (fun w h => h.ent (by repeat (first | exact .nil | refine .cons (by repeat (first | exact .here | apply Pick.there)) ?_))) (fun m hy => ?_)
      obtain ⟨hm1, hm2⟩ := hy
      refine s_seq ?_
      refine s_seq ?_
      refine s_region ?_
      refine o_p (p_pure rfl) rfl ?_
      refine o_p (p_fieldAddr rfl rfl fd_77_2 sz_75 rfl) rfl ?_
      first | refine o_q (q_load rfl rfl sz_75 (by repeat (first | exact .here | apply Pick.there)) rfl) rfl ?_ | refine o_q (q_load_old rfl rfl sz_75 ((hs.1.rdj 4 hk rfl))) rfl ?_ | refine o_q (q_load_old rfl rfl sz_75 (rfl (Rw.rd (hs.at hk) hil))) rfl ?_ | refine o_q (q_load_old rfl rfl sz_75 ((hs.1.rdj 4 hnl rfl))) rfl ?_ | refine o_q (q_load_old rfl rfl sz_75 (rfl (Rw.rd (hs.at hnl) hml))) rfl ?_
      refine o_p (p_pure rfl) rfl ?_
      first | refine o_p (p_indexAddr rfl rfl rfl sl_75 (n) (by omega) (by omega) rfl) rfl ?_ | refine o_p (p_indexAddr rfl rfl rfl sl_75 (n) (by omega) (by omega) (Rw.some hs.1 (by omega))) rfl ?_ | refine o_p (p_indexAddr rfl rfl rfl sl_75 (n) (by omega) (by omega) (Rw.some (hs.at hk) (by omega))) rfl ?_ | refine o_p (p_indexAddr rfl rfl rfl sl_75 (n) (by omega) (by omega) (Rw.some (hs.at hnl) (by omega))) rfl ?_
      refine o_p (p_fieldAddr rfl rfl fd_48_4 sz_46 rfl) rfl ?_
      first | refine o_q (q_load rfl rfl sz_46 (by repeat (first | exact .here | apply Pick.there)) rfl) rfl ?_ | refine o_q (q_load_old rfl rfl sz_46 ((hs.1.rdj 4 hk rfl))) rfl ?_ | refine o_q (q_load_old rfl rfl sz_46 (rfl (Rw.rd (hs.at hk) hil))) rfl ?_ | refine o_q (q_load_old rfl rfl sz_46 ((hs.1.rdj 4 hnl rfl))) rfl ?_ | refine o_q (q_load_old rfl rfl sz_46 (rfl (Rw.rd (hs.at hnl) hml))) rfl ?_
      first | refine o_p (p_len_slice rfl rfl Try.underlying46) rfl ?_ | refine o_q (q_len_own rfl rfl Try.underlying46 (by repeat (first | exact .here | apply Pick.there))) rfl ?_
      refine o_p (p_pure rfl) rfl ?_
      refine o_nil ?_
      refine s_cond rfl (fun h5 => ?_) (fun h5 => ?_)
      · try simp only [decide_eq_true_eq, decide_eq_false_iff_not, Bool.not_eq_true', Bool.not_eq_false', Bool.and_eq_true, Bool.or_eq_true, Bool.and_eq_false_iff, Bool.or_eq_false_iff, Bool.not_true, Bool.not_false] at h5
        have hml : m < (nth f.op n).lk.length := by omega
        refine s_skip ?_
        refine s_seq ?_
        refine s_block ?_
        refine s_seq ?_
        refine s_cutI (α := Unit) [45, 46, 47, 48, 49, 50, 51, 52, 53, 54, 55, 56, 57, 58, 59, 60, 61, 62, 63, 64, 65] (fun _ => [(65, (.bool ((decide ((n : Int) < (k : Int)) || decide ((m : Int) < (i : Int))) && clsh (nth (nth f.op k).lk i) (nth (nth f.op n).lk m))))]) (fun _ => HS w [] [.blk b1 77 4 f.vals, .blk b3 62 3 (nth (nth f.op k).lk i).vals]) (fun _ => True) ?_ ?_
        · skip
          refine s_draw [] mixed ?_
          refine d_p 0 rfl (p_pure rfl) (by kernel_rfl) rfl rfl ?_
          refine d_p 1 rfl (p_pure rfl) (by kernel_rfl) rfl rfl ?_
          refine d_p 2 rfl (p_pure rfl) (by kernel_rfl) rfl rfl ?_
          refine d_p 3 rfl (p_pure rfl) (by kernel_rfl) rfl rfl ?_
          apply d_split 48
          · exact rfl
          · intro hg6
            have hs7 := hg6; try simp only [decide_eq_true_eq, decide_eq_false_iff_not, Bool.not_eq_true', Bool.not_eq_false', Bool.and_eq_true, Bool.or_eq_true, Bool.and_eq_false_iff, Bool.or_eq_false_iff, Bool.not_true, Bool.not_false] at hs7
            refine d_off 4 48 rfl rfl rfl hg6 (by kernel_rfl) rfl rfl ?_
            refine d_off 5 48 rfl rfl rfl hg6 (by kernel_rfl) rfl rfl ?_
            refine d_off 6 48 rfl rfl rfl hg6 (by kernel_rfl) rfl rfl ?_
            refine d_p 7 rfl (p_pickt rfl rfl hg6 rfl) (by kernel_rfl) rfl rfl ?_
            refine d_p 8 rfl (p_pure rfl) (by kernel_rfl) rfl rfl ?_
            apply d_split 53
            · exact rfl
            · intro hg8
              have hs9 := hg8; try simp only [decide_eq_true_eq, decide_eq_false_iff_not, Bool.not_eq_true', Bool.not_eq_false', Bool.and_eq_true, Bool.or_eq_true, Bool.and_eq_false_iff, Bool.or_eq_false_iff, Bool.not_true, Bool.not_false] at hs9
              first | refine d_qon 9 53 [] rfl rfl rfl hg8 (q_loadn rfl rfl sz_62 (by repeat (first | exact .here | apply Pick.there)) rfl) (by kernel_rfl) (by kernel_rfl) (by kernel_rfl) rfl ?_ | refine d_qon 9 53 [] rfl rfl rfl hg8 (q_load_oldn _ rfl rfl sz_62 (hs.1.rdj 4 hk rfl)) (by kernel_rfl) (by kernel_rfl) (by kernel_rfl) rfl ?_ | refine d_qon 9 53 [] rfl rfl rfl hg8 (q_load_oldn _ rfl rfl sz_62 rfl (Rw.rd (hs.at hk) hil)) (by kernel_rfl) (by kernel_rfl) (by kernel_rfl) rfl ?_ | refine d_qon 9 53 [] rfl rfl rfl hg8 (q_load_oldn _ rfl rfl sz_62 (hs.1.rdj 4 hnl rfl)) (by kernel_rfl) (by kernel_rfl) (by kernel_rfl) rfl ?_ | refine d_qon 9 53 [] rfl rfl rfl hg8 (q_load_oldn _ rfl rfl sz_62 rfl (Rw.rd (hs.at hnl) hml)) (by kernel_rfl) (by kernel_rfl) (by kernel_rfl) rfl ?_
              refine d_pon 10 53 rfl rfl rfl hg8 (p_fieldAddr rfl rfl fd_77_2 sz_75 rfl) (by kernel_rfl) rfl rfl ?_
              first | refine d_qon 11 53 [] rfl rfl rfl hg8 (q_load rfl rfl sz_75 (by repeat (first | exact .here | apply Pick.there)) rfl) (by kernel_rfl) (by kernel_rfl) (by kernel_rfl) rfl ?_ | refine d_qon 11 53 [] rfl rfl rfl hg8 (q_load_old rfl rfl sz_75 ((hs.1.rdj 4 hk rfl))) (by kernel_rfl) (by kernel_rfl) (by kernel_rfl) rfl ?_ | refine d_qon 11 53 [] rfl rfl rfl hg8 (q_load_old rfl rfl sz_75 (rfl (Rw.rd (hs.at hk) hil))) (by kernel_rfl) (by kernel_rfl) (by kernel_rfl) rfl ?_ | refine d_qon 11 53 [] rfl rfl rfl hg8 (q_load_old rfl rfl sz_75 ((hs.1.rdj 4 hnl rfl))) (by kernel_rfl) (by kernel_rfl) (by kernel_rfl) rfl ?_ | refine d_qon 11 53 [] rfl rfl rfl hg8 (q_load_old rfl rfl sz_75 (rfl (Rw.rd (hs.at hnl) hml))) (by kernel_rfl) (by kernel_rfl) (by kernel_rfl) rfl ?_
              refine d_pon 12 53 rfl rfl rfl hg8 (p_pure rfl) (by kernel_rfl) rfl rfl ?_
              first | refine d_pon 13 53 rfl rfl rfl hg8 (p_indexAddr rfl rfl rfl sl_75 (n) (by omega) (by omega) rfl) (by kernel_rfl) rfl rfl ?_ | refine d_pon 13 53 rfl rfl rfl hg8 (p_indexAddr rfl rfl rfl sl_75 (n) (by omega) (by omega) (Rw.some hs.1 (by omega))) (by kernel_rfl) rfl rfl ?_ | refine d_pon 13 53 rfl rfl rfl hg8 (p_indexAddr rfl rfl rfl sl_75 (n) (by omega) (by omega) (Rw.some (hs.at hk) (by omega))) (by kernel_rfl) rfl rfl ?_ | refine d_pon 13 53 rfl rfl rfl hg8 (p_indexAddr rfl rfl rfl sl_75 (n) (by omega) (by omega) (Rw.some (hs.at hnl) (by omega))) (by kernel_rfl) rfl rfl ?_
              refine d_pon 14 53 rfl rfl rfl hg8 (p_fieldAddr rfl rfl fd_48_4 sz_46 rfl) (by kernel_rfl) rfl rfl ?_
              first | refine d_qon 15 53 [] rfl rfl rfl hg8 (q_load rfl rfl sz_46 (by repeat (first | exact .here | apply Pick.there)) rfl) (by kernel_rfl) (by kernel_rfl) (by kernel_rfl) rfl ?_ | refine d_qon 15 53 [] rfl rfl rfl hg8 (q_load_old rfl rfl sz_46 ((hs.1.rdj 4 hk rfl))) (by kernel_rfl) (by kernel_rfl) (by kernel_rfl) rfl ?_ | refine d_qon 15 53 [] rfl rfl rfl hg8 (q_load_old rfl rfl sz_46 (rfl (Rw.rd (hs.at hk) hil))) (by kernel_rfl) (by kernel_rfl) (by kernel_rfl) rfl ?_ | refine d_qon 15 53 [] rfl rfl rfl hg8 (q_load_old rfl rfl sz_46 ((hs.1.rdj 4 hnl rfl))) (by kernel_rfl) (by kernel_rfl) (by kernel_rfl) rfl ?_ | refine d_qon 15 53 [] rfl rfl rfl hg8 (q_load_old rfl rfl sz_46 (rfl (Rw.rd (hs.at hnl) hml))) (by kernel_rfl) (by kernel_rfl) (by kernel_rfl) rfl ?_
              refine d_pon 16 53 rfl rfl rfl hg8 (p_pure rfl) (by kernel_rfl) rfl rfl ?_
              first | refine d_pon 17 53 rfl rfl rfl hg8 (p_indexAddr rfl rfl rfl sl_46 (m) (by omega) (by omega) rfl) (by kernel_rfl) rfl rfl ?_ | refine d_pon 17 53 rfl rfl rfl hg8 (p_indexAddr rfl rfl rfl sl_46 (m) (by omega) (by omega) (Rw.some hs.1 (by omega))) (by kernel_rfl) rfl rfl ?_ | refine d_pon 17 53 rfl rfl rfl hg8 (p_indexAddr rfl rfl rfl sl_46 (m) (by omega) (by omega) (Rw.some (hs.at hk) (by omega))) (by kernel_rfl) rfl rfl ?_ | refine d_pon 17 53 rfl rfl rfl hg8 (p_indexAddr rfl rfl rfl sl_46 (m) (by omega) (by omega) (Rw.some (hs.at hnl) (by omega))) (by kernel_rfl) rfl rfl ?_
              first | refine d_qon 18 53 [] rfl rfl rfl hg8 (q_loadn rfl rfl sz_62 (by repeat (first | exact .here | apply Pick.there)) rfl) (by kernel_rfl) (by kernel_rfl) (by kernel_rfl) rfl ?_ | refine d_qon 18 53 [] rfl rfl rfl hg8 (q_load_oldn _ rfl rfl sz_62 (hs.1.rdj 4 hk rfl)) (by kernel_rfl) (by kernel_rfl) (by kernel_rfl) rfl ?_ | refine d_qon 18 53 [] rfl rfl rfl hg8 (q_load_oldn _ rfl rfl sz_62 rfl (Rw.rd (hs.at hk) hil)) (by kernel_rfl) (by kernel_rfl) (by kernel_rfl) rfl ?_ | refine d_qon 18 53 [] rfl rfl rfl hg8 (q_load_oldn _ rfl rfl sz_62 (hs.1.rdj 4 hnl rfl)) (by kernel_rfl) (by kernel_rfl) (by kernel_rfl) rfl ?_ | refine d_qon 18 53 [] rfl rfl rfl hg8 (q_load_oldn _ rfl rfl sz_62 rfl (Rw.rd (hs.at hnl) hml)) (by kernel_rfl) (by kernel_rfl) (by kernel_rfl) rfl ?_
              refine d_qon 19 53 [] rfl rfl rfl hg8 (q_call rfl fn_72 rfl (fun w1 h1 => c72 w1 _ _ (okL_nth hvk.1 hil) (okL_nth hvn.1 hml))) (by kernel_rfl) (by kernel_rfl) (by kernel_rfl) rfl ?_
              refine d_p 20 rfl (p_pickt rfl rfl hg8 rfl) (by kernel_rfl) rfl rfl ?_
              refine d_nil (by kernel_rfl) (fun w h => h.ent (by repeat (first | exact .nil | refine .cons (by repeat (first | exact .here | apply Pick.there)) ?_))) ?_
              exact s_joinI () trivial (sl_c (congrArg (fun e => some (Value.bool e)) (by first | (simp_all; done) | (simp_all; intro h9; omega))) (by repeat (first | exact sl_n | refine sl_c rfl ?_))) (fun w h => h.ent (by repeat (first | exact .nil | refine .cons (by repeat (first | exact .here | apply Pick.there)) ?_)))
            · intro hg10
              have hs11 := hg10; try simp only [decide_eq_true_eq, decide_eq_false_iff_not, Bool.not_eq_true', Bool.not_eq_false', Bool.and_eq_true, Bool.or_eq_true, Bool.and_eq_false_iff, Bool.or_eq_false_iff, Bool.not_true, Bool.not_false] at hs11
              refine d_off 9 53 rfl rfl rfl hg10 (by kernel_rfl) rfl rfl ?_
              refine d_off 10 53 rfl rfl rfl hg10 (by kernel_rfl) rfl rfl ?_
              refine d_off 11 53 rfl rfl rfl hg10 (by kernel_rfl) rfl rfl ?_
              refine d_off 12 53 rfl rfl rfl hg10 (by kernel_rfl) rfl rfl ?_
              refine d_off 13 53 rfl rfl rfl hg10 (by kernel_rfl) rfl rfl ?_
              refine d_off 14 53 rfl rfl rfl hg10 (by kernel_rfl) rfl rfl ?_
              refine d_off 15 53 rfl rfl rfl hg10 (by kernel_rfl) rfl rfl ?_
              refine d_off 16 53 rfl rfl rfl hg10 (by kernel_rfl) rfl rfl ?_
              refine d_off 17 53 rfl rfl rfl hg10 (by kernel_rfl) rfl rfl ?_
              refine d_off 18 53 rfl rfl rfl hg10 (by kernel_rfl) rfl rfl ?_
              refine d_off 19 53 rfl rfl rfl hg10 (by kernel_rfl) rfl rfl ?_
              refine d_p 20 rfl (p_pickf rfl rfl hg10 rfl) (by kernel_rfl) rfl rfl ?_
              refine d_nil (by kernel_rfl) (fun w h => h.ent (by repeat (first | exact .nil | refine .cons (by repeat (first | exact .here | apply Pick.there)) ?_))) ?_
              exact s_joinI () trivial (sl_c (congrArg (fun e => some (Value.bool e)) (by first | (simp_all; done) | (simp_all; intro h9; omega))) (by repeat (first | exact sl_n | refine sl_c rfl ?_))) (fun w h => h.ent (by repeat (first | exact .nil | refine .cons (by repeat (first | exact .here | apply Pick.there)) ?_)))
          · intro hg12
            have hs13 := hg12; try simp only [decide_eq_true_eq, decide_eq_false_iff_not, Bool.not_eq_true', Bool.not_eq_false', Bool.and_eq_true, Bool.or_eq_true, Bool.and_eq_false_iff, Bool.or_eq_false_iff, Bool.not_true, Bool.not_false] at hs13
            refine d_pon 4 48 rfl rfl rfl hg12 (p_pure rfl) (by kernel_rfl) rfl rfl ?_
            refine d_pon 5 48 rfl rfl rfl hg12 (p_pure rfl) (by kernel_rfl) rfl rfl ?_
            refine d_pon 6 48 rfl rfl rfl hg12 (p_pure rfl) (by kernel_rfl) rfl rfl ?_
            refine d_p 7 rfl (p_pickf rfl rfl hg12 rfl) (by kernel_rfl) rfl rfl ?_
            refine d_p 8 rfl (p_pure rfl) (by kernel_rfl) rfl rfl ?_
            apply d_split 53
            · exact rfl
            · intro hg14
              have hs15 := hg14; try simp only [decide_eq_true_eq, decide_eq_false_iff_not, Bool.not_eq_true', Bool.not_eq_false', Bool.and_eq_true, Bool.or_eq_true, Bool.and_eq_false_iff, Bool.or_eq_false_iff, Bool.not_true, Bool.not_false] at hs15
              first | refine d_qon 9 53 [] rfl rfl rfl hg14 (q_loadn rfl rfl sz_62 (by repeat (first | exact .here | apply Pick.there)) rfl) (by kernel_rfl) (by kernel_rfl) (by kernel_rfl) rfl ?_ | refine d_qon 9 53 [] rfl rfl rfl hg14 (q_load_oldn _ rfl rfl sz_62 (hs.1.rdj 4 hk rfl)) (by kernel_rfl) (by kernel_rfl) (by kernel_rfl) rfl ?_ | refine d_qon 9 53 [] rfl rfl rfl hg14 (q_load_oldn _ rfl rfl sz_62 rfl (Rw.rd (hs.at hk) hil)) (by kernel_rfl) (by kernel_rfl) (by kernel_rfl) rfl ?_ | refine d_qon 9 53 [] rfl rfl rfl hg14 (q_load_oldn _ rfl rfl sz_62 (hs.1.rdj 4 hnl rfl)) (by kernel_rfl) (by kernel_rfl) (by kernel_rfl) rfl ?_ | refine d_qon 9 53 [] rfl rfl rfl hg14 (q_load_oldn _ rfl rfl sz_62 rfl (Rw.rd (hs.at hnl) hml)) (by kernel_rfl) (by kernel_rfl) (by kernel_rfl) rfl ?_
              refine d_pon 10 53 rfl rfl rfl hg14 (p_fieldAddr rfl rfl fd_77_2 sz_75 rfl) (by kernel_rfl) rfl rfl ?_
              first | refine d_qon 11 53 [] rfl rfl rfl hg14 (q_load rfl rfl sz_75 (by repeat (first | exact .here | apply Pick.there)) rfl) (by kernel_rfl) (by kernel_rfl) (by kernel_rfl) rfl ?_ | refine d_qon 11 53 [] rfl rfl rfl hg14 (q_load_old rfl rfl sz_75 ((hs.1.rdj 4 hk rfl))) (by kernel_rfl) (by kernel_rfl) (by kernel_rfl) rfl ?_ | refine d_qon 11 53 [] rfl rfl rfl hg14 (q_load_old rfl rfl sz_75 (rfl (Rw.rd (hs.at hk) hil))) (by kernel_rfl) (by kernel_rfl) (by kernel_rfl) rfl ?_ | refine d_qon 11 53 [] rfl rfl rfl hg14 (q_load_old rfl rfl sz_75 ((hs.1.rdj 4 hnl rfl))) (by kernel_rfl) (by kernel_rfl) (by kernel_rfl) rfl ?_ | refine d_qon 11 53 [] rfl rfl rfl hg14 (q_load_old rfl rfl sz_75 (rfl (Rw.rd (hs.at hnl) hml))) (by kernel_rfl) (by kernel_rfl) (by kernel_rfl) rfl ?_
              refine d_pon 12 53 rfl rfl rfl hg14 (p_pure rfl) (by kernel_rfl) rfl rfl ?_
              first | refine d_pon 13 53 rfl rfl rfl hg14 (p_indexAddr rfl rfl rfl sl_75 (n) (by omega) (by omega) rfl) (by kernel_rfl) rfl rfl ?_ | refine d_pon 13 53 rfl rfl rfl hg14 (p_indexAddr rfl rfl rfl sl_75 (n) (by omega) (by omega) (Rw.some hs.1 (by omega))) (by kernel_rfl) rfl rfl ?_ | refine d_pon 13 53 rfl rfl rfl hg14 (p_indexAddr rfl rfl rfl sl_75 (n) (by omega) (by omega) (Rw.some (hs.at hk) (by omega))) (by kernel_rfl) rfl rfl ?_ | refine d_pon 13 53 rfl rfl rfl hg14 (p_indexAddr rfl rfl rfl sl_75 (n) (by omega) (by omega) (Rw.some (hs.at hnl) (by omega))) (by kernel_rfl) rfl rfl ?_
              refine d_pon 14 53 rfl rfl rfl hg14 (p_fieldAddr rfl rfl fd_48_4 sz_46 rfl) (by kernel_rfl) rfl rfl ?_
              first | refine d_qon 15 53 [] rfl rfl rfl hg14 (q_load rfl rfl sz_46 (by repeat (first | exact .here | apply Pick.there)) rfl) (by kernel_rfl) (by kernel_rfl) (by kernel_rfl) rfl ?_ | refine d_qon 15 53 [] rfl rfl rfl hg14 (q_load_old rfl rfl sz_46 ((hs.1.rdj 4 hk rfl))) (by kernel_rfl) (by kernel_rfl) (by kernel_rfl) rfl ?_ | refine d_qon 15 53 [] rfl rfl rfl hg14 (q_load_old rfl rfl sz_46 (rfl (Rw.rd (hs.at hk) hil))) (by kernel_rfl) (by kernel_rfl) (by kernel_rfl) rfl ?_ | refine d_qon 15 53 [] rfl rfl rfl hg14 (q_load_old rfl rfl sz_46 ((hs.1.rdj 4 hnl rfl))) (by kernel_rfl) (by kernel_rfl) (by kernel_rfl) rfl ?_ | refine d_qon 15 53 [] rfl rfl rfl hg14 (q_load_old rfl rfl sz_46 (rfl (Rw.rd (hs.at hnl) hml))) (by kernel_rfl) (by kernel_rfl) (by kernel_rfl) rfl ?_
              refine d_pon 16 53 rfl rfl rfl hg14 (p_pure rfl) (by kernel_rfl) rfl rfl ?_
              first | refine d_pon 17 53 rfl rfl rfl hg14 (p_indexAddr rfl rfl rfl sl_46 (m) (by omega) (by omega) rfl) (by kernel_rfl) rfl rfl ?_ | refine d_pon 17 53 rfl rfl rfl hg14 (p_indexAddr rfl rfl rfl sl_46 (m) (by omega) (by omega) (Rw.some hs.1 (by omega))) (by kernel_rfl) rfl rfl ?_ | refine d_pon 17 53 rfl rfl rfl hg14 (p_indexAddr rfl rfl rfl sl_46 (m) (by omega) (by omega) (Rw.some (hs.at hk) (by omega))) (by kernel_rfl) rfl rfl ?_ | refine d_pon 17 53 rfl rfl rfl hg14 (p_indexAddr rfl rfl rfl sl_46 (m) (by omega) (by omega) (Rw.some (hs.at hnl) (by omega))) (by kernel_rfl) rfl rfl ?_
              first | refine d_qon 18 53 [] rfl rfl rfl hg14 (q_loadn rfl rfl sz_62 (by repeat (first | exact .here | apply Pick.there)) rfl) (by kernel_rfl) (by kernel_rfl) (by kernel_rfl) rfl ?_ | refine d_qon 18 53 [] rfl rfl rfl hg14 (q_load_oldn _ rfl rfl sz_62 (hs.1.rdj 4 hk rfl)) (by kernel_rfl) (by kernel_rfl) (by kernel_rfl) rfl ?_ | refine d_qon 18 53 [] rfl rfl rfl hg14 (q_load_oldn _ rfl rfl sz_62 rfl (Rw.rd (hs.at hk) hil)) (by kernel_rfl) (by kernel_rfl) (by kernel_rfl) rfl ?_ | refine d_qon 18 53 [] rfl rfl rfl hg14 (q_load_oldn _ rfl rfl sz_62 (hs.1.rdj 4 hnl rfl)) (by kernel_rfl) (by kernel_rfl) (by kernel_rfl) rfl ?_ | refine d_qon 18 53 [] rfl rfl rfl hg14 (q_load_oldn _ rfl rfl sz_62 rfl (Rw.rd (hs.at hnl) hml)) (by kernel_rfl) (by kernel_rfl) (by kernel_rfl) rfl ?_
              refine d_qon 19 53 [] rfl rfl rfl hg14 (q_call rfl fn_72 rfl (fun w1 h1 => c72 w1 _ _ (okL_nth hvk.1 hil) (okL_nth hvn.1 hml))) (by kernel_rfl) (by kernel_rfl) (by kernel_rfl) rfl ?_
              refine d_p 20 rfl (p_pickt rfl rfl hg14 rfl) (by kernel_rfl) rfl rfl ?_
              refine d_nil (by kernel_rfl) (fun w h => h.ent (by repeat (first | exact .nil | refine .cons (by repeat (first | exact .here | apply Pick.there)) ?_))) ?_
              exact s_joinI () trivial (sl_c (congrArg (fun e => some (Value.bool e)) (by first | (simp_all; done) | (simp_all; intro h9; omega))) (by repeat (first | exact sl_n | refine sl_c rfl ?_))) (fun w h => h.ent (by repeat (first | exact .nil | refine .cons (by repeat (first | exact .here | apply Pick.there)) ?_)))
            · intro hg16
              have hs17 := hg16; try simp only [decide_eq_true_eq, decide_eq_false_iff_not, Bool.not_eq_true', Bool.not_eq_false', Bool.and_eq_true, Bool.or_eq_true, Bool.and_eq_false_iff, Bool.or_eq_false_iff, Bool.not_true, Bool.not_false] at hs17
              refine d_off 9 53 rfl rfl rfl hg16 (by kernel_rfl) rfl rfl ?_
              refine d_off 10 53 rfl rfl rfl hg16 (by kernel_rfl) rfl rfl ?_
              refine d_off 11 53 rfl rfl rfl hg16 (by kernel_rfl) rfl rfl ?_
              refine d_off 12 53 rfl rfl rfl hg16 (by kernel_rfl) rfl rfl ?_
              refine d_off 13 53 rfl rfl rfl hg16 (by kernel_rfl) rfl rfl ?_
              refine d_off 14 53 rfl rfl rfl hg16 (by kernel_rfl) rfl rfl ?_
              refine d_off 15 53 rfl rfl rfl hg16 (by kernel_rfl) rfl rfl ?_
              refine d_off 16 53 rfl rfl rfl hg16 (by kernel_rfl) rfl rfl ?_
              refine d_off 17 53 rfl rfl rfl hg16 (by kernel_rfl) rfl rfl ?_
              refine d_off 18 53 rfl rfl rfl hg16 (by kernel_rfl) rfl rfl ?_
              refine d_off 19 53 rfl rfl rfl hg16 (by kernel_rfl) rfl rfl ?_
              refine d_p 20 rfl (p_pickf rfl rfl hg16 rfl) (by kernel_rfl) rfl rfl ?_
              refine d_nil (by kernel_rfl) (fun w h => h.ent (by repeat (first | exact .nil | refine .cons (by repeat (first | exact .here | apply Pick.there)) ?_))) ?_
              exact s_joinI () trivial (sl_c (congrArg (fun e => some (Value.bool e)) (by first | (simp_all; done) | (simp_all; intro h9; omega))) (by repeat (first | exact sl_n | refine sl_c rfl ?_))) (fun w h => h.ent (by repeat (first | exact .nil | refine .cons (by repeat (first | exact .here | apply Pick.there)) ?_)))
        · intro _ _
          refine s_cond rfl (fun h18 => ?_) (fun h18 => ?_)
          · try simp only [decide_eq_true_eq, decide_eq_false_iff_not, Bool.not_eq_true', Bool.not_eq_false', Bool.and_eq_true, Bool.or_eq_true, Bool.and_eq_false_iff, Bool.or_eq_false_iff, Bool.not_true, Bool.not_false] at h18
            have hhit : (n < k ∨ m < i) ∧ clsh (nth (nth f.op k).lk i) (nth (nth f.op n).lk m) = true := by have hq := h18; simpa using hq
            refine s_seq ?_
            refine s_region ?_
            refine o_p (p_pure rfl) rfl ?_
            refine o_nil ?_
            exact s_retv (rs := [.tmp 4]) rfl (.tmp rfl (.nil)) (fun w' h' => ⟨by rw [hi2, lockedE_drop hil, if_pos (noCl_hit hk hnl hml hnk hhit.1 hhit.2)]; rfl, h'.below⟩)
          · try simp only [decide_eq_true_eq, decide_eq_false_iff_not, Bool.not_eq_true', Bool.not_eq_false', Bool.and_eq_true, Bool.or_eq_true, Bool.and_eq_false_iff, Bool.or_eq_false_iff, Bool.not_true, Bool.not_false] at h18
            have hmiss : (n < k ∨ m < i) → clsh (nth (nth f.op k).lk i) (nth (nth f.op n).lk m) = false := by have hq := h18; (try simp at hq); intro h9; rcases h9 with h9 | h9 <;> grind
            refine s_skip ?_
            refine s_blk ?_
            refine s_region ?_
            refine o_p (p_pure rfl) rfl ?_
            refine o_p (p_pure rfl) rfl ?_
            try (refine o_slot (i64w (by omega) (by omega)) ?_)
            refine o_p (p_pure rfl) rfl ?_
            refine o_nil ?_
            exact s_backI (m + 1) (by omega) ⟨by omega, fun n2 m2 p1 p2 p3 p4 p5 => (Decidable.em (n2 = n ∧ m2 = m)).elim (fun he => by have q1 := he.1; have q2 := he.2; rw [q1, q2]; exact hmiss (by omega)) (fun he => hm2 n2 m2 p1 p2 (by omega) p4 p5)⟩ (by repeat (first | exact sl_n | refine sl_c rfl ?_)) (fun w h => h.ent (by repeat (first | exact .nil | refine .cons (by repeat (first | exact .here | apply Pick.there)) ?_)))
      · try simp only [decide_eq_true_eq, decide_eq_false_iff_not, Bool.not_eq_true', Bool.not_eq_false', Bool.and_eq_true, Bool.or_eq_true, Bool.and_eq_false_iff, Bool.or_eq_false_iff, Bool.not_true, Bool.not_false] at h5
        refine s_exit_to rfl ?_
        refine s_blk ?_
        refine s_region ?_
        refine o_p (p_pure rfl) rfl ?_
        refine o_p (p_pure rfl) rfl ?_
        try (refine o_slot (i64w (by omega) (by omega)) ?_)
        refine o_p (p_pure rfl) rfl ?_
        refine o_nil ?_
        exact s_backI (n + 1) (by omega) ⟨by omega, fun n2 m2 p1 p2 p3 => hm2 n2 m2 p1 p2 ((Nat.lt_or_ge n2 n).elim Or.inl (fun p9 => .inr (by have e9 : n2 = n := (by omega); rw [e9] at p2; exact ⟨e9, by omega⟩)))⟩ (by repeat (first | exact sl_n | refine sl_c rfl ?_)) (fun w h => h.ent (by repeat (first | exact .nil | refine .cons (by repeat (first | exact .here | apply Pick.there)) ?_)))
    · try simp only [decide_eq_true_eq, decide_eq_false_iff_not, Bool.not_eq_true', Bool.not_eq_false', Bool.and_eq_true, Bool.or_eq_true, Bool.and_eq_false_iff, Bool.or_eq_false_iff, Bool.not_true, Bool.not_false] at h4
      refine s_exit_to rfl ?_
      refine s_blk ?_
      refine s_region ?_
      refine o_p (p_pure rfl) rfl ?_
      refine o_p (p_pure rfl) rfl ?_
      try (refine o_slot (i64w (by omega) (by omega)) ?_)
      refine o_p (p_pure rfl) rfl ?_
      refine o_nil ?_
      exact s_backI (i + 1) (by omega) ⟨by omega, by rw [hi2, lockedE_drop hil, if_neg (by rw [noCl_all hk (n := n) (by omega) hn2]; decide), List.append_assoc, take_succ_nth hil]⟩ (by repeat (first | exact sl_n | refine sl_c rfl ?_)) (fun w h => h.ent (by repeat (first | exact .nil | refine .cons (by repeat (first | exact .here | apply Pick.there)) ?_)))
  · try simp only [decide_eq_true_eq, decide_eq_false_iff_not, Bool.not_eq_true', Bool.not_eq_false', Bool.and_eq_true, Bool.or_eq_true, Bool.and_eq_false_iff, Bool.or_eq_false_iff, Bool.not_true, Bool.not_false] at h2
    refine s_exit_to rfl ?_
    refine s_seq ?_
    refine s_region ?_
    refine o_p (p_pure rfl) rfl ?_
    refine o_nil ?_
    exact s_retv (rs := [.tmp 4]) rfl (.tmp rfl (.nil)) (fun w' h' => ⟨by rw [hi2, List.drop_of_length_le (by omega)]; rfl, h'.below⟩)

end Go.Proofs
