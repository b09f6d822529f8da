/- Contracts of the program's functions, proved by walking them with the rules of the Gx texts; without conditions beyond those that each contract names. -/
import Derived.WalkKit
import Derived.Deep.Draws
import Derived.Lib.Strings
import Derived.Laws.BytesArg
import Derived.Laws.IdiomStrings
import Derived.Deep.Quiet
import Derived.Laws.StructEq
import Derived.ChangeKeysEq
import Derived.Laws.Externs
import Derived.Lib.Overlaps
import Derived.Carry
import Derived.Laws.Small
import Derived.Test.YtgdigngojonbhaaProg
import Derived.KernelRfl
import Derived.ProofKit
import Derived.OpenShut
import Derived.Test.YtgdigngojonbhaaP2
namespace Go.Proofs
open Go Go.RowKit Gx
set_option linter.unusedVariables false
set_option linter.unusedSimpArgs false
attribute [local irreducible] Go.Calls Gx.S Gx.O Gx.D Gx.OpP Gx.OpQ Gx.OpH

theorem fn_72 : isFn Try.prog 72 = true := by kernel_rfl


theorem hdl_r (next : Int) (known : List Int) (ops : List Opn) (k : Nat) : hdlE next known ops k = if ¬ (1 ≤ (nth ops k).hd ∧ (nth ops k).hd ≤ next - 1) then 2 else if ¬ openE (nth ops k).ac (nth ops k).sh = 0 then openE (nth ops k).ac (nth ops k).sh else if ¬ (k = 0 ∨ (nth ops (k - 1)).hd < (nth ops k).hd) then 9 else if ¬ lksE (nth ops k).lk = 0 then lksE (nth ops k).lk else if (nth ops k).hd ∈ known then 23 else if (ops.take k).any (cfl (nth ops k)) = true then 28 else lockedE ((ops.take k).flatMap Opn.lk) (nth ops k).lk := by
  unfold hdlE lksE
  simp only []
  grind
theorem lksE_0 {l : List Lock} (h : lksE l = 0) : l.length ≤ 16 ∧ okL l := by
  unfold lksE at h
  split at h
  · exact absurd h (by decide)
  · exact ⟨by omega, rngs_ok h⟩
theorem hdl_ok {next : Int} {known : List Int} {ops : List Opn} {k : Nat} (h : hdlE next known ops k = 0) : openE (nth ops k).ac (nth ops k).sh = 0 ∧ (nth ops k).lk.length ≤ 16 ∧ okL (nth ops k).lk := by
  rw [hdl_r] at h
  split at h
  · exact absurd h (by decide)
  split at h
  · contradiction
  rename_i h2
  split at h
  · exact absurd h (by decide)
  split at h
  · contradiction
  rename_i h3
  exact ⟨Decidable.not_not.1 h2, lksE_0 (Decidable.not_not.1 h3)⟩
theorem fil_r {next : Int} {L : List LFil} {i : Nat} (hi : i < L.length) : filE next (pls L) i = if ¬ refE (nth L i).rc (nth L i).sq = 0 then refE (nth L i).rc (nth L i).sq else if ¬ (i = 0 ∨ refLt ((nth L (i - 1)).rc, (nth L (i - 1)).sq) ((nth L i).rc, (nth L i).sq) = true) then 9 else if (nth L i).op.length = 0 then 17 else hdlsE next (hds ((pls L).take i)) (plo (nth L i).op) := by
  unfold filE
  rw [nth_pls hi, nth_pls (show i - 1 < L.length by omega)]
  simp only [LFil.pl, List.length_map]
  grind
theorem hds_mem {L : List LFil} {i : Nat} {x : Int} : x ∈ hds ((pls L).take i) ↔ ∃ n m, n < i ∧ n < L.length ∧ m < (nth L n).op.length ∧ (nth (nth L n).op m).hd = x := by
  unfold hds
  rw [List.mem_flatMap]
  constructor
  · rintro ⟨f, hf, hx⟩
    obtain ⟨n, h1, h2, rfl⟩ := nth_mem_take hf
    have h2' : n < L.length := by simpa using h2
    rw [nth_pls h2'] at hx
    obtain ⟨o, ho, rfl⟩ := List.mem_map.1 hx
    obtain ⟨p, hp, rfl⟩ := List.mem_map.1 ho
    obtain ⟨m, hm, e⟩ := List.getElem_of_mem hp
    exact ⟨n, m, h1, h2', hm, by rw [nth_eq ((List.getElem?_eq_getElem hm).trans (congrArg some e))]; rfl⟩
  · rintro ⟨n, m, h1, h2, h3, rfl⟩
    refine ⟨(nth L n).pl, ?_, List.mem_map.2 ⟨(nth (nth L n).op m).pl, List.mem_map.2 ⟨_, mem_nth h3, rfl⟩, rfl⟩⟩
    have e : nth ((pls L).take i) n = (nth L n).pl := by rw [nth_take h1, nth_pls h2]
    rw [← e]
    exact mem_nth (by rw [List.length_take, List.length_map]; omega)
theorem any_take {ops : List LOpn} {k : Nat} {x : Opn} (hk : k ≤ ops.length) : ((plo ops).take k).any (cfl x) = true ↔ ∃ m, m < k ∧ cfl x (nth ops m).pl = true := by
  rw [List.any_eq_true]
  constructor
  · rintro ⟨o, ho, hx⟩
    obtain ⟨m, h1, h2, rfl⟩ := nth_mem_take ho
    rw [nth_plo (by simpa using h2)] at hx
    exact ⟨m, h1, hx⟩
  · rintro ⟨m, h1, hx⟩
    refine ⟨(nth ops m).pl, ?_, hx⟩
    have e : nth ((plo ops).take k) m = (nth ops m).pl := by rw [nth_take h1, nth_plo (by omega)]
    rw [← e]
    exact mem_nth (by rw [List.length_take, List.length_map]; omega)

set_option maxRecDepth 20000 in
theorem c99 (w : World) (f : LFil) (k : Nat) (hs : Ot w [] f.oa f.op) (hk : k < f.op.length) (hm0 : f.op.length ≤ 1000) (hv : ∀ n, n ≤ k → okL (nth f.op n).lk ∧ (nth f.op n).lk.length ≤ 16) : Calls Try.prog 99 #[.agg #[.int .i64 f.rc, .int .i64 f.sq, .bool f.pd, .slice f.oa f.op.length f.oc], .int .i64 (k : Int)] w fun en w' => en = .returned (.int .i64 (lockedE (((plo f.op).take k).flatMap Opn.lk) (nth f.op k).lk)) ∧ Below w.heap.size w w' := by
  have hvk := hv k (Nat.le_refl _)
  refine enter (args := [_, _]) Try.func99 Try.ntmps99 rfl rfl (HS.refl w []) ?_
  refine s_seq ?_
  refine s_region ?_
  refine o_h (h_box rfl rfl) rfl (fun b1 _ => ?_)
  refine o_p (p_pure rfl) rfl ?_
  refine o_nil ?_
  refine s_seq ?_
  refine s_seq ?_
  refine s_region ?_
  refine o_p (p_pure rfl) rfl ?_
  refine o_nil ?_
  refine s_block ?_
  refine s_loopI (α := Nat) [4, 5, 6, 7, 8, 9, 10, 11, 12, 13, 14, 15, 16, 17, 18, 19, 20, 21, 22, 23, 24, 25, 26, 27, 28, 29, 30, 31, 32, 33, 34, 35, 36, 37, 38, 39, 40, 41, 42, 43, 44, 45, 46, 47, 48, 49, 50, 51, 52, 53, 54, 55, 56, 57, 58, 59, 60, 61, 62, 63, 64, 65] (fun i => [(5, .int .i64 (i : Int))]) (fun _ => HS w [] [.blk b1 77 4 f.vals]) (fun i => i ≤ (nth f.op k).lk.length ∧ lockedE (((plo f.op).take k).flatMap Opn.lk) (nth f.op k).lk = lockedE ((((plo f.op).take k).flatMap Opn.lk) ++ (nth f.op k).lk.take i) ((nth f.op k).lk.drop i)) (fun i => (nth f.op k).lk.length - i) 0 ⟨Nat.zero_le _, by simp⟩ aSx (fun w h => h.ent aEt) (fun i hy => ?_)
  obtain ⟨hi1, hi2⟩ := hy
  refine s_seq ?_
  refine s_seq ?_
  refine s_region ?_
  refine o_p (p_pure rfl) rfl ?_
  refine o_p (p_fieldAddr rfl rfl fd_77_2 sz_75 rfl) rfl ?_
  refine o_q (q_load rfl rfl sz_75 aPk rfl) rfl ?_
  refine o_p (p_pure rfl) rfl ?_
  refine o_p (p_indexAddr rfl rfl rfl sl_75 (k) (by omega) (by omega) (Rw.some hs.1 (by omega))) rfl ?_
  refine o_p (p_fieldAddr rfl rfl fd_48_4 sz_46 rfl) rfl ?_
  refine o_q (q_load_old rfl rfl sz_46 ((hs.1.rdj 4 hk rfl))) rfl ?_
  refine o_p (p_len_slice rfl rfl Try.underlying46) rfl ?_
  refine o_p (p_pure rfl) rfl ?_
  refine o_nil ?_
  refine s_cond rfl (fun h2 => ?_) (fun h2 => ?_)
  · try simp only [decide_eq_true_eq, decide_eq_false_iff_not, Bool.not_eq_true', Bool.not_eq_false', Bool.and_eq_true, Bool.or_eq_true, Bool.and_eq_false_iff, Bool.or_eq_false_iff, Bool.not_true, Bool.not_false] at h2
    have hil : i < (nth f.op k).lk.length := by omega
    refine s_skip ?_
    refine s_seq ?_
    refine s_block ?_
    refine s_seq ?_
    refine s_region ?_
    refine o_p (p_fieldAddr rfl rfl fd_77_2 sz_75 rfl) rfl ?_
    refine o_q (q_load rfl rfl sz_75 aPk rfl) rfl ?_
    refine o_p (p_pure rfl) rfl ?_
    refine o_p (p_indexAddr rfl rfl rfl sl_75 (k) (by omega) (by omega) (Rw.some hs.1 (by omega))) rfl ?_
    refine o_p (p_fieldAddr rfl rfl fd_48_4 sz_46 rfl) rfl ?_
    refine o_q (q_load_old rfl rfl sz_46 ((hs.1.rdj 4 hk rfl))) rfl ?_
    refine o_p (p_pure rfl) rfl ?_
    refine o_p (p_indexAddr rfl rfl rfl sl_46 (i) (by omega) (by omega) (Rw.some (hs.at hk) (by omega))) rfl ?_
    refine o_q (q_load_oldn _ rfl rfl sz_62 rfl (Rw.rd (hs.at hk) hil)) rfl ?_
    refine o_h (h_alloc rfl zr_62) rfl (fun b3 _ => ?_)
    refine o_h0 (h_store rfl rfl rfl sz_62 rfl aPt (by simp only [setMany_length, List.length_set, List.length_cons, List.length_nil, List.length_map]; omega) rfl) (fun _ _ => ?_)
    refine o_nil ?_
    refine s_seq ?_
    refine s_region ?_
    refine o_p (p_pure rfl) rfl ?_
    refine o_nil ?_
    refine s_block ?_
    refine s_weaken (L' := [(0, _), (1, _), (2, _), (5, _), (6, _), (7, _)]) aSx (fun _ h => h) ?_
    refine s_loopI (α := Nat) [4, 7, 8, 29, 30, 31, 32, 33, 34, 35, 36, 37, 38, 39, 40, 41, 42, 43, 44, 45, 46, 47, 48, 49, 50, 51, 52, 53, 54, 55, 56, 57, 58, 59, 60, 61, 62, 63, 64, 65] (fun n => [(7, .int .i64 (n : Int))]) (fun _ => HS w [] [.blk b1 77 4 f.vals, .blk b3 62 3 (nth (nth f.op k).lk i).vals]) (fun n => n ≤ k + 1 ∧ noCl f.op k i n 0 (nth (nth f.op k).lk i)) (fun n => k + 1 - n) 0 ⟨by omega, fun n2 m2 h1 h2 h3 => by omega⟩ aSx (fun w h => h.ent aEt) (fun n hy => ?_)
    obtain ⟨hn1, hn2⟩ := hy
    refine s_seq ?_
    refine s_seq ?_
    refine s_region ?_
    refine o_p (p_pure rfl) rfl ?_
    refine o_p (p_pure rfl) rfl ?_
    refine o_p (p_pure rfl) rfl ?_
    refine o_nil ?_
    refine s_cond rfl (fun h4 => ?_) (fun h4 => ?_)
    · try simp only [decide_eq_true_eq, decide_eq_false_iff_not, Bool.not_eq_true', Bool.not_eq_false', Bool.and_eq_true, Bool.or_eq_true, Bool.and_eq_false_iff, Bool.or_eq_false_iff, Bool.not_true, Bool.not_false] at h4
      have hnk : n ≤ k := by omega
      have hnl : n < f.op.length := by omega
      have hvn := hv n hnk
      refine s_skip ?_
      refine s_seq ?_
      refine s_block ?_
      refine s_seq ?_
      refine s_region ?_
      refine o_p (p_pure rfl) rfl ?_
      refine o_nil ?_
      refine s_block ?_
      refine s_loopI (α := Nat) [4, 8, 34, 35, 36, 37, 38, 39, 40, 41, 42, 43, 44, 45, 46, 47, 48, 49, 50, 51, 52, 53, 54, 55, 56, 57, 58, 59, 60, 61, 62, 63, 64, 65] (fun m => [(8, .int .i64 (m : Int))]) (fun _ => HS w [] [.blk b1 77 4 f.vals, .blk b3 62 3 (nth (nth f.op k).lk i).vals]) (fun m => m ≤ (nth f.op n).lk.length ∧ noCl f.op k i n m (nth (nth f.op k).lk i)) (fun m => (nth f.op n).lk.length - m) 0 ⟨Nat.zero_le _, hn2⟩ aSx (fun w h => h.ent aEt) (fun m hy => ?_)
      obtain ⟨hm1, hm2⟩ := hy
      refine s_seq ?_
      refine s_seq ?_
      refine s_region ?_
      refine o_p (p_pure rfl) rfl ?_
      refine o_p (p_fieldAddr rfl rfl fd_77_2 sz_75 rfl) rfl ?_
      refine o_q (q_load rfl rfl sz_75 aPk rfl) rfl ?_
      refine o_p (p_pure rfl) rfl ?_
      refine o_p (p_indexAddr rfl rfl rfl sl_75 (n) (by omega) (by omega) (Rw.some hs.1 (by omega))) rfl ?_
      refine o_p (p_fieldAddr rfl rfl fd_48_4 sz_46 rfl) rfl ?_
      refine o_q (q_load_old rfl rfl sz_46 ((hs.1.rdj 4 hnl rfl))) rfl ?_
      refine o_p (p_len_slice rfl rfl Try.underlying46) rfl ?_
      refine o_p (p_pure rfl) rfl ?_
      refine o_nil ?_
      refine s_cond rfl (fun h5 => ?_) (fun h5 => ?_)
      · try simp only [decide_eq_true_eq, decide_eq_false_iff_not, Bool.not_eq_true', Bool.not_eq_false', Bool.and_eq_true, Bool.or_eq_true, Bool.and_eq_false_iff, Bool.or_eq_false_iff, Bool.not_true, Bool.not_false] at h5
        have hml : m < (nth f.op n).lk.length := by omega
        refine s_skip ?_
        refine s_seq ?_
        refine s_block ?_
        refine s_seq ?_
        refine s_cutI (α := Unit) [45, 46, 47, 48, 49, 50, 51, 52, 53, 54, 55, 56, 57, 58, 59, 60, 61, 62, 63, 64, 65] (fun _ => [(65, (.bool ((decide ((n : Int) < (k : Int)) || decide ((m : Int) < (i : Int))) && clsh (nth (nth f.op k).lk i) (nth (nth f.op n).lk m))))]) (fun _ => HS w [] [.blk b1 77 4 f.vals, .blk b3 62 3 (nth (nth f.op k).lk i).vals]) (fun _ => True) ?_ ?_
        · skip
          refine s_draw [] mixed ?_
          refine d_p 0 rfl (p_pure rfl) (by kernel_rfl) rfl rfl ?_
          refine d_p 1 rfl (p_pure rfl) (by kernel_rfl) rfl rfl ?_
          refine d_p 2 rfl (p_pure rfl) (by kernel_rfl) rfl rfl ?_
          refine d_p 3 rfl (p_pure rfl) (by kernel_rfl) rfl rfl ?_
          apply d_split 48
          · exact rfl
          · intro hg6
            have hs7 := hg6; try simp only [decide_eq_true_eq, decide_eq_false_iff_not, Bool.not_eq_true', Bool.not_eq_false', Bool.and_eq_true, Bool.or_eq_true, Bool.and_eq_false_iff, Bool.or_eq_false_iff, Bool.not_true, Bool.not_false] at hs7
            refine d_off 4 48 rfl rfl rfl hg6 (by kernel_rfl) rfl rfl ?_
            refine d_off 5 48 rfl rfl rfl hg6 (by kernel_rfl) rfl rfl ?_
            refine d_off 6 48 rfl rfl rfl hg6 (by kernel_rfl) rfl rfl ?_
            refine d_p 7 rfl (p_pickt rfl rfl hg6 rfl) (by kernel_rfl) rfl rfl ?_
            refine d_p 8 rfl (p_pure rfl) (by kernel_rfl) rfl rfl ?_
            apply d_split 53
            · exact rfl
            · intro hg8
              have hs9 := hg8; try simp only [decide_eq_true_eq, decide_eq_false_iff_not, Bool.not_eq_true', Bool.not_eq_false', Bool.and_eq_true, Bool.or_eq_true, Bool.and_eq_false_iff, Bool.or_eq_false_iff, Bool.not_true, Bool.not_false] at hs9
              refine d_qon 9 53 [] rfl rfl rfl hg8 (q_loadn rfl rfl sz_62 aPk rfl) (by kernel_rfl) (by kernel_rfl) (by kernel_rfl) rfl ?_
              refine d_pon 10 53 rfl rfl rfl hg8 (p_fieldAddr rfl rfl fd_77_2 sz_75 rfl) (by kernel_rfl) rfl rfl ?_
              refine d_qon 11 53 [] rfl rfl rfl hg8 (q_load rfl rfl sz_75 aPk rfl) (by kernel_rfl) (by kernel_rfl) (by kernel_rfl) rfl ?_
              refine d_pon 12 53 rfl rfl rfl hg8 (p_pure rfl) (by kernel_rfl) rfl rfl ?_
              refine d_pon 13 53 rfl rfl rfl hg8 (p_indexAddr rfl rfl rfl sl_75 (n) (by omega) (by omega) (Rw.some hs.1 (by omega))) (by kernel_rfl) rfl rfl ?_
              refine d_pon 14 53 rfl rfl rfl hg8 (p_fieldAddr rfl rfl fd_48_4 sz_46 rfl) (by kernel_rfl) rfl rfl ?_
              refine d_qon 15 53 [] rfl rfl rfl hg8 (q_load_old rfl rfl sz_46 ((hs.1.rdj 4 hnl rfl))) (by kernel_rfl) (by kernel_rfl) (by kernel_rfl) rfl ?_
              refine d_pon 16 53 rfl rfl rfl hg8 (p_pure rfl) (by kernel_rfl) rfl rfl ?_
              refine d_pon 17 53 rfl rfl rfl hg8 (p_indexAddr rfl rfl rfl sl_46 (m) (by omega) (by omega) (Rw.some (hs.at hnl) (by omega))) (by kernel_rfl) rfl rfl ?_
              refine d_qon 18 53 [] rfl rfl rfl hg8 (q_load_oldn _ rfl rfl sz_62 rfl (Rw.rd (hs.at hnl) hml)) (by kernel_rfl) (by kernel_rfl) (by kernel_rfl) rfl ?_
              refine d_qon 19 53 [] rfl rfl rfl hg8 (q_call rfl fn_72 rfl (fun w1 h1 => c72 w1 _ _ (okL_nth hvk.1 hil) (okL_nth hvn.1 hml))) (by kernel_rfl) (by kernel_rfl) (by kernel_rfl) rfl ?_
              refine d_p 20 rfl (p_pickt rfl rfl hg8 rfl) (by kernel_rfl) rfl rfl ?_
              refine d_nil (by kernel_rfl) (fun w h => h.ent aEt) ?_
              exact s_joinI () trivial (sl_c (congrArg (fun e => some (Value.bool e)) (by first | (simp_all; done) | (simp_all; intro h9; omega))) aSx) (fun w h => h.ent aEt)
            · intro hg10
              have hs11 := hg10; try simp only [decide_eq_true_eq, decide_eq_false_iff_not, Bool.not_eq_true', Bool.not_eq_false', Bool.and_eq_true, Bool.or_eq_true, Bool.and_eq_false_iff, Bool.or_eq_false_iff, Bool.not_true, Bool.not_false] at hs11
              refine d_off 9 53 rfl rfl rfl hg10 (by kernel_rfl) rfl rfl ?_
              refine d_off 10 53 rfl rfl rfl hg10 (by kernel_rfl) rfl rfl ?_
              refine d_off 11 53 rfl rfl rfl hg10 (by kernel_rfl) rfl rfl ?_
              refine d_off 12 53 rfl rfl rfl hg10 (by kernel_rfl) rfl rfl ?_
              refine d_off 13 53 rfl rfl rfl hg10 (by kernel_rfl) rfl rfl ?_
              refine d_off 14 53 rfl rfl rfl hg10 (by kernel_rfl) rfl rfl ?_
              refine d_off 15 53 rfl rfl rfl hg10 (by kernel_rfl) rfl rfl ?_
              refine d_off 16 53 rfl rfl rfl hg10 (by kernel_rfl) rfl rfl ?_
              refine d_off 17 53 rfl rfl rfl hg10 (by kernel_rfl) rfl rfl ?_
              refine d_off 18 53 rfl rfl rfl hg10 (by kernel_rfl) rfl rfl ?_
              refine d_off 19 53 rfl rfl rfl hg10 (by kernel_rfl) rfl rfl ?_
              refine d_p 20 rfl (p_pickf rfl rfl hg10 rfl) (by kernel_rfl) rfl rfl ?_
              refine d_nil (by kernel_rfl) (fun w h => h.ent aEt) ?_
              exact s_joinI () trivial (sl_c (congrArg (fun e => some (Value.bool e)) (by first | (simp_all; done) | (simp_all; intro h9; omega))) aSx) (fun w h => h.ent aEt)
          · intro hg12
            have hs13 := hg12; try simp only [decide_eq_true_eq, decide_eq_false_iff_not, Bool.not_eq_true', Bool.not_eq_false', Bool.and_eq_true, Bool.or_eq_true, Bool.and_eq_false_iff, Bool.or_eq_false_iff, Bool.not_true, Bool.not_false] at hs13
            refine d_pon 4 48 rfl rfl rfl hg12 (p_pure rfl) (by kernel_rfl) rfl rfl ?_
            refine d_pon 5 48 rfl rfl rfl hg12 (p_pure rfl) (by kernel_rfl) rfl rfl ?_
            refine d_pon 6 48 rfl rfl rfl hg12 (p_pure rfl) (by kernel_rfl) rfl rfl ?_
            refine d_p 7 rfl (p_pickf rfl rfl hg12 rfl) (by kernel_rfl) rfl rfl ?_
            refine d_p 8 rfl (p_pure rfl) (by kernel_rfl) rfl rfl ?_
            apply d_split 53
            · exact rfl
            · intro hg14
              have hs15 := hg14; try simp only [decide_eq_true_eq, decide_eq_false_iff_not, Bool.not_eq_true', Bool.not_eq_false', Bool.and_eq_true, Bool.or_eq_true, Bool.and_eq_false_iff, Bool.or_eq_false_iff, Bool.not_true, Bool.not_false] at hs15
              refine d_qon 9 53 [] rfl rfl rfl hg14 (q_loadn rfl rfl sz_62 aPk rfl) (by kernel_rfl) (by kernel_rfl) (by kernel_rfl) rfl ?_
              refine d_pon 10 53 rfl rfl rfl hg14 (p_fieldAddr rfl rfl fd_77_2 sz_75 rfl) (by kernel_rfl) rfl rfl ?_
              refine d_qon 11 53 [] rfl rfl rfl hg14 (q_load rfl rfl sz_75 aPk rfl) (by kernel_rfl) (by kernel_rfl) (by kernel_rfl) rfl ?_
              refine d_pon 12 53 rfl rfl rfl hg14 (p_pure rfl) (by kernel_rfl) rfl rfl ?_
              refine d_pon 13 53 rfl rfl rfl hg14 (p_indexAddr rfl rfl rfl sl_75 (n) (by omega) (by omega) (Rw.some hs.1 (by omega))) (by kernel_rfl) rfl rfl ?_
              refine d_pon 14 53 rfl rfl rfl hg14 (p_fieldAddr rfl rfl fd_48_4 sz_46 rfl) (by kernel_rfl) rfl rfl ?_
              refine d_qon 15 53 [] rfl rfl rfl hg14 (q_load_old rfl rfl sz_46 ((hs.1.rdj 4 hnl rfl))) (by kernel_rfl) (by kernel_rfl) (by kernel_rfl) rfl ?_
              refine d_pon 16 53 rfl rfl rfl hg14 (p_pure rfl) (by kernel_rfl) rfl rfl ?_
              refine d_pon 17 53 rfl rfl rfl hg14 (p_indexAddr rfl rfl rfl sl_46 (m) (by omega) (by omega) (Rw.some (hs.at hnl) (by omega))) (by kernel_rfl) rfl rfl ?_
              refine d_qon 18 53 [] rfl rfl rfl hg14 (q_load_oldn _ rfl rfl sz_62 rfl (Rw.rd (hs.at hnl) hml)) (by kernel_rfl) (by kernel_rfl) (by kernel_rfl) rfl ?_
              refine d_qon 19 53 [] rfl rfl rfl hg14 (q_call rfl fn_72 rfl (fun w1 h1 => c72 w1 _ _ (okL_nth hvk.1 hil) (okL_nth hvn.1 hml))) (by kernel_rfl) (by kernel_rfl) (by kernel_rfl) rfl ?_
              refine d_p 20 rfl (p_pickt rfl rfl hg14 rfl) (by kernel_rfl) rfl rfl ?_
              refine d_nil (by kernel_rfl) (fun w h => h.ent aEt) ?_
              exact s_joinI () trivial (sl_c (congrArg (fun e => some (Value.bool e)) (by first | (simp_all; done) | (simp_all; intro h9; omega))) aSx) (fun w h => h.ent aEt)
            · intro hg16
              have hs17 := hg16; try simp only [decide_eq_true_eq, decide_eq_false_iff_not, Bool.not_eq_true', Bool.not_eq_false', Bool.and_eq_true, Bool.or_eq_true, Bool.and_eq_false_iff, Bool.or_eq_false_iff, Bool.not_true, Bool.not_false] at hs17
              refine d_off 9 53 rfl rfl rfl hg16 (by kernel_rfl) rfl rfl ?_
              refine d_off 10 53 rfl rfl rfl hg16 (by kernel_rfl) rfl rfl ?_
              refine d_off 11 53 rfl rfl rfl hg16 (by kernel_rfl) rfl rfl ?_
              refine d_off 12 53 rfl rfl rfl hg16 (by kernel_rfl) rfl rfl ?_
              refine d_off 13 53 rfl rfl rfl hg16 (by kernel_rfl) rfl rfl ?_
              refine d_off 14 53 rfl rfl rfl hg16 (by kernel_rfl) rfl rfl ?_
              refine d_off 15 53 rfl rfl rfl hg16 (by kernel_rfl) rfl rfl ?_
              refine d_off 16 53 rfl rfl rfl hg16 (by kernel_rfl) rfl rfl ?_
              refine d_off 17 53 rfl rfl rfl hg16 (by kernel_rfl) rfl rfl ?_
              refine d_off 18 53 rfl rfl rfl hg16 (by kernel_rfl) rfl rfl ?_
              refine d_off 19 53 rfl rfl rfl hg16 (by kernel_rfl) rfl rfl ?_
              refine d_p 20 rfl (p_pickf rfl rfl hg16 rfl) (by kernel_rfl) rfl rfl ?_
              refine d_nil (by kernel_rfl) (fun w h => h.ent aEt) ?_
              exact s_joinI () trivial (sl_c (congrArg (fun e => some (Value.bool e)) (by first | (simp_all; done) | (simp_all; intro h9; omega))) aSx) (fun w h => h.ent aEt)
        · intro _ _
          refine s_cond rfl (fun h18 => ?_) (fun h18 => ?_)
          · try simp only [decide_eq_true_eq, decide_eq_false_iff_not, Bool.not_eq_true', Bool.not_eq_false', Bool.and_eq_true, Bool.or_eq_true, Bool.and_eq_false_iff, Bool.or_eq_false_iff, Bool.not_true, Bool.not_false] at h18
            have hhit : (n < k ∨ m < i) ∧ clsh (nth (nth f.op k).lk i) (nth (nth f.op n).lk m) = true := by have hq := h18; simpa using hq
            refine s_seq ?_
            refine s_region ?_
            refine o_p (p_pure rfl) rfl ?_
            refine o_nil ?_
            exact s_retv (rs := [.tmp 4]) rfl (.tmp rfl (.nil)) (fun w' h' => ⟨by rw [hi2, lockedE_drop hil, if_pos (noCl_hit hk hnl hml hnk hhit.1 hhit.2)]; rfl, h'.below⟩)
          · try simp only [decide_eq_true_eq, decide_eq_false_iff_not, Bool.not_eq_true', Bool.not_eq_false', Bool.and_eq_true, Bool.or_eq_true, Bool.and_eq_false_iff, Bool.or_eq_false_iff, Bool.not_true, Bool.not_false] at h18
            have hmiss : (n < k ∨ m < i) → clsh (nth (nth f.op k).lk i) (nth (nth f.op n).lk m) = false := by have hq := h18; (try simp at hq); intro h9; rcases h9 with h9 | h9 <;> grind
            refine s_skip ?_
            refine s_blk ?_
            refine s_region ?_
            refine o_p (p_pure rfl) rfl ?_
            refine o_p (p_pure rfl) rfl ?_
            try (refine o_slot (i64w (by omega) (by omega)) ?_)
            refine o_p (p_pure rfl) rfl ?_
            refine o_nil ?_
            exact s_backI (m + 1) (by omega) ⟨by omega, fun n2 m2 p1 p2 p3 p4 p5 => (Decidable.em (n2 = n ∧ m2 = m)).elim (fun he => by have q1 := he.1; have q2 := he.2; rw [q1, q2]; exact hmiss (by omega)) (fun he => hm2 n2 m2 p1 p2 (by omega) p4 p5)⟩ aSx (fun w h => h.ent aEt)
      · try simp only [decide_eq_true_eq, decide_eq_false_iff_not, Bool.not_eq_true', Bool.not_eq_false', Bool.and_eq_true, Bool.or_eq_true, Bool.and_eq_false_iff, Bool.or_eq_false_iff, Bool.not_true, Bool.not_false] at h5
        refine s_exit_to rfl ?_
        refine s_blk ?_
        refine s_region ?_
        refine o_p (p_pure rfl) rfl ?_
        refine o_p (p_pure rfl) rfl ?_
        try (refine o_slot (i64w (by omega) (by omega)) ?_)
        refine o_p (p_pure rfl) rfl ?_
        refine o_nil ?_
        exact s_backI (n + 1) (by omega) ⟨by omega, fun n2 m2 p1 p2 p3 => hm2 n2 m2 p1 p2 ((Nat.lt_or_ge n2 n).elim Or.inl (fun p9 => .inr (by have e9 : n2 = n := (by omega); rw [e9] at p2; exact ⟨e9, by omega⟩)))⟩ aSx (fun w h => h.ent aEt)
    · try simp only [decide_eq_true_eq, decide_eq_false_iff_not, Bool.not_eq_true', Bool.not_eq_false', Bool.and_eq_true, Bool.or_eq_true, Bool.and_eq_false_iff, Bool.or_eq_false_iff, Bool.not_true, Bool.not_false] at h4
      refine s_exit_to rfl ?_
      refine s_blk ?_
      refine s_region ?_
      refine o_p (p_pure rfl) rfl ?_
      refine o_p (p_pure rfl) rfl ?_
      try (refine o_slot (i64w (by omega) (by omega)) ?_)
      refine o_p (p_pure rfl) rfl ?_
      refine o_nil ?_
      exact s_backI (i + 1) (by omega) ⟨by omega, by rw [hi2, lockedE_drop hil, if_neg (by rw [noCl_all hk (n := n) (by omega) hn2]; decide), List.append_assoc, take_succ_nth hil]⟩ aSx (fun w h => h.ent aEt)
  · try simp only [decide_eq_true_eq, decide_eq_false_iff_not, Bool.not_eq_true', Bool.not_eq_false', Bool.and_eq_true, Bool.or_eq_true, Bool.and_eq_false_iff, Bool.or_eq_false_iff, Bool.not_true, Bool.not_false] at h2
    refine s_exit_to rfl ?_
    refine s_seq ?_
    refine s_region ?_
    refine o_p (p_pure rfl) rfl ?_
    refine o_nil ?_
    exact s_retv (rs := [.tmp 4]) rfl (.tmp rfl (.nil)) (fun w' h' => ⟨by rw [hi2, List.drop_of_length_le (by omega)]; rfl, h'.below⟩)

end Go.Proofs

namespace Go.Proofs
open Go Go.RowKit Gx
set_option linter.unusedVariables false
set_option linter.unusedSimpArgs false
attribute [local irreducible] Go.Calls Gx.S Gx.O Gx.D Gx.OpP Gx.OpQ Gx.OpH

theorem fn_22 : isFn Try.prog 22 = true := by kernel_rfl
theorem fn_98 : isFn Try.prog 98 = true := by kernel_rfl
theorem fn_23 : isFn Try.prog 23 = true := by kernel_rfl
theorem fn_99 : isFn Try.prog 99 = true := by kernel_rfl


theorem hdl_l {next : Int} {known : List Int} {ops : List LOpn} {k : Nat} (hk : k < ops.length) : hdlE next known (plo ops) k = if ¬ (1 ≤ (nth ops k).hd ∧ (nth ops k).hd ≤ next - 1) then 2 else if ¬ openE (nth ops k).ac (nth ops k).sh = 0 then openE (nth ops k).ac (nth ops k).sh else if ¬ (k = 0 ∨ (nth ops (k - 1)).hd < (nth ops k).hd) then 9 else if ¬ lksE (nth ops k).lk = 0 then lksE (nth ops k).lk else if (nth ops k).hd ∈ known then 23 else if ((plo ops).take k).any (cfl (nth ops k).pl) = true then 28 else lockedE (((plo ops).take k).flatMap Opn.lk) (nth ops k).lk := by
  rw [hdl_r, nth_plo hk, nth_plo (show k - 1 < ops.length by omega)]
  rfl
theorem hdl_okl {next : Int} {known : List Int} {ops : List LOpn} {k : Nat} (hk : k < ops.length) (h : hdlE next known (plo ops) k = 0) : openE (nth ops k).ac (nth ops k).sh = 0 ∧ (nth ops k).lk.length ≤ 16 ∧ okL (nth ops k).lk := by
  have h9 := hdl_ok h
  rw [nth_plo hk] at h9
  exact h9

set_option maxRecDepth 20000 in
set_option maxHeartbeats 1000000 in
theorem c61 (w : World) (next : Int) (a : Option Addr) (cap : Nat) (L : List LFil) (i k : Nat) (hs : Ft w [] a L) (hm : L.length ≤ 1000) (hmo : ∀ f ∈ L, f.op.length ≤ 1000) (hi : i < L.length) (hk : k < (nth L i).op.length) (hn : 1 ≤ next ∧ next ≤ 2147483647) (hv : ∀ j, j < k → hdlE next (hds ((pls L).take i)) (plo (nth L i).op) j = 0) : Calls Try.prog 61 #[.agg #[.int .i64 next, .slice a L.length cap], .int .i64 (i : Int), .int .i64 (k : Int)] w fun en w' => en = .returned (.int .i64 (hdlE next (hds ((pls L).take i)) (plo (nth L i).op) k)) ∧ Below w.heap.size w w' := by
  have hoi := hmo _ (mem_nth hi)
  refine enter (args := [_, _, _]) Try.func61 Try.ntmps61 rfl rfl (HS.refl w []) ?_
  refine s_seq ?_
  refine s_region ?_
  refine o_h (h_box rfl rfl) rfl (fun b1 _ => ?_)
  refine o_p (p_pure rfl) rfl ?_
  refine o_nil ?_
  refine s_seq ?_
  refine s_region ?_
  refine o_p (p_fieldAddr rfl rfl fd_26_1 sz_24 rfl) rfl ?_
  refine o_q (q_load rfl rfl sz_24 aPk rfl) rfl ?_
  refine o_p (p_pure rfl) rfl ?_
  refine o_p (p_indexAddr rfl rfl rfl sl_24 (i) (by omega) (by omega) (Rw.some hs.1 (by omega))) rfl ?_
  refine o_q (q_load_oldn _ rfl rfl sz_77 rfl (Rw.rd hs.1 hi)) rfl ?_
  refine o_h (h_alloc rfl zr_77) rfl (fun b2 _ => ?_)
  refine o_h0 (h_store rfl rfl rfl sz_77 rfl aPt (by simp only [setMany_length, List.length_set, List.length_cons, List.length_nil, List.length_map]; omega) rfl) (fun _ _ => ?_)
  refine o_nil ?_
  refine s_seq ?_
  refine s_region ?_
  refine o_p (p_fieldAddr rfl rfl fd_77_2 sz_75 rfl) rfl ?_
  refine o_q (q_load rfl rfl sz_75 aPk rfl) rfl ?_
  refine o_p (p_pure rfl) rfl ?_
  refine o_p (p_indexAddr rfl rfl rfl sl_75 (k) (by omega) (by omega) (Rw.some (hs.at hi).1 (by omega))) rfl ?_
  refine o_q (q_load_oldn _ rfl rfl sz_48 rfl (Rw.rd (hs.at hi).1 hk)) rfl ?_
  refine o_h (h_alloc rfl zr_48) rfl (fun b3 _ => ?_)
  refine o_h0 (h_store rfl rfl rfl sz_48 rfl aPt (by simp only [setMany_length, List.length_set, List.length_cons, List.length_nil, List.length_map]; omega) rfl) (fun _ _ => ?_)
  refine o_nil ?_
  refine s_seq ?_
  refine s_seq ?_
  refine s_region ?_
  refine o_p (p_fieldAddr rfl rfl fd_48_0 sz_3 rfl) rfl ?_
  refine o_q (q_load rfl rfl sz_3 aPk rfl) rfl ?_
  refine o_p (p_fieldAddr rfl rfl fd_26_0 sz_3 rfl) rfl ?_
  refine o_q (q_load rfl rfl sz_3 aPk rfl) rfl ?_
  refine o_p (p_pure rfl) rfl ?_
  try (refine o_slot (i64w (by omega) (by omega)) ?_)
  refine o_q (q_call rfl fn_16 rfl (fun w1 h1 => c16 w1 _ _ _)) rfl ?_
  refine o_p (p_pure rfl) rfl ?_
  refine o_nil ?_
  refine s_cond rfl (fun h4 => ?_) (fun h4 => ?_)
  · try simp only [decide_eq_true_eq, decide_eq_false_iff_not, Bool.not_eq_true', Bool.not_eq_false', Bool.and_eq_true, Bool.or_eq_true, Bool.and_eq_false_iff, Bool.or_eq_false_iff, Bool.not_true, Bool.not_false] at h4
    have hA : ¬ (1 ≤ (nth (nth L i).op k).hd ∧ (nth (nth L i).op k).hd ≤ next - 1) := by have hq := h4; (try simp at hq); omega
    refine s_seq ?_
    refine s_region ?_
    refine o_p (p_pure rfl) rfl ?_
    refine o_nil ?_
    exact s_retv (rs := [.tmp 6]) rfl (.tmp rfl (.nil)) (fun w' h' => ⟨by rw [hdl_l hk, if_pos hA]; rfl, h'.below⟩)
  · try simp only [decide_eq_true_eq, decide_eq_false_iff_not, Bool.not_eq_true', Bool.not_eq_false', Bool.and_eq_true, Bool.or_eq_true, Bool.and_eq_false_iff, Bool.or_eq_false_iff, Bool.not_true, Bool.not_false] at h4
    have hA : 1 ≤ (nth (nth L i).op k).hd ∧ (nth (nth L i).op k).hd ≤ next - 1 := by have hq := h4; (try simp at hq); omega
    refine s_skip ?_
    refine s_seq ?_
    refine s_seq ?_
    refine s_region ?_
    refine o_q (q_loadn rfl rfl sz_48 aPk rfl) rfl ?_
    refine o_q (q_call rfl fn_22 rfl (fun w1 h1 => c22 w1 (nth (nth L i).op k))) rfl ?_
    refine o_p (p_pure rfl) rfl ?_
    refine o_nil ?_
    refine s_seq ?_
    refine s_region ?_
    refine o_p (p_pure rfl) rfl ?_
    refine o_p (p_pure rfl) rfl ?_
    refine o_nil ?_
    refine s_cond rfl (fun h5 => ?_) (fun h5 => ?_)
    · try simp only [decide_eq_true_eq, decide_eq_false_iff_not, Bool.not_eq_true', Bool.not_eq_false', Bool.and_eq_true, Bool.or_eq_true, Bool.and_eq_false_iff, Bool.or_eq_false_iff, Bool.not_true, Bool.not_false] at h5
      have hB : ¬ openE (nth (nth L i).op k).ac (nth (nth L i).op k).sh = 0 := h5
      refine s_seq ?_
      refine s_region ?_
      refine o_p (p_pure rfl) rfl ?_
      refine o_p (p_pure rfl) rfl ?_
      refine o_nil ?_
      exact s_retv (rs := [.tmp 6]) rfl (.tmp rfl (.nil)) (fun w' h' => ⟨by rw [hdl_l hk, if_neg (not_not_intro hA), if_pos hB]; rfl, h'.below⟩)
    · try simp only [decide_eq_true_eq, decide_eq_false_iff_not, Bool.not_eq_true', Bool.not_eq_false', Bool.and_eq_true, Bool.or_eq_true, Bool.and_eq_false_iff, Bool.or_eq_false_iff, Bool.not_true, Bool.not_false] at h5
      have hB : openE (nth (nth L i).op k).ac (nth (nth L i).op k).sh = 0 := h5
      refine s_skip ?_
      refine s_seq ?_
      refine s_seq ?_
      refine s_weaken (L' := [(1, _), (2, _), (3, _), (6, _), (7, _), (8, _)]) aSx (fun _ h => h) ?_
      refine s_cutI (α := Unit) [36, 37, 38, 39, 40, 41, 42, 43, 44, 45, 46, 47, 48, 49] (fun _ => [(49, .bool (decide (¬ (k = 0 ∨ (nth (nth L i).op (k - 1)).hd < (nth (nth L i).op k).hd))))]) (fun _ => HS w [] [.blk b1 26 2 [.int .i64 next, .slice a L.length cap], .blk b2 77 4 (nth L i).vals, .blk b3 48 5 (nth (nth L i).op k).vals]) (fun _ => True) ?_ ?_
      · skip
        refine s_draw [] mixed ?_
        refine d_p 0 rfl (p_pure rfl) (by kernel_rfl) rfl rfl ?_
        refine d_p 1 rfl (p_pure rfl) (by kernel_rfl) rfl rfl ?_
        refine d_p 2 rfl (p_pure rfl) (by kernel_rfl) rfl rfl ?_
        apply d_split 38
        · exact rfl
        · intro hg6
          have hs7 := hg6; try simp only [decide_eq_true_eq, decide_eq_false_iff_not, Bool.not_eq_true', Bool.not_eq_false', Bool.and_eq_true, Bool.or_eq_true, Bool.and_eq_false_iff, Bool.or_eq_false_iff, Bool.not_true, Bool.not_false] at hs7
          refine d_pon 3 38 rfl rfl rfl hg6 (p_fieldAddr rfl rfl fd_48_0 sz_3 rfl) (by kernel_rfl) rfl rfl ?_
          refine d_qon 4 38 [] rfl rfl rfl hg6 (q_load rfl rfl sz_3 aPk rfl) (by kernel_rfl) (by kernel_rfl) (by kernel_rfl) rfl ?_
          refine d_pon 5 38 rfl rfl rfl hg6 (p_fieldAddr rfl rfl fd_77_2 sz_75 rfl) (by kernel_rfl) rfl rfl ?_
          refine d_qon 6 38 [] rfl rfl rfl hg6 (q_load rfl rfl sz_75 aPk rfl) (by kernel_rfl) (by kernel_rfl) (by kernel_rfl) rfl ?_
          refine d_pon 7 38 rfl rfl rfl hg6 (p_pure rfl) (by kernel_rfl) rfl rfl ?_
          refine d_pon 8 38 rfl rfl rfl hg6 (p_pure rfl) (by kernel_rfl) rfl rfl ?_
          try (refine d_slot (i64w (by omega) (by omega)) ?_)
          refine d_pon 9 38 rfl rfl rfl hg6 (p_indexAddr rfl rfl rfl sl_75 ((k - 1)) (by omega) (by omega) (Rw.some (hs.at hi).1 (by omega))) (by kernel_rfl) rfl rfl ?_
          refine d_pon 10 38 rfl rfl rfl hg6 (p_fieldAddr rfl rfl fd_48_0 sz_3 rfl) (by kernel_rfl) rfl rfl ?_
          refine d_qon 11 38 [] rfl rfl rfl hg6 (q_load_old rfl rfl sz_3 (((hs.at hi).1.rdj 0 (show k - 1 < (nth L i).op.length by omega) rfl))) (by kernel_rfl) (by kernel_rfl) (by kernel_rfl) rfl ?_
          refine d_pon 12 38 rfl rfl rfl hg6 (p_pure rfl) (by kernel_rfl) rfl rfl ?_
          refine d_p 13 rfl (p_pickt rfl rfl hg6 rfl) (by kernel_rfl) rfl rfl ?_
          refine d_nil (by kernel_rfl) (fun w h => h.ent aEt) ?_
          exact s_joinI () trivial (sl_c (congrArg (fun e => some (Value.bool e)) (by have hq := hg6; simp at hq; first | (rw [decide_eq_decide]; omega) | (subst hq; simp; done) | (have h0 : k = 0 := by omega); simp [h0])) aSx) (fun w h => h.ent aEt)
        · intro hg8
          have hs9 := hg8; try simp only [decide_eq_true_eq, decide_eq_false_iff_not, Bool.not_eq_true', Bool.not_eq_false', Bool.and_eq_true, Bool.or_eq_true, Bool.and_eq_false_iff, Bool.or_eq_false_iff, Bool.not_true, Bool.not_false] at hs9
          refine d_off 3 38 rfl rfl rfl hg8 (by kernel_rfl) rfl rfl ?_
          refine d_off 4 38 rfl rfl rfl hg8 (by kernel_rfl) rfl rfl ?_
          refine d_off 5 38 rfl rfl rfl hg8 (by kernel_rfl) rfl rfl ?_
          refine d_off 6 38 rfl rfl rfl hg8 (by kernel_rfl) rfl rfl ?_
          refine d_off 7 38 rfl rfl rfl hg8 (by kernel_rfl) rfl rfl ?_
          refine d_off 8 38 rfl rfl rfl hg8 (by kernel_rfl) rfl rfl ?_
          refine d_off 9 38 rfl rfl rfl hg8 (by kernel_rfl) rfl rfl ?_
          refine d_off 10 38 rfl rfl rfl hg8 (by kernel_rfl) rfl rfl ?_
          refine d_off 11 38 rfl rfl rfl hg8 (by kernel_rfl) rfl rfl ?_
          refine d_off 12 38 rfl rfl rfl hg8 (by kernel_rfl) rfl rfl ?_
          refine d_p 13 rfl (p_pickf rfl rfl hg8 rfl) (by kernel_rfl) rfl rfl ?_
          refine d_nil (by kernel_rfl) (fun w h => h.ent aEt) ?_
          exact s_joinI () trivial (sl_c (congrArg (fun e => some (Value.bool e)) (by have hq := hg8; simp at hq; first | (rw [decide_eq_decide]; omega) | (subst hq; simp; done) | (have h0 : k = 0 := by omega); simp [h0])) aSx) (fun w h => h.ent aEt)
      · intro _ _
        refine s_cond rfl (fun h10 => ?_) (fun h10 => ?_)
        · try simp only [decide_eq_true_eq, decide_eq_false_iff_not, Bool.not_eq_true', Bool.not_eq_false', Bool.and_eq_true, Bool.or_eq_true, Bool.and_eq_false_iff, Bool.or_eq_false_iff, Bool.not_true, Bool.not_false] at h10
          have hC : ¬ (k = 0 ∨ (nth (nth L i).op (k - 1)).hd < (nth (nth L i).op k).hd) := by have hq := h10; simpa using hq
          refine s_seq ?_
          refine s_region ?_
          refine o_p (p_pure rfl) rfl ?_
          refine o_nil ?_
          exact s_retv (rs := [.tmp 6]) rfl (.tmp rfl (.nil)) (fun w' h' => ⟨by rw [hdl_l hk, if_neg (not_not_intro hA), if_neg (not_not_intro hB), if_pos hC]; rfl, h'.below⟩)
        · try simp only [decide_eq_true_eq, decide_eq_false_iff_not, Bool.not_eq_true', Bool.not_eq_false', Bool.and_eq_true, Bool.or_eq_true, Bool.and_eq_false_iff, Bool.or_eq_false_iff, Bool.not_true, Bool.not_false] at h10
          have hC : k = 0 ∨ (nth (nth L i).op (k - 1)).hd < (nth (nth L i).op k).hd := by have hq := h10; (try simp at hq); omega
          refine s_skip ?_
          refine s_seq ?_
          refine s_seq ?_
          refine s_region ?_
          refine o_q (q_loadn rfl rfl sz_48 aPk rfl) rfl ?_
          refine o_q (q_call rfl fn_98 rfl (fun w1 h1 => c98 w1 (nth (nth L i).op k) (((hs.at hi).at hk).later h1))) rfl ?_
          refine o_p (p_pure rfl) rfl ?_
          refine o_nil ?_
          refine s_seq ?_
          refine s_region ?_
          refine o_p (p_pure rfl) rfl ?_
          refine o_p (p_pure rfl) rfl ?_
          refine o_nil ?_
          refine s_cond rfl (fun h11 => ?_) (fun h11 => ?_)
          · try simp only [decide_eq_true_eq, decide_eq_false_iff_not, Bool.not_eq_true', Bool.not_eq_false', Bool.and_eq_true, Bool.or_eq_true, Bool.and_eq_false_iff, Bool.or_eq_false_iff, Bool.not_true, Bool.not_false] at h11
            have hD : ¬ lksE (nth (nth L i).op k).lk = 0 := h11
            refine s_seq ?_
            refine s_region ?_
            refine o_p (p_pure rfl) rfl ?_
            refine o_p (p_pure rfl) rfl ?_
            refine o_nil ?_
            exact s_retv (rs := [.tmp 6]) rfl (.tmp rfl (.nil)) (fun w' h' => ⟨by rw [hdl_l hk, if_neg (not_not_intro hA), if_neg (not_not_intro hB), if_neg (not_not_intro hC), if_pos hD]; rfl, h'.below⟩)
          · try simp only [decide_eq_true_eq, decide_eq_false_iff_not, Bool.not_eq_true', Bool.not_eq_false', Bool.and_eq_true, Bool.or_eq_true, Bool.and_eq_false_iff, Bool.or_eq_false_iff, Bool.not_true, Bool.not_false] at h11
            have hD : lksE (nth (nth L i).op k).lk = 0 := h11
            have hD2 := lksE_0 hD
            refine s_skip ?_
            refine s_seq ?_
            refine s_seq ?_
            refine s_region ?_
            refine o_p (p_pure rfl) rfl ?_
            refine o_nil ?_
            refine s_block ?_
            refine s_loopI (α := Nat) [6, 11, 12, 55, 56, 57, 58, 59, 60, 61, 62, 63, 64, 65, 66, 67, 68, 69, 70, 71, 72, 73, 74, 75, 76, 77, 78, 79, 80, 81, 82, 83] (fun n => [(11, .int .i64 (n : Int))]) (fun _ => HS w [] [.blk b1 26 2 [.int .i64 next, .slice a L.length cap], .blk b2 77 4 (nth L i).vals, .blk b3 48 5 (nth (nth L i).op k).vals]) (fun n => n ≤ i ∧ ∀ n2, n2 < n → ∀ m2, m2 < (nth L n2).op.length → (nth (nth L n2).op m2).hd ≠ (nth (nth L i).op k).hd) (fun n => i - n) 0 ⟨Nat.zero_le _, fun n2 h => absurd h (Nat.not_lt_zero n2)⟩ aSx (fun w h => h.ent aEt) (fun n hy => ?_)
            obtain ⟨hn1, hn2⟩ := hy
            refine s_seq ?_
            refine s_seq ?_
            refine s_region ?_
            refine o_p (p_pure rfl) rfl ?_
            refine o_p (p_pure rfl) rfl ?_
            refine o_p (p_pure rfl) rfl ?_
            refine o_nil ?_
            refine s_cond rfl (fun h12 => ?_) (fun h12 => ?_)
            · try simp only [decide_eq_true_eq, decide_eq_false_iff_not, Bool.not_eq_true', Bool.not_eq_false', Bool.and_eq_true, Bool.or_eq_true, Bool.and_eq_false_iff, Bool.or_eq_false_iff, Bool.not_true, Bool.not_false] at h12
              have hni : n < i := by omega
              have hnl : n < L.length := by omega
              have hon := hmo _ (mem_nth hnl)
              refine s_skip ?_
              refine s_seq ?_
              refine s_block ?_
              refine s_seq ?_
              refine s_region ?_
              refine o_p (p_pure rfl) rfl ?_
              refine o_nil ?_
              refine s_block ?_
              refine s_loopI (α := Nat) [6, 12, 60, 61, 62, 63, 64, 65, 66, 67, 68, 69, 70, 71, 72, 73, 74, 75, 76, 77, 78, 79, 80, 81, 82, 83] (fun m => [(12, .int .i64 (m : Int))]) (fun _ => HS w [] [.blk b1 26 2 [.int .i64 next, .slice a L.length cap], .blk b2 77 4 (nth L i).vals, .blk b3 48 5 (nth (nth L i).op k).vals]) (fun m => m ≤ (nth L n).op.length ∧ ∀ m2, m2 < m → (nth (nth L n).op m2).hd ≠ (nth (nth L i).op k).hd) (fun m => (nth L n).op.length - m) 0 ⟨Nat.zero_le _, fun n2 h => absurd h (Nat.not_lt_zero n2)⟩ aSx (fun w h => h.ent aEt) (fun m hy => ?_)
              obtain ⟨hm1, hm2⟩ := hy
              refine s_seq ?_
              refine s_seq ?_
              refine s_region ?_
              refine o_p (p_pure rfl) rfl ?_
              refine o_p (p_fieldAddr rfl rfl fd_26_1 sz_24 rfl) rfl ?_
              refine o_q (q_load rfl rfl sz_24 aPk rfl) rfl ?_
              refine o_p (p_pure rfl) rfl ?_
              refine o_p (p_indexAddr rfl rfl rfl sl_24 (n) (by omega) (by omega) (Rw.some hs.1 (by omega))) rfl ?_
              refine o_p (p_fieldAddr rfl rfl fd_77_2 sz_75 rfl) rfl ?_
              refine o_q (q_load_old rfl rfl sz_75 ((hs.1.rdj 3 hnl rfl))) rfl ?_
              refine o_p (p_len_slice rfl rfl Try.underlying75) rfl ?_
              refine o_p (p_pure rfl) rfl ?_
              refine o_nil ?_
              refine s_cond rfl (fun h13 => ?_) (fun h13 => ?_)
              · try simp only [decide_eq_true_eq, decide_eq_false_iff_not, Bool.not_eq_true', Bool.not_eq_false', Bool.and_eq_true, Bool.or_eq_true, Bool.and_eq_false_iff, Bool.or_eq_false_iff, Bool.not_true, Bool.not_false] at h13
                have hml : m < (nth L n).op.length := by omega
                refine s_skip ?_
                refine s_seq ?_
                refine s_block ?_
                refine s_seq ?_
                refine s_draw [] mixed ?_
                refine d_p 0 rfl (p_fieldAddr rfl rfl fd_26_1 sz_24 rfl) (by kernel_rfl) rfl rfl ?_
                refine d_q 1 [] rfl (q_load rfl rfl sz_24 aPk rfl) (by kernel_rfl) (by kernel_rfl) (by kernel_rfl) rfl ?_
                refine d_p 2 rfl (p_pure rfl) (by kernel_rfl) rfl rfl ?_
                refine d_p 3 rfl (p_indexAddr rfl rfl rfl sl_24 (n) (by omega) (by omega) (Rw.some hs.1 (by omega))) (by kernel_rfl) rfl rfl ?_
                refine d_p 4 rfl (p_fieldAddr rfl rfl fd_77_2 sz_75 rfl) (by kernel_rfl) rfl rfl ?_
                refine d_q 5 [] rfl (q_load_old rfl rfl sz_75 ((hs.1.rdj 3 hnl rfl))) (by kernel_rfl) (by kernel_rfl) (by kernel_rfl) rfl ?_
                refine d_p 6 rfl (p_pure rfl) (by kernel_rfl) rfl rfl ?_
                refine d_p 7 rfl (p_indexAddr rfl rfl rfl sl_75 (m) (by omega) (by omega) (Rw.some (hs.at hnl).1 (by omega))) (by kernel_rfl) rfl rfl ?_
                refine d_p 8 rfl (p_fieldAddr rfl rfl fd_48_0 sz_3 rfl) (by kernel_rfl) rfl rfl ?_
                refine d_q 9 [] rfl (q_load_old rfl rfl sz_3 (((hs.at hnl).1.rdj 0 hml rfl))) (by kernel_rfl) (by kernel_rfl) (by kernel_rfl) rfl ?_
                refine d_p 10 rfl (p_fieldAddr rfl rfl fd_48_0 sz_3 rfl) (by kernel_rfl) rfl rfl ?_
                refine d_q 11 [] rfl (q_load rfl rfl sz_3 aPk rfl) (by kernel_rfl) (by kernel_rfl) (by kernel_rfl) rfl ?_
                refine d_p 12 rfl (p_pure rfl) (by kernel_rfl) rfl rfl ?_
                refine d_nil (by kernel_rfl) (fun w h => h.ent aEt) ?_
                refine s_cond rfl (fun h14 => ?_) (fun h14 => ?_)
                · try simp only [decide_eq_true_eq, decide_eq_false_iff_not, Bool.not_eq_true', Bool.not_eq_false', Bool.and_eq_true, Bool.or_eq_true, Bool.and_eq_false_iff, Bool.or_eq_false_iff, Bool.not_true, Bool.not_false] at h14
                  have hyes : (nth (nth L i).op k).hd ∈ (hds ((pls L).take i)) := hds_mem.2 ⟨n, m, hni, hnl, hml, h14⟩
                  refine s_seq ?_
                  refine s_weaken (L' := [(1, _), (2, _), (3, _), (7, _), (8, _), (10, _), (11, _), (12, _), (49, _), (50, _), (51, _), (52, _), (53, _), (55, _), (56, _), (57, _)]) aSx (fun _ h => h) ?_
                  refine s_region ?_
                  refine o_p (p_pure rfl) rfl ?_
                  refine o_nil ?_
                  exact s_retv (rs := [.tmp 6]) rfl (.tmp rfl (.nil)) (fun w' h' => ⟨by rw [hdl_l hk, if_neg (not_not_intro hA), if_neg (not_not_intro hB), if_neg (not_not_intro hC), if_neg (not_not_intro hD), if_pos hyes]; rfl, h'.below⟩)
                · try simp only [decide_eq_true_eq, decide_eq_false_iff_not, Bool.not_eq_true', Bool.not_eq_false', Bool.and_eq_true, Bool.or_eq_true, Bool.and_eq_false_iff, Bool.or_eq_false_iff, Bool.not_true, Bool.not_false] at h14
                  refine s_skip ?_
                  refine s_blk ?_
                  refine s_weaken (L' := [(1, _), (2, _), (3, _), (7, _), (8, _), (10, _), (11, _), (12, _), (49, _), (50, _), (51, _), (52, _), (53, _), (55, _), (56, _), (57, _)]) aSx (fun _ h => h) ?_
                  refine s_region ?_
                  refine o_p (p_pure rfl) rfl ?_
                  refine o_p (p_pure rfl) rfl ?_
                  try (refine o_slot (i64w (by omega) (by omega)) ?_)
                  refine o_p (p_pure rfl) rfl ?_
                  refine o_nil ?_
                  exact s_backI (m + 1) (by omega) ⟨by omega, fun m2 p1 => (Nat.lt_or_ge m2 m).elim (hm2 m2) (fun p3 => by have e9 : m2 = m := (by omega); rw [e9]; exact h14)⟩ aSx (fun w h => h.ent aEt)
              · try simp only [decide_eq_true_eq, decide_eq_false_iff_not, Bool.not_eq_true', Bool.not_eq_false', Bool.and_eq_true, Bool.or_eq_true, Bool.and_eq_false_iff, Bool.or_eq_false_iff, Bool.not_true, Bool.not_false] at h13
                refine s_exit_to rfl ?_
                refine s_blk ?_
                refine s_region ?_
                refine o_p (p_pure rfl) rfl ?_
                refine o_p (p_pure rfl) rfl ?_
                try (refine o_slot (i64w (by omega) (by omega)) ?_)
                refine o_p (p_pure rfl) rfl ?_
                refine o_nil ?_
                exact s_backI (n + 1) (by omega) ⟨by omega, fun n2 p1 m2 p2 => (Nat.lt_or_ge n2 n).elim (fun p3 => hn2 n2 p3 m2 p2) (fun p3 => by have e9 : n2 = n := (by omega); rw [e9] at p2 ⊢; exact hm2 m2 (by omega))⟩ aSx (fun w h => h.ent aEt)
            · try simp only [decide_eq_true_eq, decide_eq_false_iff_not, Bool.not_eq_true', Bool.not_eq_false', Bool.and_eq_true, Bool.or_eq_true, Bool.and_eq_false_iff, Bool.or_eq_false_iff, Bool.not_true, Bool.not_false] at h12
              have hno : (nth (nth L i).op k).hd ∉ (hds ((pls L).take i)) := by rw [hds_mem]; rintro ⟨n2, m2, p1, p2, p3, p4⟩; exact hn2 n2 (by omega) m2 p3 p4
              refine s_exit_to rfl ?_
              refine s_seq ?_
              refine s_seq ?_
              refine s_region ?_
              refine o_p (p_pure rfl) rfl ?_
              refine o_nil ?_
              refine s_block ?_
              refine s_loopI (α := Nat) [6, 13, 84, 85, 86, 87, 88, 89, 90, 91, 92, 93, 94, 95] (fun m => [(13, .int .i64 (m : Int))]) (fun _ => HS w [] [.blk b1 26 2 [.int .i64 next, .slice a L.length cap], .blk b2 77 4 (nth L i).vals, .blk b3 48 5 (nth (nth L i).op k).vals]) (fun m => m ≤ k ∧ ∀ m2, m2 < m → cfl (nth (nth L i).op m2).pl (nth (nth L i).op k).pl = false) (fun m => k - m) 0 ⟨Nat.zero_le _, fun n2 h => absurd h (Nat.not_lt_zero n2)⟩ aSx (fun w h => h.ent aEt) (fun p hy => ?_)
              obtain ⟨hp1, hp2⟩ := hy
              refine s_seq ?_
              refine s_seq ?_
              refine s_region ?_
              refine o_p (p_pure rfl) rfl ?_
              refine o_p (p_pure rfl) rfl ?_
              refine o_p (p_pure rfl) rfl ?_
              refine o_nil ?_
              refine s_cond rfl (fun h15 => ?_) (fun h15 => ?_)
              · try simp only [decide_eq_true_eq, decide_eq_false_iff_not, Bool.not_eq_true', Bool.not_eq_false', Bool.and_eq_true, Bool.or_eq_true, Bool.and_eq_false_iff, Bool.or_eq_false_iff, Bool.not_true, Bool.not_false] at h15
                have hpk : p < k := by omega
                have hpl : p < (nth L i).op.length := by omega
                refine s_skip ?_
                refine s_seq ?_
                refine s_block ?_
                refine s_seq ?_
                refine s_draw [] mixed ?_
                refine d_p 0 rfl (p_fieldAddr rfl rfl fd_77_2 sz_75 rfl) (by kernel_rfl) rfl rfl ?_
                refine d_q 1 [] rfl (q_load rfl rfl sz_75 aPk rfl) (by kernel_rfl) (by kernel_rfl) (by kernel_rfl) rfl ?_
                refine d_p 2 rfl (p_pure rfl) (by kernel_rfl) rfl rfl ?_
                refine d_p 3 rfl (p_indexAddr rfl rfl rfl sl_75 (p) (by omega) (by omega) (Rw.some (hs.at hi).1 (by omega))) (by kernel_rfl) rfl rfl ?_
                refine d_q 4 [] rfl (q_load_oldn _ rfl rfl sz_48 rfl (Rw.rd (hs.at hi).1 hpl)) (by kernel_rfl) (by kernel_rfl) (by kernel_rfl) rfl ?_
                refine d_q 5 [] rfl (q_loadn rfl rfl sz_48 aPk rfl) (by kernel_rfl) (by kernel_rfl) (by kernel_rfl) rfl ?_
                refine d_q 6 [] rfl (q_call rfl fn_23 rfl (fun w1 h1 => c23 w1 (nth (nth L i).op p) (nth (nth L i).op k) (hdl_okl hpl (hv p hpk)).1 hB)) (by kernel_rfl) (by kernel_rfl) (by kernel_rfl) rfl ?_
                refine d_nil (by kernel_rfl) (fun w h => h.ent aEt) ?_
                refine s_cond rfl (fun h16 => ?_) (fun h16 => ?_)
                · try simp only [decide_eq_true_eq, decide_eq_false_iff_not, Bool.not_eq_true', Bool.not_eq_false', Bool.and_eq_true, Bool.or_eq_true, Bool.and_eq_false_iff, Bool.or_eq_false_iff, Bool.not_true, Bool.not_false] at h16
                  have hyc : ((plo (nth L i).op).take k).any (cfl (nth (nth L i).op k).pl) = true := (any_take (by omega)).2 ⟨p, hpk, by rw [cfl_comm]; exact h16⟩
                  refine s_seq ?_
                  refine s_region ?_
                  refine o_p (p_pure rfl) rfl ?_
                  refine o_nil ?_
                  exact s_retv (rs := [.tmp 6]) rfl (.tmp rfl (.nil)) (fun w' h' => ⟨by rw [hdl_l hk, if_neg (not_not_intro hA), if_neg (not_not_intro hB), if_neg (not_not_intro hC), if_neg (not_not_intro hD), if_neg hno, if_pos hyc]; rfl, h'.below⟩)
                · try simp only [decide_eq_true_eq, decide_eq_false_iff_not, Bool.not_eq_true', Bool.not_eq_false', Bool.and_eq_true, Bool.or_eq_true, Bool.and_eq_false_iff, Bool.or_eq_false_iff, Bool.not_true, Bool.not_false] at h16
                  have hmiss : cfl (nth (nth L i).op p).pl (nth (nth L i).op k).pl = false := by have hq := h16; simpa using hq
                  refine s_skip ?_
                  refine s_blk ?_
                  refine s_region ?_
                  refine o_p (p_pure rfl) rfl ?_
                  refine o_p (p_pure rfl) rfl ?_
                  try (refine o_slot (i64w (by omega) (by omega)) ?_)
                  refine o_p (p_pure rfl) rfl ?_
                  refine o_nil ?_
                  exact s_backI (p + 1) (by omega) ⟨by omega, fun m2 p1 => (Nat.lt_or_ge m2 p).elim (hp2 m2) (fun p3 => by have e9 : m2 = p := (by omega); rw [e9]; exact hmiss)⟩ aSx (fun w h => h.ent aEt)
              · try simp only [decide_eq_true_eq, decide_eq_false_iff_not, Bool.not_eq_true', Bool.not_eq_false', Bool.and_eq_true, Bool.or_eq_true, Bool.and_eq_false_iff, Bool.or_eq_false_iff, Bool.not_true, Bool.not_false] at h15
                have hnc : ¬ ((plo (nth L i).op).take k).any (cfl (nth (nth L i).op k).pl) = true := by rw [any_take (by omega)]; rintro ⟨m2, p1, p2⟩; rw [cfl_comm, hp2 m2 (by omega)] at p2; cases p2
                refine s_exit_to rfl ?_
                refine s_seq ?_
                refine s_region ?_
                refine o_q (q_loadn rfl rfl sz_77 aPk rfl) rfl ?_
                refine o_p (p_pure rfl) rfl ?_
                refine o_q (q_call rfl fn_99 rfl (fun w1 h1 => c99 w1 (nth L i) k ((hs.at hi).later h1) hk hoi (fun n p1 => (Nat.lt_or_ge n k).elim (fun p2 => (hdl_okl (by omega) (hv n p2)).2.symm) (fun p2 => by have e9 : n = k := (by omega); rw [e9]; exact hD2.symm)))) rfl ?_
                refine o_p (p_pure rfl) rfl ?_
                refine o_nil ?_
                exact s_retv (rs := [.tmp 6]) rfl (.tmp rfl (.nil)) (fun w' h' => ⟨by rw [hdl_l hk, if_neg (not_not_intro hA), if_neg (not_not_intro hB), if_neg (not_not_intro hC), if_neg (not_not_intro hD), if_neg hno, if_neg hnc]; rfl, h'.below⟩)

end Go.Proofs

namespace Go.Proofs
open Go Go.RowKit Gx
set_option linter.unusedVariables false
set_option linter.unusedSimpArgs false
attribute [local irreducible] Go.Calls Gx.S Gx.O Gx.D Gx.OpP Gx.OpQ Gx.OpH

theorem fn_34 : isFn Try.prog 34 = true := by kernel_rfl
theorem fn_32 : isFn Try.prog 32 = true := by kernel_rfl
theorem fn_60 : isFn Try.prog 60 = true := by kernel_rfl
theorem fn_61 : isFn Try.prog 61 = true := by kernel_rfl
theorem fn_20 : isFn Try.prog 20 = true := by kernel_rfl


theorem hdlEs_len {next : Int} {ks : List Int} {ops : List LOpn} : (hdlEs next ks (plo ops)).length = ops.length := by simp [hdlEs]
theorem filEs_len {next : Int} {L : List LFil} : (filEs next (pls L)).length = L.length := by simp [filEs]
theorem filEs_getl {next : Int} {L : List LFil} {k : Nat} (h : k < L.length) : (filEs next (pls L)).getD k 0 = filE next (pls L) k := filEs_get (by simpa using h)
theorem hdlEs_getl {next : Int} {ks : List Int} {ops : List LOpn} {k : Nat} (h : k < ops.length) : (hdlEs next ks (plo ops)).getD k 0 = hdlE next ks (plo ops) k := hdlEs_get (by simpa using h)
theorem chk_r {next : Int} {L : List LFil} (h1 : 1 ≤ next ∧ next ≤ 2147483647) (h2 : L.length ≤ 32 ∧ cntT (pls L) ≤ 32) : chkT next (pls L) = eachF (filEs next (pls L)) 0 := by
  unfold chkT filEs
  rw [if_pos h1, if_pos (by simpa using h2)]
theorem chk_1 {next : Int} {L : List LFil} (h1 : ¬ (1 ≤ next ∧ next ≤ 2147483647)) : chkT next (pls L) = (0, 2) := by
  unfold chkT
  rw [if_neg h1]
theorem chk_2 {next : Int} {L : List LFil} (h1 : 1 ≤ next ∧ next ≤ 2147483647) (h2 : ¬ (L.length ≤ 32 ∧ cntT (pls L) ≤ 32)) : chkT next (pls L) = (0, 8) := by
  unfold chkT
  rw [if_pos h1, if_neg (by simpa using h2)]
theorem chk_at {next : Int} {L : List LFil} {i : Nat} (h1 : 1 ≤ next ∧ next ≤ 2147483647) (h2 : L.length ≤ 32 ∧ cntT (pls L) ≤ 32) (h3 : eachF (filEs next (pls L)) 0 = eachF ((filEs next (pls L)).drop i) i) (hi : i < L.length) (h4 : ¬ filE next (pls L) i = 0) : chkT next (pls L) = ((i : Int), filE next (pls L) i) := by
  rw [chk_r h1 h2, h3, eachF_drop (by rw [filEs_len]; exact hi), filEs_getl hi, if_neg h4]

set_option maxRecDepth 20000 in
set_option maxHeartbeats 1000000 in
theorem c20 (w : World) (next : Int) (a : Option Addr) (cap : Nat) (L : List LFil) (hs : Ft w [] a L) (hm : L.length ≤ 1000) (hmo : ∀ f ∈ L, f.op.length ≤ 1000) : Calls Try.prog 20 #[.agg #[.int .i64 next, .slice a L.length cap]] w fun en w' => en = .returned (.tuple #[.int .i64 (chkT next (pls L)).1, .int .i64 (chkT next (pls L)).2]) ∧ Below w.heap.size w w' := by
  have hfl := filEs_len (next := next) (L := L)
  refine enter (args := [_]) Try.func20 Try.ntmps20 rfl rfl (HS.refl w []) ?_
  refine s_seq ?_
  refine s_region ?_
  refine o_h (h_box rfl rfl) rfl (fun b1 _ => ?_)
  refine o_p (p_pure rfl) rfl ?_
  refine o_p (p_pure rfl) rfl ?_
  refine o_nil ?_
  refine s_seq ?_
  refine s_seq ?_
  refine s_region ?_
  refine o_p (p_fieldAddr rfl rfl fd_26_0 sz_3 rfl) rfl ?_
  refine o_q (q_load rfl rfl sz_3 aPk rfl) rfl ?_
  refine o_q (q_call rfl fn_16 rfl (fun w1 h1 => c16 w1 _ _ _)) rfl ?_
  refine o_p (p_pure rfl) rfl ?_
  refine o_nil ?_
  refine s_cond rfl (fun h2 => ?_) (fun h2 => ?_)
  · try simp only [decide_eq_true_eq, decide_eq_false_iff_not, Bool.not_eq_true', Bool.not_eq_false', Bool.and_eq_true, Bool.or_eq_true, Bool.and_eq_false_iff, Bool.or_eq_false_iff, Bool.not_true, Bool.not_false] at h2
    have hn : ¬ (1 ≤ next ∧ next ≤ 2147483647) := by have hq := h2; (try simp at hq); omega
    refine s_seq ?_
    refine s_region ?_
    refine o_p (p_pure rfl) rfl ?_
    refine o_p (p_pure rfl) rfl ?_
    refine o_nil ?_
    exact s_retv (rs := [.tmp 2, .tmp 3]) rfl (.tmp rfl (.tmp rfl (.nil))) (fun w' h' => ⟨by rw [chk_1 hn]; rfl, h'.below⟩)
  · try simp only [decide_eq_true_eq, decide_eq_false_iff_not, Bool.not_eq_true', Bool.not_eq_false', Bool.and_eq_true, Bool.or_eq_true, Bool.and_eq_false_iff, Bool.or_eq_false_iff, Bool.not_true, Bool.not_false] at h2
    have hn : 1 ≤ next ∧ next ≤ 2147483647 := by have hq := h2; (try simp at hq); omega
    refine s_skip ?_
    refine s_seq ?_
    refine s_seq ?_
    refine s_region ?_
    refine o_p (p_fieldAddr rfl rfl fd_26_1 sz_24 rfl) rfl ?_
    refine o_q (q_load rfl rfl sz_24 aPk rfl) rfl ?_
    refine o_p (p_len_slice rfl rfl Try.underlying24) rfl ?_
    refine o_p (p_pure rfl) rfl ?_
    refine o_p (p_pure rfl) rfl ?_
    refine o_or 4 17 21 _ _ rfl
      (by
        intro hg3
        have hs4 := hg3; try simp only [decide_eq_true_eq, decide_eq_false_iff_not, Bool.not_eq_true', Bool.not_eq_false', Bool.and_eq_true, Bool.or_eq_true, Bool.and_eq_false_iff, Bool.or_eq_false_iff, Bool.not_true, Bool.not_false] at hs4
        refine o_on 17 _ rfl rfl hg3 ?_
        refine o_q (q_loadn rfl rfl sz_26 aPk rfl) rfl ?_
        refine o_on 17 _ rfl rfl hg3 ?_
        refine o_q (q_call rfl fn_34 rfl (fun w1 h1 => c34 w1 next a cap L (hs.later h1) hm hmo)) rfl ?_
        refine o_on 17 _ rfl rfl hg3 ?_
        refine o_p (p_pure rfl) rfl ?_
        refine o_p (p_pickf rfl rfl hg3 rfl) rfl ?_
        refine o_nil ?_
        exact s_joinN 4 21 _ rfl rfl rfl (fun w h => by first | exact h | exact h.ent aEt))
      (by
        intro hg5
        have hs6 := hg5; try simp only [decide_eq_true_eq, decide_eq_false_iff_not, Bool.not_eq_true', Bool.not_eq_false', Bool.and_eq_true, Bool.or_eq_true, Bool.and_eq_false_iff, Bool.or_eq_false_iff, Bool.not_true, Bool.not_false] at hs6
        refine o_off 17 _ rfl rfl hg5 rfl ?_
        refine o_off 17 _ rfl rfl hg5 rfl ?_
        refine o_off 17 _ rfl rfl hg5 rfl ?_
        refine o_p (p_pickt rfl rfl hg5 rfl) rfl ?_
        refine o_nil ?_
        exact s_joinN 4 21 _ rfl rfl rfl (fun w h => by first | exact h | exact h.ent aEt)) ?_
    refine o_nil ?_
    refine s_cond rfl (fun h7 => ?_) (fun h7 => ?_)
    · try simp only [decide_eq_true_eq, decide_eq_false_iff_not, Bool.not_eq_true', Bool.not_eq_false', Bool.and_eq_true, Bool.or_eq_true, Bool.and_eq_false_iff, Bool.or_eq_false_iff, Bool.not_true, Bool.not_false] at h7
      have hc2 : ¬ (L.length ≤ 32 ∧ cntT (pls L) ≤ 32) := by have hq := h7; (try simp at hq); omega
      refine s_seq ?_
      refine s_region ?_
      refine o_p (p_pure rfl) rfl ?_
      refine o_p (p_pure rfl) rfl ?_
      refine o_nil ?_
      exact s_retv (rs := [.tmp 2, .tmp 3]) rfl (.tmp rfl (.tmp rfl (.nil))) (fun w' h' => ⟨by rw [chk_2 hn hc2]; rfl, h'.below⟩)
    · try simp only [decide_eq_true_eq, decide_eq_false_iff_not, Bool.not_eq_true', Bool.not_eq_false', Bool.and_eq_true, Bool.or_eq_true, Bool.and_eq_false_iff, Bool.or_eq_false_iff, Bool.not_true, Bool.not_false] at h7
      have hc2 : L.length ≤ 32 ∧ cntT (pls L) ≤ 32 := by have hq := h7; (try simp at hq); omega
      refine s_skip ?_
      refine s_seq ?_
      refine s_seq ?_
      refine s_region ?_
      refine o_p (p_pure rfl) rfl ?_
      refine o_nil ?_
      refine s_block ?_
      refine s_weaken (L' := [(1, _), (2, _), (3, _), (4, _)]) aSx (fun _ h => h) ?_
      refine s_loopI (α := Nat) [2, 3, 4, 5, 6, 7, 8, 22, 23, 24, 25, 26, 27, 28, 29, 30, 31, 32, 33, 34, 35, 36, 37, 38, 39, 40, 41, 42, 43, 44, 45, 46, 47, 48, 49, 50, 51, 52, 53, 54, 55, 56, 57, 58, 59, 60, 61, 62, 63, 64, 65, 66, 67, 68, 69, 70, 71, 72, 73, 74, 75, 76] (fun i => [(4, .int .i64 (i : Int))]) (fun _ => HS w [] [.blk b1 26 2 [.int .i64 next, .slice a L.length cap]]) (fun i => i ≤ L.length ∧ eachF (filEs next (pls L)) 0 = eachF ((filEs next (pls L)).drop i) i) (fun i => L.length - i) 0 ⟨Nat.zero_le _, rfl⟩ aSx (fun w h => h.ent aEt) (fun i hy => ?_)
      obtain ⟨hi1, hi2⟩ := hy
      refine s_seq ?_
      refine s_seq ?_
      refine s_region ?_
      refine o_p (p_pure rfl) rfl ?_
      refine o_p (p_fieldAddr rfl rfl fd_26_1 sz_24 rfl) rfl ?_
      refine o_q (q_load rfl rfl sz_24 aPk rfl) rfl ?_
      refine o_p (p_len_slice rfl rfl Try.underlying24) rfl ?_
      refine o_p (p_pure rfl) rfl ?_
      refine o_nil ?_
      refine s_cond rfl (fun h8 => ?_) (fun h8 => ?_)
      · try simp only [decide_eq_true_eq, decide_eq_false_iff_not, Bool.not_eq_true', Bool.not_eq_false', Bool.and_eq_true, Bool.or_eq_true, Bool.and_eq_false_iff, Bool.or_eq_false_iff, Bool.not_true, Bool.not_false] at h8
        have hil : i < L.length := by omega
        have hoi := hmo _ (mem_nth hil)
        refine s_skip ?_
        refine s_seq ?_
        refine s_block ?_
        refine s_seq ?_
        refine s_region ?_
        refine o_p (p_fieldAddr rfl rfl fd_26_1 sz_24 rfl) rfl ?_
        refine o_q (q_load rfl rfl sz_24 aPk rfl) rfl ?_
        refine o_p (p_pure rfl) rfl ?_
        refine o_p (p_indexAddr rfl rfl rfl sl_24 (i) (by omega) (by omega) (Rw.some hs.1 (by omega))) rfl ?_
        refine o_q (q_load_oldn _ rfl rfl sz_77 rfl (Rw.rd hs.1 hil)) rfl ?_
        refine o_h (h_alloc rfl zr_77) rfl (fun b9 _ => ?_)
        refine o_h0 (h_store rfl rfl rfl sz_77 rfl aPt (by simp only [setMany_length, List.length_set, List.length_cons, List.length_nil, List.length_map]; omega) rfl) (fun _ _ => ?_)
        refine o_nil ?_
        refine s_seq ?_
        refine s_seq ?_
        refine s_region ?_
        refine o_p (p_fieldAddr rfl rfl fd_77_0 sz_42 rfl) rfl ?_
        refine o_q (q_loadn rfl rfl sz_42 aPk rfl) rfl ?_
        refine o_q (q_call rfl fn_32 rfl (fun w1 h1 => c32 w1 _ _)) rfl ?_
        refine o_p (p_pure rfl) rfl ?_
        refine o_nil ?_
        refine s_seq ?_
        refine s_region ?_
        refine o_p (p_pure rfl) rfl ?_
        refine o_p (p_pure rfl) rfl ?_
        refine o_nil ?_
        refine s_cond rfl (fun h10 => ?_) (fun h10 => ?_)
        · try simp only [decide_eq_true_eq, decide_eq_false_iff_not, Bool.not_eq_true', Bool.not_eq_false', Bool.and_eq_true, Bool.or_eq_true, Bool.and_eq_false_iff, Bool.or_eq_false_iff, Bool.not_true, Bool.not_false] at h10
          have hA : ¬ refE (nth L i).rc (nth L i).sq = 0 := h10
          refine s_seq ?_
          refine s_region ?_
          refine o_p (p_pure rfl) rfl ?_
          refine o_p (p_pure rfl) rfl ?_
          refine o_p (p_pure rfl) rfl ?_
          refine o_p (p_pure rfl) rfl ?_
          refine o_nil ?_
          exact s_retv (rs := [.tmp 2, .tmp 3]) rfl (.tmp rfl (.tmp rfl (.nil))) (fun w' h' => ⟨by have hfe : filE next (pls L) i = refE (nth L i).rc (nth L i).sq := (by rw [fil_r hil]; rw [if_pos hA]); rw [chk_at hn hc2 hi2 hil (by rw [hfe]; exact hA), hfe]; rfl, h'.below⟩)
        · try simp only [decide_eq_true_eq, decide_eq_false_iff_not, Bool.not_eq_true', Bool.not_eq_false', Bool.and_eq_true, Bool.or_eq_true, Bool.and_eq_false_iff, Bool.or_eq_false_iff, Bool.not_true, Bool.not_false] at h10
          have hA : refE (nth L i).rc (nth L i).sq = 0 := h10
          refine s_skip ?_
          refine s_seq ?_
          refine s_seq ?_
          refine s_weaken (L' := [(1, _), (4, _), (5, _)]) aSx (fun _ h => h) ?_
          refine s_cutI (α := Unit) [41, 42, 43, 44, 45, 46, 47, 48, 49, 50, 51, 52, 53, 54, 55] (fun _ => [(55, .bool (decide (¬ (i = 0 ∨ refLt ((nth L (i - 1)).rc, (nth L (i - 1)).sq) ((nth L i).rc, (nth L i).sq) = true))))]) (fun _ => HS w [] [.blk b1 26 2 [.int .i64 next, .slice a L.length cap], .blk b9 77 4 (nth L i).vals]) (fun _ => True) ?_ ?_
          · skip
            refine s_draw [] mixed ?_
            refine d_p 0 rfl (p_pure rfl) (by kernel_rfl) rfl rfl ?_
            refine d_p 1 rfl (p_pure rfl) (by kernel_rfl) rfl rfl ?_
            refine d_p 2 rfl (p_pure rfl) (by kernel_rfl) rfl rfl ?_
            apply d_split 43
            · exact rfl
            · intro hg11
              have hs12 := hg11; try simp only [decide_eq_true_eq, decide_eq_false_iff_not, Bool.not_eq_true', Bool.not_eq_false', Bool.and_eq_true, Bool.or_eq_true, Bool.and_eq_false_iff, Bool.or_eq_false_iff, Bool.not_true, Bool.not_false] at hs12
              refine d_pon 3 43 rfl rfl rfl hg11 (p_fieldAddr rfl rfl fd_26_1 sz_24 rfl) (by kernel_rfl) rfl rfl ?_
              refine d_qon 4 43 [] rfl rfl rfl hg11 (q_load rfl rfl sz_24 aPk rfl) (by kernel_rfl) (by kernel_rfl) (by kernel_rfl) rfl ?_
              refine d_pon 5 43 rfl rfl rfl hg11 (p_pure rfl) (by kernel_rfl) rfl rfl ?_
              refine d_pon 6 43 rfl rfl rfl hg11 (p_pure rfl) (by kernel_rfl) rfl rfl ?_
              try (refine d_slot (i64w (by omega) (by omega)) ?_)
              refine d_pon 7 43 rfl rfl rfl hg11 (p_indexAddr rfl rfl rfl sl_24 ((i - 1)) (by omega) (by omega) (Rw.some hs.1 (by omega))) (by kernel_rfl) rfl rfl ?_
              refine d_pon 8 43 rfl rfl rfl hg11 (p_fieldAddr rfl rfl fd_77_0 sz_42 rfl) (by kernel_rfl) rfl rfl ?_
              refine d_qon 9 43 [] rfl rfl rfl hg11 (q_load_oldn [.int .i64 (nth L (i - 1)).rc, .int .i64 (nth L (i - 1)).sq] rfl rfl sz_42 rfl (fun j v hv => Rw.rd hs.1 (i := i - 1) (by omega) j v (by rcases j with _ | _ | j <;> first | exact hv | (simp at hv)))) (by kernel_rfl) (by kernel_rfl) (by kernel_rfl) rfl ?_
              refine d_pon 10 43 rfl rfl rfl hg11 (p_fieldAddr rfl rfl fd_77_0 sz_42 rfl) (by kernel_rfl) rfl rfl ?_
              refine d_qon 11 43 [] rfl rfl rfl hg11 (q_loadn rfl rfl sz_42 aPk rfl) (by kernel_rfl) (by kernel_rfl) (by kernel_rfl) rfl ?_
              refine d_qon 12 43 [] rfl rfl rfl hg11 (q_call rfl fn_60 rfl (fun w1 h1 => c60 w1 _ _ _ _)) (by kernel_rfl) (by kernel_rfl) (by kernel_rfl) rfl ?_
              refine d_pon 13 43 rfl rfl rfl hg11 (p_pure rfl) (by kernel_rfl) rfl rfl ?_
              refine d_p 14 rfl (p_pickt rfl rfl hg11 rfl) (by kernel_rfl) rfl rfl ?_
              refine d_nil (by kernel_rfl) (fun w h => h.ent aEt) ?_
              exact s_joinI () trivial (sl_c (congrArg (fun e => some (Value.bool e)) (by have hq := hg11; simp at hq; first | (have h0 : i ≠ 0 := by omega); simp [h0] | (have h0 : i = 0 := by omega); simp [h0])) aSx) (fun w h => h.ent aEt)
            · intro hg13
              have hs14 := hg13; try simp only [decide_eq_true_eq, decide_eq_false_iff_not, Bool.not_eq_true', Bool.not_eq_false', Bool.and_eq_true, Bool.or_eq_true, Bool.and_eq_false_iff, Bool.or_eq_false_iff, Bool.not_true, Bool.not_false] at hs14
              refine d_off 3 43 rfl rfl rfl hg13 (by kernel_rfl) rfl rfl ?_
              refine d_off 4 43 rfl rfl rfl hg13 (by kernel_rfl) rfl rfl ?_
              refine d_off 5 43 rfl rfl rfl hg13 (by kernel_rfl) rfl rfl ?_
              refine d_off 6 43 rfl rfl rfl hg13 (by kernel_rfl) rfl rfl ?_
              refine d_off 7 43 rfl rfl rfl hg13 (by kernel_rfl) rfl rfl ?_
              refine d_off 8 43 rfl rfl rfl hg13 (by kernel_rfl) rfl rfl ?_
              refine d_off 9 43 rfl rfl rfl hg13 (by kernel_rfl) rfl rfl ?_
              refine d_off 10 43 rfl rfl rfl hg13 (by kernel_rfl) rfl rfl ?_
              refine d_off 11 43 rfl rfl rfl hg13 (by kernel_rfl) rfl rfl ?_
              refine d_off 12 43 rfl rfl rfl hg13 (by kernel_rfl) rfl rfl ?_
              refine d_off 13 43 rfl rfl rfl hg13 (by kernel_rfl) rfl rfl ?_
              refine d_p 14 rfl (p_pickf rfl rfl hg13 rfl) (by kernel_rfl) rfl rfl ?_
              refine d_nil (by kernel_rfl) (fun w h => h.ent aEt) ?_
              exact s_joinI () trivial (sl_c (congrArg (fun e => some (Value.bool e)) (by have hq := hg13; simp at hq; first | (have h0 : i ≠ 0 := by omega); simp [h0] | (have h0 : i = 0 := by omega); simp [h0])) aSx) (fun w h => h.ent aEt)
          · intro _ _
            refine s_cond rfl (fun h15 => ?_) (fun h15 => ?_)
            · try simp only [decide_eq_true_eq, decide_eq_false_iff_not, Bool.not_eq_true', Bool.not_eq_false', Bool.and_eq_true, Bool.or_eq_true, Bool.and_eq_false_iff, Bool.or_eq_false_iff, Bool.not_true, Bool.not_false] at h15
              have hB : ¬ (i = 0 ∨ refLt ((nth L (i - 1)).rc, (nth L (i - 1)).sq) ((nth L i).rc, (nth L i).sq) = true) := by have hq := h15; simpa using hq
              refine s_seq ?_
              refine s_region ?_
              refine o_p (p_pure rfl) rfl ?_
              refine o_p (p_pure rfl) rfl ?_
              refine o_p (p_pure rfl) rfl ?_
              refine o_nil ?_
              exact s_retv (rs := [.tmp 2, .tmp 3]) rfl (.tmp rfl (.tmp rfl (.nil))) (fun w' h' => ⟨by have hfe : filE next (pls L) i = 9 := (by rw [fil_r hil]; rw [if_neg (not_not_intro hA), if_pos hB]); rw [chk_at hn hc2 hi2 hil (by rw [hfe]; decide), hfe]; rfl, h'.below⟩)
            · try simp only [decide_eq_true_eq, decide_eq_false_iff_not, Bool.not_eq_true', Bool.not_eq_false', Bool.and_eq_true, Bool.or_eq_true, Bool.and_eq_false_iff, Bool.or_eq_false_iff, Bool.not_true, Bool.not_false] at h15
              have hB : i = 0 ∨ refLt ((nth L (i - 1)).rc, (nth L (i - 1)).sq) ((nth L i).rc, (nth L i).sq) = true := by have hq := h15; (try simp only [Bool.not_eq_true, decide_eq_false_iff_not, Decidable.not_not] at hq); first | exact hq | (by_cases h0 : i = 0 <;> simp_all)
              refine s_skip ?_
              refine s_seq ?_
              refine s_seq ?_
              refine s_region ?_
              refine o_p (p_fieldAddr rfl rfl fd_77_2 sz_75 rfl) rfl ?_
              refine o_q (q_load rfl rfl sz_75 aPk rfl) rfl ?_
              refine o_p (p_len_slice rfl rfl Try.underlying75) rfl ?_
              refine o_p (p_pure rfl) rfl ?_
              refine o_nil ?_
              refine s_cond rfl (fun h16 => ?_) (fun h16 => ?_)
              · try simp only [decide_eq_true_eq, decide_eq_false_iff_not, Bool.not_eq_true', Bool.not_eq_false', Bool.and_eq_true, Bool.or_eq_true, Bool.and_eq_false_iff, Bool.or_eq_false_iff, Bool.not_true, Bool.not_false] at h16
                have hC : (nth L i).op.length = 0 := by have hq := h16; omega
                refine s_seq ?_
                refine s_region ?_
                refine o_p (p_pure rfl) rfl ?_
                refine o_p (p_pure rfl) rfl ?_
                refine o_p (p_pure rfl) rfl ?_
                refine o_nil ?_
                exact s_retv (rs := [.tmp 2, .tmp 3]) rfl (.tmp rfl (.tmp rfl (.nil))) (fun w' h' => ⟨by have hfe : filE next (pls L) i = 17 := (by rw [fil_r hil]; rw [if_neg (not_not_intro hA), if_neg (not_not_intro hB), if_pos hC]); rw [chk_at hn hc2 hi2 hil (by rw [hfe]; decide), hfe]; rfl, h'.below⟩)
              · try simp only [decide_eq_true_eq, decide_eq_false_iff_not, Bool.not_eq_true', Bool.not_eq_false', Bool.and_eq_true, Bool.or_eq_true, Bool.and_eq_false_iff, Bool.or_eq_false_iff, Bool.not_true, Bool.not_false] at h16
                have hC : ¬ (nth L i).op.length = 0 := by have hq := h16; omega
                have hfi : filE next (pls L) i = hdlsE next (hds ((pls L).take i)) (plo (nth L i).op) := by rw [fil_r hil, if_neg (not_not_intro hA), if_neg (not_not_intro hB), if_neg hC]
                refine s_skip ?_
                refine s_seq ?_
                refine s_region ?_
                refine o_p (p_pure rfl) rfl ?_
                refine o_nil ?_
                refine s_block ?_
                refine s_loopI (α := Nat) [2, 3, 7, 8, 62, 63, 64, 65, 66, 67, 68, 69, 70, 71, 72, 73, 74, 75, 76] (fun k => [(7, .int .i64 (k : Int))]) (fun _ => HS w [] [.blk b1 26 2 [.int .i64 next, .slice a L.length cap], .blk b9 77 4 (nth L i).vals]) (fun k => k ≤ (nth L i).op.length ∧ eachF (hdlEs next (hds ((pls L).take i)) (plo (nth L i).op)) 0 = eachF ((hdlEs next (hds ((pls L).take i)) (plo (nth L i).op)).drop k) k ∧ ∀ j, j < k → hdlE next (hds ((pls L).take i)) (plo (nth L i).op) j = 0) (fun k => (nth L i).op.length - k) 0 ⟨Nat.zero_le _, rfl, fun j h => absurd h (Nat.not_lt_zero j)⟩ aSx (fun w h => h.ent aEt) (fun k hy => ?_)
                obtain ⟨hk1, hk2, hk3⟩ := hy
                refine s_seq ?_
                refine s_seq ?_
                refine s_region ?_
                refine o_p (p_pure rfl) rfl ?_
                refine o_p (p_fieldAddr rfl rfl fd_77_2 sz_75 rfl) rfl ?_
                refine o_q (q_load rfl rfl sz_75 aPk rfl) rfl ?_
                refine o_p (p_len_slice rfl rfl Try.underlying75) rfl ?_
                refine o_p (p_pure rfl) rfl ?_
                refine o_nil ?_
                refine s_cond rfl (fun h17 => ?_) (fun h17 => ?_)
                · try simp only [decide_eq_true_eq, decide_eq_false_iff_not, Bool.not_eq_true', Bool.not_eq_false', Bool.and_eq_true, Bool.or_eq_true, Bool.and_eq_false_iff, Bool.or_eq_false_iff, Bool.not_true, Bool.not_false] at h17
                  have hkl : k < (nth L i).op.length := by omega
                  refine s_skip ?_
                  refine s_seq ?_
                  refine s_block ?_
                  refine s_seq ?_
                  refine s_region ?_
                  refine o_q (q_loadn rfl rfl sz_26 aPk rfl) rfl ?_
                  refine o_p (p_pure rfl) rfl ?_
                  refine o_p (p_pure rfl) rfl ?_
                  refine o_q (q_call rfl fn_61 rfl (fun w1 h1 => c61 w1 next a cap L i k (hs.later h1) hm hmo hil hkl hn hk3)) rfl ?_
                  refine o_p (p_pure rfl) rfl ?_
                  refine o_nil ?_
                  refine s_seq ?_
                  refine s_region ?_
                  refine o_p (p_pure rfl) rfl ?_
                  refine o_p (p_pure rfl) rfl ?_
                  refine o_nil ?_
                  refine s_cond rfl (fun h18 => ?_) (fun h18 => ?_)
                  · try simp only [decide_eq_true_eq, decide_eq_false_iff_not, Bool.not_eq_true', Bool.not_eq_false', Bool.and_eq_true, Bool.or_eq_true, Bool.and_eq_false_iff, Bool.or_eq_false_iff, Bool.not_true, Bool.not_false] at h18
                    have hke : ¬ hdlE next (hds ((pls L).take i)) (plo (nth L i).op) k = 0 := h18
                    have hfe : filE next (pls L) i = hdlE next (hds ((pls L).take i)) (plo (nth L i).op) k := by rw [hfi]; show (eachF (hdlEs next (hds ((pls L).take i)) (plo (nth L i).op)) 0).2 = _; rw [hk2, eachF_drop (by rw [hdlEs_len]; exact hkl), hdlEs_getl hkl, if_neg hke]
                    refine s_seq ?_
                    refine s_region ?_
                    refine o_p (p_pure rfl) rfl ?_
                    refine o_p (p_pure rfl) rfl ?_
                    refine o_p (p_pure rfl) rfl ?_
                    refine o_p (p_pure rfl) rfl ?_
                    refine o_nil ?_
                    exact s_retv (rs := [.tmp 2, .tmp 3]) rfl (.tmp rfl (.tmp rfl (.nil))) (fun w' h' => ⟨by rw [chk_at hn hc2 hi2 hil (by rw [hfe]; exact hke), hfe]; rfl, h'.below⟩)
                  · try simp only [decide_eq_true_eq, decide_eq_false_iff_not, Bool.not_eq_true', Bool.not_eq_false', Bool.and_eq_true, Bool.or_eq_true, Bool.and_eq_false_iff, Bool.or_eq_false_iff, Bool.not_true, Bool.not_false] at h18
                    have hkz : hdlE next (hds ((pls L).take i)) (plo (nth L i).op) k = 0 := by have hq := h18; simpa using hq
                    refine s_skip ?_
                    refine s_blk ?_
                    refine s_region ?_
                    refine o_p (p_pure rfl) rfl ?_
                    refine o_p (p_pure rfl) rfl ?_
                    try (refine o_slot (i64w (by omega) (by omega)) ?_)
                    refine o_p (p_pure rfl) rfl ?_
                    refine o_nil ?_
                    exact s_backI (k + 1) (by omega) ⟨by omega, by rw [hk2, eachF_drop (by rw [hdlEs_len]; exact hkl), hdlEs_getl hkl, if_pos hkz], fun j hj => (Nat.lt_or_ge j k).elim (hk3 j) (fun p3 => by have e9 : j = k := (by omega); rw [e9]; exact hkz)⟩ aSx (fun w h => h.ent aEt)
                · try simp only [decide_eq_true_eq, decide_eq_false_iff_not, Bool.not_eq_true', Bool.not_eq_false', Bool.and_eq_true, Bool.or_eq_true, Bool.and_eq_false_iff, Bool.or_eq_false_iff, Bool.not_true, Bool.not_false] at h17
                  have hfz : filE next (pls L) i = 0 := by rw [hfi]; show (eachF (hdlEs next (hds ((pls L).take i)) (plo (nth L i).op)) 0).2 = 0; rw [hk2, eachF_end (by rw [hdlEs_len]; omega)]
                  refine s_exit_to rfl ?_
                  refine s_blk ?_
                  refine s_region ?_
                  refine o_p (p_pure rfl) rfl ?_
                  refine o_p (p_pure rfl) rfl ?_
                  try (refine o_slot (i64w (by omega) (by omega)) ?_)
                  refine o_p (p_pure rfl) rfl ?_
                  refine o_nil ?_
                  exact s_backI (i + 1) (by omega) ⟨by omega, by rw [hi2, eachF_drop (by omega), filEs_getl hil, if_pos hfz]⟩ aSx (fun w h => h.ent aEt)
      · try simp only [decide_eq_true_eq, decide_eq_false_iff_not, Bool.not_eq_true', Bool.not_eq_false', Bool.and_eq_true, Bool.or_eq_true, Bool.and_eq_false_iff, Bool.or_eq_false_iff, Bool.not_true, Bool.not_false] at h8
        refine s_exit_to rfl ?_
        refine s_seq ?_
        refine s_region ?_
        refine o_p (p_pure rfl) rfl ?_
        refine o_p (p_pure rfl) rfl ?_
        refine o_nil ?_
        exact s_retv (rs := [.tmp 2, .tmp 3]) rfl (.tmp rfl (.tmp rfl (.nil))) (fun w' h' => ⟨by rw [chk_r hn hc2, hi2, eachF_end (by omega)]; rfl, h'.below⟩)

set_option maxRecDepth 20000 in
theorem c31 (w : World) (next : Int) (a : Option Addr) (cap : Nat) (L : List LFil) (hs : Ft w [] a L) (hm : L.length ≤ 1000) (hmo : ∀ f ∈ L, f.op.length ≤ 1000) : Calls Try.prog 31 #[.agg #[.int .i64 next, .slice a L.length cap]] w fun en w' => en = .returned (.int .i64 (chkT next (pls L)).2) ∧ Below w.heap.size w w' := by
  refine enter (args := [_]) Try.func31 Try.ntmps31 rfl rfl (HS.refl w []) ?_
  refine s_seq ?_
  refine s_region ?_
  refine o_h (h_box rfl rfl) rfl (fun b1 _ => ?_)
  refine o_p (p_pure rfl) rfl ?_
  refine o_nil ?_
  refine s_seq ?_
  refine s_region ?_
  refine o_q (q_loadn rfl rfl sz_26 aPk rfl) rfl ?_
  refine o_q (q_call rfl fn_20 rfl (fun w1 h1 => c20 w1 next a cap L (hs.later h1) hm hmo)) rfl ?_
  refine o_p (p_pure rfl) rfl ?_
  refine o_p (p_pure rfl) rfl ?_
  refine o_p (p_pure rfl) rfl ?_
  refine o_p (p_pure rfl) rfl ?_
  refine o_p (p_pure rfl) rfl ?_
  refine o_nil ?_
  refine s_seq ?_
  refine s_region ?_
  refine o_p (p_pure rfl) rfl ?_
  refine o_p (p_pure rfl) rfl ?_
  refine o_nil ?_
  exact s_retv (rs := [.tmp 2]) rfl (.tmp rfl (.nil)) (fun w' h' => ⟨rfl, h'.below⟩)

end Go.Proofs

namespace Go.Proofs
open Go Go.RowKit Gx
set_option linter.unusedVariables false
set_option linter.unusedSimpArgs false
attribute [local irreducible] Go.Calls Gx.S Gx.O Gx.D Gx.OpP Gx.OpQ Gx.OpH

theorem fn_31 : isFn Try.prog 31 = true := by kernel_rfl
theorem fn_70 : isFn Try.prog 70 = true := by kernel_rfl
theorem fn_33 : isFn Try.prog 33 = true := by kernel_rfl


def hErr (next : Int) (L : List Fil) (h : Int) : Int := if (chkT next L).2 = 0 then (findF L h 0).2.2 else (chkT next L).2
def fErr (next : Int) (L : List Fil) (rc sq : Int) : Int := if (chkT next L).2 = 0 then if refE rc sq = 0 then if ixI (atB L rc sq) < 0 then 6 else 0 else refE rc sq else (chkT next L).2
theorem fdI_neg {L : List Fil} {h : Int} (hn : (fdI L h).1 < 0) : (findF L h 0).2.2 = 6 := by
  unfold fdI at hn
  split at hn
  · exact absurd hn (by show ¬ ((findF L h 0).1 : Int) < 0; omega)
  · rename_i h1
    rcases findF_err (L := L) (j := 0) (h := h) with h2 | h2
    · exact absurd h2 h1
    · rw [h2]
theorem fdI_pos {L : List Fil} {h : Int} (hn : ¬ (fdI L h).1 < 0) : (findF L h 0).2.2 = 0 := by
  unfold fdI at hn
  split at hn
  · assumption
  · exact absurd (show ((-1 : Int) < 0) by decide) hn
section
variable {w0 w : World} {M : List Nat} {As As' : List HA} {a : Option Addr} {cap : Nat}
theorem HS.files_more {l : List LFil} {f : LFil} {n : Nat} {xs : List Value} (h : HS w0 M (.own (.slice a n cap) 77 4 n xs :: .star (l.map subF) :: subF f :: As) w) (hn : n = (l ++ [f]).length) (hx : xs = (l ++ [f]).flatMap LFil.vals) : HS w0 M (.files a cap (l ++ [f]) :: As) w := by
  have h1 : HS w0 M (subF f :: .star (l.map subF) :: .own (.slice a n cap) 77 4 n xs :: As) w := h.perm ((List.Perm.swap ..).trans ((List.Perm.cons _ (List.Perm.swap ..)).trans (List.Perm.swap ..)))
  exact HS.row_shut (h1.sub_app.perm (List.Perm.swap ..)) hn hx
end
theorem app_len1 {α : Type} {l : List α} {x : α} : (l ++ [x]).length = l.length + 1 := by simp
theorem app_flat1 {α : Type} {vals : α → List Value} {l : List α} {x : α} : (l ++ [x]).flatMap vals = l.flatMap vals ++ vals x := by simp
theorem pls_app1 {l : List LFil} {x : LFil} : pls (l ++ [x]) = pls l ++ [x.pl] := by simp [pls]
theorem plo_app1 {l : List LOpn} {x : LOpn} : plo (l ++ [x]) = plo l ++ [x.pl] := by simp [plo]

set_option maxRecDepth 20000 in
theorem c68 (w : World) (next : Int) (a : Option Addr) (cap : Nat) (L : List LFil) (h : Int) (hs : Ft w [] a L) (hm : L.length ≤ 1000) (hmo : ∀ f ∈ L, f.op.length ≤ 1000) : Calls Try.prog 68 #[.agg #[.int .i64 next, .slice a L.length cap], .int .i64 h] w fun en w' => en = .returned (.int .i64 (hErr next (pls L) h)) ∧ Below w.heap.size w w' := by
  refine enter (args := [_, _]) Try.func68 Try.ntmps68 rfl rfl (HS.refl w []) ?_
  refine s_seq ?_
  refine s_region ?_
  refine o_h (h_box rfl rfl) rfl (fun b1 _ => ?_)
  refine o_p (p_pure rfl) rfl ?_
  refine o_nil ?_
  refine s_seq ?_
  refine s_seq ?_
  refine s_region ?_
  refine o_q (q_loadn rfl rfl sz_26 aPk rfl) rfl ?_
  refine o_q (q_call rfl fn_31 rfl (fun w1 h1 => c31 w1 next a cap L (hs.later h1) hm hmo)) rfl ?_
  refine o_p (p_pure rfl) rfl ?_
  refine o_nil ?_
  refine s_seq ?_
  refine s_region ?_
  refine o_p (p_pure rfl) rfl ?_
  refine o_p (p_pure rfl) rfl ?_
  refine o_nil ?_
  refine s_cond rfl (fun h2 => ?_) (fun h2 => ?_)
  · try simp only [decide_eq_true_eq, decide_eq_false_iff_not, Bool.not_eq_true', Bool.not_eq_false', Bool.and_eq_true, Bool.or_eq_true, Bool.and_eq_false_iff, Bool.or_eq_false_iff, Bool.not_true, Bool.not_false] at h2
    have h0 : ¬ (chkT next (pls L)).2 = 0 := h2
    refine s_seq ?_
    refine s_region ?_
    refine o_p (p_pure rfl) rfl ?_
    refine o_p (p_pure rfl) rfl ?_
    refine o_nil ?_
    exact s_retv (rs := [.tmp 4]) rfl (.tmp rfl (.nil)) (fun w' h' => ⟨by rw [hErr, if_neg h0]; rfl, h'.below⟩)
  · try simp only [decide_eq_true_eq, decide_eq_false_iff_not, Bool.not_eq_true', Bool.not_eq_false', Bool.and_eq_true, Bool.or_eq_true, Bool.and_eq_false_iff, Bool.or_eq_false_iff, Bool.not_true, Bool.not_false] at h2
    have h0 : (chkT next (pls L)).2 = 0 := h2
    refine s_skip ?_
    refine s_seq ?_
    refine s_seq ?_
    refine s_region ?_
    refine o_q (q_loadn rfl rfl sz_26 aPk rfl) rfl ?_
    refine o_p (p_pure rfl) rfl ?_
    refine o_q (q_call rfl fn_70 rfl (fun w1 h1 => c70 w1 next a cap L h (hs.later h1) hm hmo)) rfl ?_
    refine o_p (p_pure rfl) rfl ?_
    refine o_p (p_pure rfl) rfl ?_
    refine o_p (p_pure rfl) rfl ?_
    refine o_p (p_pure rfl) rfl ?_
    refine o_p (p_pure rfl) rfl ?_
    refine o_nil ?_
    refine s_seq ?_
    refine s_region ?_
    refine o_p (p_pure rfl) rfl ?_
    refine o_p (p_pure rfl) rfl ?_
    refine o_nil ?_
    refine s_cond rfl (fun h3 => ?_) (fun h3 => ?_)
    · try simp only [decide_eq_true_eq, decide_eq_false_iff_not, Bool.not_eq_true', Bool.not_eq_false', Bool.and_eq_true, Bool.or_eq_true, Bool.and_eq_false_iff, Bool.or_eq_false_iff, Bool.not_true, Bool.not_false] at h3
      refine s_seq ?_
      refine s_region ?_
      refine o_p (p_pure rfl) rfl ?_
      refine o_nil ?_
      exact s_retv (rs := [.tmp 4]) rfl (.tmp rfl (.nil)) (fun w' h' => ⟨by rw [hErr, if_pos h0, fdI_neg h3]; rfl, h'.below⟩)
    · try simp only [decide_eq_true_eq, decide_eq_false_iff_not, Bool.not_eq_true', Bool.not_eq_false', Bool.and_eq_true, Bool.or_eq_true, Bool.and_eq_false_iff, Bool.or_eq_false_iff, Bool.not_true, Bool.not_false] at h3
      refine s_skip ?_
      refine s_seq ?_
      refine s_region ?_
      refine o_p (p_pure rfl) rfl ?_
      refine o_nil ?_
      exact s_retv (rs := [.tmp 4]) rfl (.tmp rfl (.nil)) (fun w' h' => ⟨by rw [hErr, if_pos h0, fdI_pos h3]; rfl, h'.below⟩)

set_option maxRecDepth 20000 in
set_option maxHeartbeats 1000000 in
theorem c19 (w : World) (next : Int) (a : Option Addr) (cap : Nat) (L : List LFil) (hs : Ft w [] a L) (hm : L.length ≤ 1000) (hmo : ∀ f ∈ L, f.op.length ≤ 1000) (hml : ∀ f ∈ L, ∀ o ∈ f.op, o.lk.length ≤ 1000) : Calls Try.prog 19 #[.agg #[.int .i64 next, .slice a L.length cap]] w fun en w' => ∃ g : (Option Addr × Nat) × List LFil, en = .returned (.agg #[.int .i64 next, .slice g.1.1 g.2.length g.1.2]) ∧ pls g.2 = pls L ∧ HS w [] [.files g.1.1 g.1.2 g.2] w' := by
  have hpl : (pls L).length = L.length := by simp
  refine enter (args := [_]) Try.func19 Try.ntmps19 rfl rfl (HS.refl w []) ?_
  refine s_seq ?_
  refine s_region ?_
  refine o_h (h_box rfl rfl) rfl (fun b1 _ => ?_)
  refine o_h (h_alloc rfl zr_26) rfl (fun b2 _ => ?_)
  refine o_nil ?_
  refine s_seq ?_
  refine s_region ?_
  refine o_p (p_fieldAddr rfl rfl fd_26_0 sz_3 rfl) rfl ?_
  refine o_q (q_load rfl rfl sz_3 aPk rfl) rfl ?_
  refine o_p (p_build (cs := [_, _]) rfl rfl pl_26 zr_26 rfl) rfl ?_
  refine o_h (h_alloc rfl zr_26) rfl (fun b3 _ => ?_)
  refine o_h0 (h_store rfl rfl rfl sz_26 rfl aPt (by simp only [setMany_length, List.length_set, List.length_cons, List.length_nil, List.length_map]; omega) rfl) (fun _ _ => ?_)
  refine o_nil ?_
  refine s_seq ?_
  refine s_seq ?_
  refine s_region ?_
  refine o_p (p_pure rfl) rfl ?_
  refine o_nil ?_
  refine s_block ?_
  refine s_loopI (α := Nat × (Option Addr × Nat) × List LFil) [4, 5, 6, 7, 11, 12, 13, 14, 15, 16, 17, 18, 19, 20, 21, 22, 23, 24, 25, 26, 27, 28, 29, 30, 31, 32, 33, 34, 35, 36, 37, 38, 39, 40, 41, 42, 43, 44, 45, 46, 47, 48, 49, 50, 51, 52, 53, 54, 55, 56, 57, 58, 59, 60, 61, 62, 63, 64, 65, 66, 67] (fun y => [(4, .int .i64 (y.1 : Int))]) (fun y => HS w [] [.blk b3 26 2 [.int .i64 next, .slice y.2.1.1 y.2.2.length y.2.1.2], .files y.2.1.1 y.2.1.2 y.2.2, .blk b1 26 2 [.int .i64 next, .slice a L.length cap], .blk b2 26 2 [.int .i64 0, .slice none 0 0]]) (fun y => y.1 ≤ L.length ∧ pls y.2.2 = (pls L).take y.1) (fun y => L.length - y.1) (0, (none, 0), []) ⟨Nat.zero_le _, rfl⟩ aSx (fun w h => (HS.files_none h).ent aEt) (fun ⟨i, x, M⟩ hy => ?_)
  dsimp only at hy ⊢
  obtain ⟨hi1, hi2⟩ := hy
  refine s_seq ?_
  refine s_seq ?_
  refine s_region ?_
  refine o_p (p_pure rfl) rfl ?_
  refine o_p (p_fieldAddr rfl rfl fd_26_1 sz_24 rfl) rfl ?_
  refine o_q (q_load rfl rfl sz_24 aPk rfl) rfl ?_
  refine o_p (p_len_slice rfl rfl Try.underlying24) rfl ?_
  refine o_p (p_pure rfl) rfl ?_
  refine o_nil ?_
  refine s_cond rfl (fun h4 => ?_) (fun h4 => ?_)
  · try simp only [decide_eq_true_eq, decide_eq_false_iff_not, Bool.not_eq_true', Bool.not_eq_false', Bool.and_eq_true, Bool.or_eq_true, Bool.and_eq_false_iff, Bool.or_eq_false_iff, Bool.not_true, Bool.not_false] at h4
    have hil : i < L.length := by omega
    have hoi := hmo _ (mem_nth hil)
    have hMl : M.length = i := by have h9 := congrArg List.length hi2; simp at h9; omega
    refine s_skip ?_
    refine s_seq ?_
    refine s_block ?_
    refine s_seq ?_
    refine s_draw [14] mixed ?_
    refine d_p 0 rfl (p_fieldAddr rfl rfl fd_26_1 sz_24 rfl) (by kernel_rfl) rfl rfl ?_
    refine d_q 1 [[]] rfl (q_load rfl rfl sz_24 aPk rfl) (by kernel_rfl) (by kernel_rfl) (by kernel_rfl) rfl ?_
    refine d_p 2 rfl (p_pure rfl) (by kernel_rfl) rfl rfl ?_
    refine d_p 3 rfl (p_indexAddr rfl rfl rfl sl_24 (i) (by omega) (by omega) (Rw.some hs.1 (by omega))) (by kernel_rfl) rfl rfl ?_
    refine d_p 4 rfl (p_fieldAddr rfl rfl fd_77_0 sz_42 rfl) (by kernel_rfl) rfl rfl ?_
    refine d_q 5 [[]] rfl (q_load_oldn [.int .i64 (nth L i).rc, .int .i64 (nth L i).sq] rfl rfl sz_42 rfl (fun j v hv => Rw.rd hs.1 (i := i) hil j v (by rcases j with _ | _ | j <;> first | exact hv | (simp at hv)))) (by kernel_rfl) (by kernel_rfl) (by kernel_rfl) rfl ?_
    refine d_p 6 rfl (p_fieldAddr rfl rfl fd_26_1 sz_24 rfl) (by kernel_rfl) rfl rfl ?_
    refine d_q 7 [[]] rfl (q_load rfl rfl sz_24 aPk rfl) (by kernel_rfl) (by kernel_rfl) (by kernel_rfl) rfl ?_
    refine d_p 8 rfl (p_pure rfl) (by kernel_rfl) rfl rfl ?_
    refine d_p 9 rfl (p_indexAddr rfl rfl rfl sl_24 (i) (by omega) (by omega) (Rw.some hs.1 (by omega))) (by kernel_rfl) rfl rfl ?_
    refine d_p 10 rfl (p_fieldAddr rfl rfl fd_77_1 sz_4 rfl) (by kernel_rfl) rfl rfl ?_
    refine d_q 11 [[]] rfl (q_load_old rfl rfl sz_4 ((hs.1.rdj 2 hil rfl))) (by kernel_rfl) (by kernel_rfl) (by kernel_rfl) rfl ?_
    refine d_p 12 rfl (p_build (cs := [_, _, _, _]) rfl rfl pl_77 zr_77 rfl) (by kernel_rfl) rfl rfl ?_
    refine d_h 13 rfl (h_alloc rfl zr_77) (by kernel_rfl) (fun w h => h.ent aEt) rfl (fun b5 _ => ?_)
    refine d_base (fun w h => h.ent aEt) ?_
    refine d_h0 14 rfl (h_store rfl rfl rfl sz_77 rfl aPt (by simp only [setMany_length, List.length_set, List.length_cons, List.length_nil, List.length_map]; omega) rfl) (by kernel_rfl) (fun w h => h.ent aEt) (fun _ _ => ?_)
    refine d_turn [] (by kernel_rfl) ?_
    refine d_nil (by kernel_rfl) (fun w h => h.ent aEt) ?_
    refine s_seq ?_
    refine s_seq ?_
    refine s_region ?_
    refine o_p (p_pure rfl) rfl ?_
    refine o_nil ?_
    refine s_block ?_
    refine s_weaken (L' := [(0, _), (1, _), (2, _), (3, _), (4, _), (5, _), (6, _), (8, _), (9, _), (10, _)]) aSx (fun _ h => h) ?_
    refine s_loopI (α := Nat × (Option Addr × Nat) × List LOpn) [6, 7, 31, 32, 33, 34, 35, 36, 37, 38, 39, 40, 41, 42, 43, 44, 45, 46, 47, 48, 49, 50, 51, 52, 53, 54, 55, 56, 57, 58, 59, 60, 61] (fun z => [(6, .int .i64 (z.1 : Int))]) (fun z => HS w [] [.blk b5 77 4 [.int .i64 (nth L i).rc, .int .i64 (nth L i).sq, .bool (nth L i).pd, .slice z.2.1.1 z.2.2.length z.2.1.2], .opens z.2.1.1 z.2.1.2 z.2.2, .blk b3 26 2 [.int .i64 next, .slice x.1 M.length x.2], .files x.1 x.2 M, .blk b1 26 2 [.int .i64 next, .slice a L.length cap], .blk b2 26 2 [.int .i64 0, .slice none 0 0]]) (fun z => z.1 ≤ (nth L i).op.length ∧ plo z.2.2 = (plo (nth L i).op).take z.1) (fun z => (nth L i).op.length - z.1) (0, (none, 0), []) ⟨Nat.zero_le _, rfl⟩ aSx (fun w h => (HS.opens_none h).ent aEt) (fun ⟨k, o, N⟩ hz => ?_)
    dsimp only at hz ⊢
    obtain ⟨hk1, hk2⟩ := hz
    refine s_seq ?_
    refine s_seq ?_
    refine s_region ?_
    refine o_p (p_pure rfl) rfl ?_
    refine o_p (p_fieldAddr rfl rfl fd_26_1 sz_24 rfl) rfl ?_
    refine o_q (q_load rfl rfl sz_24 aPk rfl) rfl ?_
    refine o_p (p_pure rfl) rfl ?_
    refine o_p (p_indexAddr rfl rfl rfl sl_24 (i) (by omega) (by omega) (Rw.some hs.1 (by omega))) rfl ?_
    refine o_p (p_fieldAddr rfl rfl fd_77_2 sz_75 rfl) rfl ?_
    refine o_q (q_load_old rfl rfl sz_75 ((hs.1.rdj 3 hil rfl))) rfl ?_
    refine o_p (p_len_slice rfl rfl Try.underlying75) rfl ?_
    refine o_p (p_pure rfl) rfl ?_
    refine o_nil ?_
    refine s_cond rfl (fun h6 => ?_) (fun h6 => ?_)
    · try simp only [decide_eq_true_eq, decide_eq_false_iff_not, Bool.not_eq_true', Bool.not_eq_false', Bool.and_eq_true, Bool.or_eq_true, Bool.and_eq_false_iff, Bool.or_eq_false_iff, Bool.not_true, Bool.not_false] at h6
      have hkl : k < (nth L i).op.length := by omega
      have hki := hml _ (mem_nth hil) _ (mem_nth hkl)
      have hNl : N.length = k := by have h9 := congrArg List.length hk2; simp at h9; omega
      refine s_skip ?_
      refine s_seq ?_
      refine s_block ?_
      refine s_seq ?_
      refine s_region ?_
      refine o_p (p_fieldAddr rfl rfl fd_26_1 sz_24 rfl) rfl ?_
      refine o_q (q_load rfl rfl sz_24 aPk rfl) rfl ?_
      refine o_p (p_pure rfl) rfl ?_
      refine o_p (p_indexAddr rfl rfl rfl sl_24 (i) (by omega) (by omega) (Rw.some hs.1 (by omega))) rfl ?_
      refine o_p (p_fieldAddr rfl rfl fd_77_2 sz_75 rfl) rfl ?_
      refine o_q (q_load_old rfl rfl sz_75 ((hs.1.rdj 3 hil rfl))) rfl ?_
      refine o_p (p_pure rfl) rfl ?_
      refine o_p (p_indexAddr rfl rfl rfl sl_75 (k) (by omega) (by omega) (Rw.some (hs.at hil).1 (by omega))) rfl ?_
      refine o_q (q_load_oldn _ rfl rfl sz_48 rfl (Rw.rd (hs.at hil).1 hkl)) rfl ?_
      refine o_h (h_alloc rfl zr_48) rfl (fun b7 _ => ?_)
      refine o_h0 (h_store rfl rfl rfl sz_48 rfl aPt (by simp only [setMany_length, List.length_set, List.length_cons, List.length_nil, List.length_map]; omega) rfl) (fun _ _ => ?_)
      refine o_nil ?_
      refine s_seq ?_
      refine s_region ?_
      refine o_h (h_buildSlice0 rfl sl_46) rfl (fun b8 _ => ?_)
      refine o_p (p_fieldAddr rfl rfl fd_48_4 sz_46 rfl) rfl ?_
      refine o_q (q_load rfl rfl sz_46 aPk rfl) rfl ?_
      refine o_h (h_appendS (n := 0) ((nth (nth L i).op k).lk.flatMap Lock.vals) rfl rfl rfl sl_46 Try.underlying46 zr_62 rfl aPk (fun w h => Rw.src lv3 ((hs.at hil).at hkl) h) (flat_length lv3 _) (flat_one lv1 _) (by omega) (by simp only [maxLen]; omega)) rfl (fun b9 _ => ?_)
      simp only [Nat.zero_add, List.nil_append]
      refine o_p (p_fieldAddr rfl rfl fd_48_4 sz_46 rfl) rfl ?_
      refine o_h0 (h_store rfl rfl rfl sz_46 rfl aPt (by simp only [setMany_length, List.length_set, List.length_cons, List.length_nil, List.length_map]; omega) rfl) (fun _ _ => ?_)
      refine o_nil ?_
      refine s_weaken (L' := [(0, _), (1, _), (2, _), (3, _), (4, _), (5, _), (6, _), (7, _), (8, _), (9, _), (10, _)]) aSx (fun _ h => h) ?_
      refine s_region ?_
      refine o_p (p_fieldAddr rfl rfl fd_77_2 sz_75 rfl) rfl ?_
      refine o_q (q_load rfl rfl sz_75 aPk rfl) rfl ?_
      refine o_class (fun w h => HS.opens_split (a := o.1) (cap := o.2) (l := N) h aPk) ?_
      refine o_q (q_loadn rfl rfl sz_48 aPk rfl) rfl ?_
      refine o_h (h_buildSlice (cs := [_, _, _, _, _]) rfl rfl sl_75 zr_48 rfl rfl rfl) rfl (fun b10 _ => ?_)
      refine o_h (h_appendS (n := N.length) ({ (nth (nth L i).op k) with la := b9.1, lc := b9.2 } : LOpn).vals rfl rfl rfl sl_75 Try.underlying75 zr_48 rfl aPk (src_blk aPk) rfl (ov1 ({ (nth (nth L i).op k) with la := b9.1, lc := b9.2 } : LOpn)) (by omega) (by simp only [maxLen]; omega)) rfl (fun b11 _ => ?_)
      refine o_p (p_fieldAddr rfl rfl fd_77_2 sz_75 rfl) rfl ?_
      refine o_h0 (h_store rfl rfl rfl sz_75 rfl aPt (by simp only [setMany_length, List.length_set, List.length_cons, List.length_nil, List.length_map]; omega) rfl) (fun _ _ => ?_)
      refine o_nil ?_
      refine s_blk ?_
      refine s_region ?_
      refine o_p (p_pure rfl) rfl ?_
      refine o_p (p_pure rfl) rfl ?_
      try (refine o_slot (i64w (by omega) (by omega)) ?_)
      refine o_p (p_pure rfl) rfl ?_
      refine o_nil ?_
      exact s_backI (k + 1, b11, N ++ [({ (nth (nth L i).op k) with la := b9.1, lc := b9.2 } : LOpn)]) (by show (nth L i).op.length - (k + 1) < (nth L i).op.length - k; omega) ⟨by show k + 1 ≤ (nth L i).op.length; omega, by show plo (N ++ [({ (nth (nth L i).op k) with la := b9.1, lc := b9.2 } : LOpn)]) = (plo (nth L i).op).take (k + 1); rw [plo_app1, hk2, take_succ_nth (by simpa using hkl), nth_plo hkl]; rfl⟩ aSx (fun w h => by have h2 := HS.opens_more (o := ({ (nth (nth L i).op k) with la := b9.1, lc := b9.2 } : LOpn)) (l := N) (h.ent (Bs := [.own (.slice b11.1 (N.length + 1) b11.2) 48 5 (N.length + 1) _, .star (N.map subO), subO ({ (nth (nth L i).op k) with la := b9.1, lc := b9.2 } : LOpn), .blk b5 77 4 [.int .i64 (nth L i).rc, .int .i64 (nth L i).sq, .bool (nth L i).pd, .slice b11.1 (N.length + 1) b11.2], .blk b3 26 2 [.int .i64 next, .slice x.1 M.length x.2], .files x.1 x.2 M, .blk b1 26 2 [.int .i64 next, .slice a L.length cap], .blk b2 26 2 [.int .i64 0, .slice none 0 0]]) aEt) app_len1.symm app_flat1.symm; dsimp only; rw [app_len1]; exact h2.ent aEt)
    · try simp only [decide_eq_true_eq, decide_eq_false_iff_not, Bool.not_eq_true', Bool.not_eq_false', Bool.and_eq_true, Bool.or_eq_true, Bool.and_eq_false_iff, Bool.or_eq_false_iff, Bool.not_true, Bool.not_false] at h6
      refine s_exit_to rfl ?_
      refine s_region ?_
      refine o_p (p_fieldAddr rfl rfl fd_26_1 sz_24 rfl) rfl ?_
      refine o_q (q_load rfl rfl sz_24 aPk rfl) rfl ?_
      refine o_class (fun w h => HS.files_open (a := x.1) (cap := x.2) (l := M) h aPk) ?_
      refine o_q (q_loadn rfl rfl sz_77 aPk rfl) rfl ?_
      refine o_h (h_buildSlice (cs := [_, _, _, _]) rfl rfl sl_24 zr_77 rfl rfl rfl) rfl (fun b12 _ => ?_)
      refine o_h (h_appendS (n := M.length) ({ nth L i with oa := o.1, oc := o.2, op := N } : LFil).vals rfl rfl rfl sl_24 Try.underlying24 zr_77 rfl aPk (src_blk aPk) rfl (fv1 ({ nth L i with oa := o.1, oc := o.2, op := N } : LFil)) (by omega) (by simp only [maxLen]; omega)) rfl (fun b13 _ => ?_)
      refine o_p (p_fieldAddr rfl rfl fd_26_1 sz_24 rfl) rfl ?_
      refine o_h0 (h_store rfl rfl rfl sz_24 rfl aPt (by simp only [setMany_length, List.length_set, List.length_cons, List.length_nil, List.length_map]; omega) rfl) (fun _ _ => ?_)
      refine o_nil ?_
      refine s_blk ?_
      refine s_region ?_
      refine o_p (p_pure rfl) rfl ?_
      refine o_p (p_pure rfl) rfl ?_
      try (refine o_slot (i64w (by omega) (by omega)) ?_)
      refine o_p (p_pure rfl) rfl ?_
      refine o_nil ?_
      exact s_backI (i + 1, b13, M ++ [({ nth L i with oa := o.1, oc := o.2, op := N } : LFil)]) (by show L.length - (i + 1) < L.length - i; omega) ⟨by show i + 1 ≤ L.length; omega, by show pls (M ++ [({ nth L i with oa := o.1, oc := o.2, op := N } : LFil)]) = (pls L).take (i + 1); rw [pls_app1, hi2, take_succ_nth (by omega), nth_pls hil]; have e8 : k = (nth L i).op.length := (by omega); rw [e8, List.take_of_length_le (by simp)] at hk2; simp only [LFil.pl]; rw [show List.map LOpn.pl N = List.map LOpn.pl (nth L i).op from hk2]⟩ aSx (fun w h => by have h2 := HS.files_more (f := ({ nth L i with oa := o.1, oc := o.2, op := N } : LFil)) (l := M) (h.ent (Bs := [.own (.slice b13.1 (M.length + 1) b13.2) 77 4 (M.length + 1) _, .star (M.map subF), subF ({ nth L i with oa := o.1, oc := o.2, op := N } : LFil), .blk b3 26 2 [.int .i64 next, .slice b13.1 (M.length + 1) b13.2], .blk b1 26 2 [.int .i64 next, .slice a L.length cap], .blk b2 26 2 [.int .i64 0, .slice none 0 0]]) aEt) app_len1.symm app_flat1.symm; dsimp only; rw [app_len1]; exact h2.ent aEt)
  · try simp only [decide_eq_true_eq, decide_eq_false_iff_not, Bool.not_eq_true', Bool.not_eq_false', Bool.and_eq_true, Bool.or_eq_true, Bool.and_eq_false_iff, Bool.or_eq_false_iff, Bool.not_true, Bool.not_false] at h4
    refine s_exit_to rfl ?_
    refine s_seq ?_
    refine s_region ?_
    refine o_q (q_loadn rfl rfl sz_26 aPk rfl) rfl ?_
    refine o_h0 (h_store rfl rfl rfl sz_26 rfl aPt (by simp only [setMany_length, List.length_set, List.length_cons, List.length_nil, List.length_map]; omega) rfl) (fun _ _ => ?_)
    refine o_nil ?_
    exact s_retv (rs := [.cell 2 26]) rfl (.cell rfl sz_26 aPk rfl (.nil)) (fun w' h' => ⟨(x, M), rfl, by show pls M = pls L; rw [hi2, List.take_of_length_le (by omega)], h'.ent aEt⟩)

end Go.Proofs

/- Chapter 25, plain: the check accepts exactly the valid tables. -/
namespace Go.Proofs
open Go Go.RowKit Gx
set_option linter.unusedVariables false
set_option linter.unusedSimpArgs false

theorem lksE_iff {l : List Lock} : lksE l = 0 ↔ l.length ≤ 16 ∧ okL l := by
  constructor
  · exact lksE_0
  · rintro ⟨h1, h2⟩
    rw [lksE, if_neg (by omega)]
    unfold rngsE
    rw [eachF_0]
    intro e he
    obtain ⟨k, hk, rfl⟩ := List.mem_map.1 he
    exact h2 k hk
theorem lockedE_iff : ∀ {ks held : List Lock}, lockedE held ks = 0 ↔ (∀ h ∈ held, ∀ k ∈ ks, clsh h k = false) ∧ ks.Pairwise fun a b => clsh a b = false
  | [], held => by simp [lockedE]
  | k :: ks, held => by
    rw [lockedE]
    split
    · rename_i h
      constructor
      · intro h9; exact absurd h9 (by decide)
      · rintro ⟨h1, _⟩
        obtain ⟨x, hx, e⟩ := List.any_eq_true.1 h
        rw [h1 x hx k List.mem_cons_self] at e
        cases e
    · rename_i h
      rw [Bool.not_eq_true, List.any_eq_false] at h
      rw [lockedE_iff, List.pairwise_cons]
      constructor
      · rintro ⟨h1, h2⟩
        refine ⟨fun x hx y hy => ?_, fun y hy => h1 k (by simp) y hy, h2⟩
        rcases List.mem_cons.1 hy with rfl | hy
        · simpa using h x hx
        · exact h1 x (List.mem_append_left _ hx) y hy
      · rintro ⟨h1, h2, h3⟩
        refine ⟨fun x hx y hy => ?_, h3⟩
        rcases List.mem_append.1 hx with hx | hx
        · exact h1 x hx y (List.mem_cons_of_mem _ hy)
        · rw [List.mem_singleton.1 hx]; exact h2 y hy
theorem hdl_iff {next : Int} {known : List Int} {ops : List Opn} {k : Nat} : hdlE next known ops k = 0 ↔ (1 ≤ (nth ops k).hd ∧ (nth ops k).hd ≤ next - 1) ∧ openE (nth ops k).ac (nth ops k).sh = 0 ∧ (k = 0 ∨ (nth ops (k - 1)).hd < (nth ops k).hd) ∧ lksE (nth ops k).lk = 0 ∧ (nth ops k).hd ∉ known ∧ (ops.take k).any (cfl (nth ops k)) = false ∧ lockedE ((ops.take k).flatMap Opn.lk) (nth ops k).lk = 0 := by
  rw [hdl_r]
  grind
theorem fil_iff {next : Int} {L : List Fil} {i : Nat} : filE next L i = 0 ↔ refE (nth L i).rc (nth L i).sq = 0 ∧ (i = 0 ∨ refLt ((nth L (i - 1)).rc, (nth L (i - 1)).sq) ((nth L i).rc, (nth L i).sq) = true) ∧ 0 < (nth L i).op.length ∧ ∀ k, k < (nth L i).op.length → hdlE next (hds (L.take i)) (nth L i).op k = 0 := by
  have e : hdlsE next (hds (L.take i)) (nth L i).op = 0 ↔ ∀ k, k < (nth L i).op.length → hdlE next (hds (L.take i)) (nth L i).op k = 0 := by
    unfold hdlsE
    rw [eachF_0]
    simp
  rw [← e]
  unfold filE
  simp only []
  grind
theorem chk_iff {next : Int} {L : List Fil} : (chkT next L).2 = 0 ↔ (1 ≤ next ∧ next ≤ 2147483647) ∧ (L.length ≤ 32 ∧ cntT L ≤ 32) ∧ ∀ i, i < L.length → filE next L i = 0 := by
  have e : (eachF ((List.range L.length).map (filE next L)) 0).2 = 0 ↔ ∀ i, i < L.length → filE next L i = 0 := by
    rw [eachF_0]
    simp
  rw [← e]
  unfold chkT
  split
  · split
    · rename_i h1 h2; simp [h1, h2]
    · rename_i h1 h2; simp [h1, h2]
  · rename_i h1; simp [h1]
theorem pw_chain {α : Type} [Inhabited α] {R : α → α → Prop} {l : List α} (ht : ∀ a b c, R a b → R b c → R a c) (h : ∀ i, i < l.length → i = 0 ∨ R (nth l (i - 1)) (nth l i)) : l.Pairwise R := by
  have key : ∀ d i, i + d + 1 < l.length → R (nth l i) (nth l (i + d + 1)) := by
    intro d
    induction d with
    | zero =>
      intro i hi
      rcases h (i + 1) (by omega) with h1 | h1
      · omega
      · exact h1
    | succ d ih =>
      intro i hi
      rcases h (i + (d + 1) + 1) (by omega) with h1 | h1
      · omega
      · exact ht _ _ _ (ih i (by omega)) h1
  rw [List.pairwise_iff_getElem]
  intro i j hi hj hij
  have h1 := key (j - i - 1) i (by omega)
  rw [show i + (j - i - 1) + 1 = j by omega] at h1
  rw [nth_eq (List.getElem?_eq_getElem hi), nth_eq (List.getElem?_eq_getElem hj)] at h1
  exact h1
theorem pw_nth {α : Type} [Inhabited α] {R : α → α → Prop} {l : List α} : l.Pairwise R ↔ ∀ i j, i < j → j < l.length → R (nth l i) (nth l j) := by
  rw [List.pairwise_iff_getElem]
  constructor
  · intro h i j hij hj
    rw [nth_eq (List.getElem?_eq_getElem (show i < l.length by omega)), nth_eq (List.getElem?_eq_getElem hj)]
    exact h i j (by omega) hj hij
  · intro h i j hi hj hij
    have := h i j hij hj
    rwa [nth_eq (List.getElem?_eq_getElem hi), nth_eq (List.getElem?_eq_getElem hj)] at this
theorem mem_nth_ex {α : Type} [Inhabited α] {l : List α} {x : α} (h : x ∈ l) : ∃ i, i < l.length ∧ nth l i = x := by
  obtain ⟨i, hi, e⟩ := List.getElem_of_mem h
  exact ⟨i, hi, nth_eq (by rw [List.getElem?_eq_getElem hi, e])⟩
theorem mem_take_of {α : Type} [Inhabited α] {l : List α} {i j : Nat} (h : i < j) (hl : i < l.length) : nth l i ∈ l.take j := by
  have e : nth (l.take j) i = nth l i := nth_take h
  rw [← e]
  exact mem_nth (by rw [List.length_take]; omega)
theorem flat_pw {ops : List Opn} : (∀ k, k < ops.length → lockedE ((ops.take k).flatMap Opn.lk) (nth ops k).lk = 0) ↔ (ops.flatMap Opn.lk).Pairwise fun a b => clsh a b = false := by
  constructor
  · intro h
    have key : ∀ k, k ≤ ops.length → ((ops.take k).flatMap Opn.lk).Pairwise fun a b => clsh a b = false := by
      intro k
      induction k with
      | zero => intro _; simp
      | succ k ih =>
        intro hk
        rw [take_succ_nth (by omega), List.flatMap_append, List.pairwise_append]
        have h1 := lockedE_iff.1 (h k (by omega))
        exact ⟨ih (by omega), by simpa using h1.2, fun a ha b hb => h1.1 a ha b (by simpa using hb)⟩
    have := key ops.length (Nat.le_refl _)
    rwa [List.take_length] at this
  · intro h k hk
    rw [← List.take_append_drop k ops, List.flatMap_append, List.pairwise_append, drop_nth hk, List.flatMap_cons] at h
    rw [lockedE_iff]
    refine ⟨fun x hx y hy => h.2.2 x hx y (List.mem_append_left _ hy), ?_⟩
    exact (List.pairwise_append.1 h.2.1).1
theorem any_cf {ops : List Opn} : (∀ k, k < ops.length → (ops.take k).any (cfl (nth ops k)) = false) ↔ ops.Pairwise fun a b => cfl a b = false := by
  rw [pw_nth]
  constructor
  · intro h i j hij hj
    have h1 := h j hj
    rw [List.any_eq_false] at h1
    have h2 := h1 _ (mem_take_of (l := ops) hij (by omega))
    rw [cfl_comm]
    simpa using h2
  · intro h k hk
    rw [List.any_eq_false]
    intro o ho
    obtain ⟨m, h1, h2, rfl⟩ := nth_mem_take ho
    rw [cfl_comm, h m k h1 hk]
    decide
theorem hds_in {L : List Fil} {i j : Nat} {o : Opn} (h : i < j) (hi : i < L.length) (ho : o ∈ (nth L i).op) : o.hd ∈ hds (L.take j) := by
  unfold hds
  exact List.mem_flatMap.2 ⟨_, mem_take_of h hi, List.mem_map.2 ⟨o, ho, rfl⟩⟩
theorem chk_ok {next : Int} {L : List Fil} (h : (chkT next L).2 = 0) : Ok next L := by
  obtain ⟨h1, h2, h3⟩ := chk_iff.1 h
  have hf : ∀ i, i < L.length → FOk next (nth L i) := by
    intro i hi
    obtain ⟨f1, f2, f3, f4⟩ := fil_iff.1 (h3 i hi)
    have hk := fun k hk => hdl_iff.1 (f4 k hk)
    refine ⟨f1, f3, fun o ho => ?_, fun o ho => ?_, pw_chain (fun a b c p q => (by omega)) fun k hk9 => (hk k hk9).2.2.1, any_cf.1 fun k hk9 => (hk k hk9).2.2.2.2.2.1, flat_pw.1 fun k hk9 => (hk k hk9).2.2.2.2.2.2⟩
    · obtain ⟨k, hk9, rfl⟩ := mem_nth_ex ho
      exact (hk k hk9).1
    · obtain ⟨k, hk9, rfl⟩ := mem_nth_ex ho
      have h9 := lksE_iff.1 (hk k hk9).2.2.2.1
      exact ⟨(hk k hk9).2.1, h9.2, h9.1⟩
  refine ⟨h1, h2.2, fun f hf9 => ?_, pw_chain (fun a b c => refLt_tr) fun i hi => (fil_iff.1 (h3 i hi)).2.1, ?_⟩
  · obtain ⟨i, hi, rfl⟩ := mem_nth_ex hf9
    exact hf i hi
  · rw [pw_nth]
    intro i j hij hj o ho p hp he
    obtain ⟨k, hk9, rfl⟩ := mem_nth_ex hp
    have h9 := (hdl_iff.1 ((fil_iff.1 (h3 j hj)).2.2.2 k hk9)).2.2.2.2.1
    exact h9 (by rw [← he]; exact hds_in hij (by omega) ho)
theorem ok_chk {next : Int} {L : List Fil} (h : Ok next L) : (chkT next L).2 = 0 := by
  rw [chk_iff]
  refine ⟨h.nx, ⟨h.vw.len, h.cnt⟩, fun i hi => ?_⟩
  have hf := nth_Ok h hi
  rw [fil_iff]
  refine ⟨hf.rf, ?_, hf.ne, fun k hk => ?_⟩
  · by_cases h0 : i = 0
    · exact .inl h0
    · exact .inr (pw_nth.1 h.sr (i - 1) i (by omega) hi)
  · rw [hdl_iff]
    have ho := hf.op _ (mem_nth hk)
    refine ⟨hf.hd _ (mem_nth hk), ho.1, ?_, lksE_iff.2 ⟨ho.2.2, ho.2.1⟩, ?_, any_cf.2 hf.cf k hk, flat_pw.2 hf.lk k hk⟩
    · by_cases h0 : k = 0
      · exact .inl h0
      · exact .inr (pw_nth.1 hf.hs (k - 1) k (by omega) hk)
    · intro hm
      unfold hds at hm
      obtain ⟨g, hg, hx⟩ := List.mem_flatMap.1 hm
      obtain ⟨j, h1, h2, rfl⟩ := nth_mem_take hg
      obtain ⟨o, ho9, he⟩ := List.mem_map.1 hx
      exact pw_nth.1 h.ds j i h1 hi o ho9 _ (mem_nth hk) he
end Go.Proofs

namespace Go.Proofs
open Go Go.RowKit Gx
set_option linter.unusedVariables false
set_option linter.unusedSimpArgs false
attribute [local irreducible] Go.Calls Gx.S Gx.O Gx.D Gx.OpP Gx.OpQ Gx.OpH

theorem fn_68 : isFn Try.prog 68 = true := by kernel_rfl
theorem fn_19 : isFn Try.prog 19 = true := by kernel_rfl


/-- A table after something was done to it, or the error of the table, or of what was done. -/
def afT (next : Int) (L : List Fil) (r : List Fil × Int) : (List Fil × Int) × Int := if (chkT next L).2 = 0 then if r.2 = 0 then ((r.1, next), 0) else (([], 0), r.2) else (([], 0), (chkT next L).2)
theorem hErr_0 {next : Int} {L : List Fil} {h : Int} (hz : hErr next L h = 0) : (chkT next L).2 = 0 ∧ (findF L h 0).2.2 = 0 := by
  unfold hErr at hz
  split at hz
  · exact ⟨by assumption, hz⟩
  · contradiction
theorem afT_h {next : Int} {L : List Fil} {h : Int} {r : List Fil × Int} (hz : ¬ hErr next L h = 0) (hr : ¬ (findF L h 0).2.2 = 0 → r.2 = (findF L h 0).2.2) : afT next L r = (([], 0), hErr next L h) := by
  unfold hErr at hz ⊢
  unfold afT
  split at hz
  · rename_i h1
    rw [if_pos h1, if_pos h1, hr hz, if_neg hz]
  · rename_i h1
    rw [if_neg h1, if_neg h1]
theorem afT_e {next : Int} {L : List Fil} {r : List Fil × Int} (h1 : (chkT next L).2 = 0) (h2 : ¬ r.2 = 0) : afT next L r = (([], 0), r.2) := by rw [afT, if_pos h1, if_neg h2]
theorem afT_0 {next : Int} {L : List Fil} {r : List Fil × Int} (h1 : (chkT next L).2 = 0) (h2 : r.2 = 0) : afT next L r = ((r.1, next), 0) := by rw [afT, if_pos h1, if_pos h2]
theorem markT_f {L : List Fil} {h : Int} {d : Bool} (hn : ¬ (findF L h 0).2.2 = 0) : (markT L h d).2 = (findF L h 0).2.2 := by rw [markT, if_neg hn]
theorem same_nth {N L : List LFil} {i : Nat} (h : pls N = pls L) (hi : i < L.length) : i < N.length ∧ (nth N i).pl = (nth L i).pl := by
  have hl : N.length = L.length := by
    have h9 := congrArg List.length h
    simpa using h9
  refine ⟨by omega, ?_⟩
  rw [← nth_pls (show i < N.length by omega), h, nth_pls hi]
theorem markT_1 {L : List LFil} {h : Int} {d : Bool} {i k : Nat} (hfe : findF (pls L) h 0 = (i, k, 0)) (hi : i < L.length) (hk : k < (nth L i).op.length) (ha : ¬ hasB (nth (nth L i).op k).ac 4 = true) : markT (pls L) h d = (pls L, 27) := by
  rw [markT, hfe]
  simp only [if_true]
  rw [nth_pls hi, LFil.pl, nth_plo hk, if_neg (by simp only [LOpn.pl]; exact ha)]
theorem markT_2 {L : List LFil} {h : Int} {d : Bool} {i k : Nat} (hfe : findF (pls L) h 0 = (i, k, 0)) (hi : i < L.length) (hk : k < (nth L i).op.length) (ha : hasB (nth (nth L i).op k).ac 4 = true) : markT (pls L) h d = ((pls L).set i { (nth L i).pl with pd := d }, 0) := by
  rw [markT, hfe]
  simp only [if_true]
  rw [nth_pls hi, LFil.pl, nth_plo hk, if_pos (by simp only [LOpn.pl]; exact ha), updF, nth_pls hi]
  rfl

set_option maxRecDepth 20000 in
set_option maxHeartbeats 1000000 in
theorem c40 (w : World) (next : Int) (a : Option Addr) (cap : Nat) (L : List LFil) (h : Int) (d : Bool) (hs : Ft w [] a L) (hm : L.length ≤ 1000) (hmo : ∀ f ∈ L, f.op.length ≤ 1000) (hml : ∀ f ∈ L, ∀ o ∈ f.op, o.lk.length ≤ 1000) : Calls Try.prog 40 #[.agg #[.int .i64 next, .slice a L.length cap], .int .i64 h, .bool d] w fun en w' => ∃ g : (Option Addr × Nat) × List LFil, en = .returned (.tuple #[.agg #[.int .i64 (afT next (pls L) (markT (pls L) h d)).1.2, .slice g.1.1 g.2.length g.1.2], .int .i64 (afT next (pls L) (markT (pls L) h d)).2]) ∧ pls g.2 = (afT next (pls L) (markT (pls L) h d)).1.1 ∧ HS w [] [.files g.1.1 g.1.2 g.2] w' := by
  refine enter (args := [_, _, _]) Try.func40 Try.ntmps40 rfl rfl (HS.refl w []) ?_
  refine s_seq ?_
  refine s_region ?_
  refine o_h (h_box rfl rfl) rfl (fun b1 _ => ?_)
  refine o_h (h_alloc rfl zr_26) rfl (fun b2 _ => ?_)
  refine o_p (p_pure rfl) rfl ?_
  refine o_nil ?_
  refine s_seq ?_
  refine s_seq ?_
  refine s_region ?_
  refine o_q (q_loadn rfl rfl sz_26 aPk rfl) rfl ?_
  refine o_p (p_pure rfl) rfl ?_
  refine o_q (q_call rfl fn_68 rfl (fun w1 h1 => c68 w1 next a cap L h (hs.later h1) hm hmo)) rfl ?_
  refine o_p (p_pure rfl) rfl ?_
  refine o_nil ?_
  refine s_seq ?_
  refine s_region ?_
  refine o_p (p_pure rfl) rfl ?_
  refine o_p (p_pure rfl) rfl ?_
  refine o_nil ?_
  refine s_cond rfl (fun h3 => ?_) (fun h3 => ?_)
  · try simp only [decide_eq_true_eq, decide_eq_false_iff_not, Bool.not_eq_true', Bool.not_eq_false', Bool.and_eq_true, Bool.or_eq_true, Bool.and_eq_false_iff, Bool.or_eq_false_iff, Bool.not_true, Bool.not_false] at h3
    have hz : ¬ hErr next (pls L) h = 0 := h3
    refine s_seq ?_
    refine s_region ?_
    refine o_p (p_build (cs := [_, _]) rfl rfl pl_26 zr_26 rfl) rfl ?_
    refine o_p (p_pure rfl) rfl ?_
    refine o_h0 (h_store rfl rfl rfl sz_26 rfl aPt (by simp only [setMany_length, List.length_set, List.length_cons, List.length_nil, List.length_map]; omega) rfl) (fun _ _ => ?_)
    refine o_p (p_pure rfl) rfl ?_
    refine o_nil ?_
    exact s_retv (rs := [.cell 6 26, .tmp 7]) rfl (.cell rfl sz_26 aPk rfl (.tmp rfl (.nil))) (fun w' h' => by have hR := afT_h (r := (markT (pls L) h d)) hz (fun h9 => markT_f h9); exact ⟨((none, 0), []), by rw [hR]; rfl, by rw [hR]; rfl, (HS.files_none h').ent aEt⟩)
  · try simp only [decide_eq_true_eq, decide_eq_false_iff_not, Bool.not_eq_true', Bool.not_eq_false', Bool.and_eq_true, Bool.or_eq_true, Bool.and_eq_false_iff, Bool.or_eq_false_iff, Bool.not_true, Bool.not_false] at h3
    have hz : hErr next (pls L) h = 0 := h3
    obtain ⟨hz1, hz2⟩ := hErr_0 hz
    have hok := chk_ok hz1
    have hV := hok.vw
    obtain ⟨i, k, hfe, hi, hk, hV3⟩ := findF_some hV hz2
    have hfd : fdI (pls L) h = ((i : Int), (k : Int)) := by rw [fdI, hfe]; rfl
    have hoi := hmo _ (mem_nth hi)
    refine s_skip ?_
    refine s_seq ?_
    refine s_region ?_
    refine o_q (q_loadn rfl rfl sz_26 aPk rfl) rfl ?_
    refine o_p (p_pure rfl) rfl ?_
    refine o_q (q_call rfl fn_70 rfl (fun w1 h1 => c70 w1 next a cap L h (hs.later h1) hm hmo)) rfl ?_
    rw [hfd]
    refine o_p (p_pure rfl) rfl ?_
    refine o_p (p_pure rfl) rfl ?_
    refine o_p (p_pure rfl) rfl ?_
    refine o_p (p_pure rfl) rfl ?_
    refine o_p (p_pure rfl) rfl ?_
    refine o_nil ?_
    refine s_seq ?_
    refine s_seq ?_
    refine s_region ?_
    refine o_p (p_fieldAddr rfl rfl fd_26_1 sz_24 rfl) rfl ?_
    refine o_q (q_load rfl rfl sz_24 aPk rfl) rfl ?_
    refine o_p (p_pure rfl) rfl ?_
    refine o_p (p_indexAddr rfl rfl rfl sl_24 (i) (by omega) (by omega) (Rw.some hs.1 (by omega))) rfl ?_
    refine o_p (p_fieldAddr rfl rfl fd_77_2 sz_75 rfl) rfl ?_
    refine o_q (q_load_old rfl rfl sz_75 ((hs.1.rdj 3 hi rfl))) rfl ?_
    refine o_p (p_pure rfl) rfl ?_
    refine o_p (p_indexAddr rfl rfl rfl sl_75 (k) (by omega) (by omega) (Rw.some (hs.at hi).1 (by omega))) rfl ?_
    refine o_p (p_fieldAddr rfl rfl fd_48_1 sz_3 rfl) rfl ?_
    refine o_q (q_load_old rfl rfl sz_3 (((hs.at hi).1.rdj 1 hk rfl))) rfl ?_
    refine o_q (q_call rfl fn_71 rfl (fun w1 h1 => c71 w1 _ 4 (by have := openE_r hV3.1; omega) (by omega))) rfl ?_
    refine o_p (p_pure rfl) rfl ?_
    refine o_nil ?_
    refine s_cond rfl (fun h4 => ?_) (fun h4 => ?_)
    · try simp only [decide_eq_true_eq, decide_eq_false_iff_not, Bool.not_eq_true', Bool.not_eq_false', Bool.and_eq_true, Bool.or_eq_true, Bool.and_eq_false_iff, Bool.or_eq_false_iff, Bool.not_true, Bool.not_false] at h4
      have hno : ¬ hasB (nth (nth L i).op k).ac 4 = true := by have hq := h4; simpa using hq
      have hmt := markT_1 (d := d) hfe hi hk hno
      refine s_seq ?_
      refine s_weaken (L' := [(2, _), (3, _), (6, _), (7, _), (9, _)]) aSx (fun _ h => h) ?_
      refine s_region ?_
      refine o_p (p_build (cs := [_, _]) rfl rfl pl_26 zr_26 rfl) rfl ?_
      refine o_h0 (h_store rfl rfl rfl sz_26 rfl aPt (by simp only [setMany_length, List.length_set, List.length_cons, List.length_nil, List.length_map]; omega) rfl) (fun _ _ => ?_)
      refine o_p (p_pure rfl) rfl ?_
      refine o_nil ?_
      exact s_retv (rs := [.cell 6 26, .tmp 7]) rfl (.cell rfl sz_26 aPk rfl (.tmp rfl (.nil))) (fun w' h' => by have hR := afT_e (r := (markT (pls L) h d)) hz1 (by rw [hmt]; show ¬ (27 : Int) = 0; decide); exact ⟨((none, 0), []), by rw [hR, hmt]; rfl, by rw [hR, hmt]; rfl, (HS.files_none h').ent aEt⟩)
    · try simp only [decide_eq_true_eq, decide_eq_false_iff_not, Bool.not_eq_true', Bool.not_eq_false', Bool.and_eq_true, Bool.or_eq_true, Bool.and_eq_false_iff, Bool.or_eq_false_iff, Bool.not_true, Bool.not_false] at h4
      have hyes : hasB (nth (nth L i).op k).ac 4 = true := by have hq := h4; simpa using hq
      have hmt := markT_2 (d := d) hfe hi hk hyes
      refine s_skip ?_
      refine s_seq ?_
      refine s_weaken (L' := [(2, _), (3, _), (6, _), (7, _), (9, _)]) aSx (fun _ h => h) ?_
      refine s_region ?_
      refine o_q (q_loadn rfl rfl sz_26 aPk rfl) rfl ?_
      refine o_h (h_call rfl fn_19 rfl (fun w1 h1 => c19 w1 next a cap L (hs.later h1) hm hmo hml)) rfl (fun ⟨⟨ca, cc⟩, N⟩ hgc => ?_)
      dsimp only at hgc ⊢
      obtain ⟨hiN, hpN⟩ := same_nth hgc hi
      refine o_h (h_alloc rfl zr_26) rfl (fun b5 _ => ?_)
      refine o_h0 (h_store rfl rfl rfl sz_26 rfl aPt (by simp only [setMany_length, List.length_set, List.length_cons, List.length_nil, List.length_map]; omega) rfl) (fun _ _ => ?_)
      refine o_nil ?_
      refine s_seq ?_
      refine s_region ?_
      refine o_p (p_fieldAddr rfl rfl fd_26_1 sz_24 rfl) rfl ?_
      refine o_fact (fun w h => files_addr (l := N) (a := ca) (cap := cc) (by omega) h aPk) (fun hga => ?_)
      obtain ⟨ga, rfl, hcap, hcm⟩ := hga
      refine o_class (fun w h => HS.file_at hiN h aPk) ?_
      refine o_q (q_load rfl rfl sz_24 aPk rfl) rfl ?_
      refine o_p (p_pure rfl) rfl ?_
      refine o_p (p_pure rfl) rfl ?_
      refine o_p (p_indexAddr rfl rfl rfl sl_24 (i) (by omega) (by omega) rfl) rfl ?_
      refine o_slot (show _ = Value.pointer (some ⟨ga, i * 4, none⟩) from by rw [Nat.zero_add]) ?_
      refine o_p (p_fieldAddr rfl rfl fd_77_1 sz_4 rfl) rfl ?_
      refine o_h0 (h_store rfl rfl rfl sz_4 rfl aPt (by rw [flat_length fv4]; omega) rfl) (fun _ _ => ?_)
      refine o_nil ?_
      refine s_seq ?_
      refine s_region ?_
      refine o_q (q_loadn rfl rfl sz_26 aPk rfl) rfl ?_
      refine o_h0 (h_store rfl rfl rfl sz_26 rfl aPt (by simp only [setMany_length, List.length_set, List.length_cons, List.length_nil, List.length_map]; omega) rfl) (fun _ _ => ?_)
      refine o_p (p_pure rfl) rfl ?_
      refine o_nil ?_
      exact s_retv (rs := [.cell 6 26, .tmp 7]) rfl (.cell rfl sz_26 aPk rfl (.tmp rfl (.nil))) (fun w' h' => by have hR := afT_0 (r := (markT (pls L) h d)) hz1 (by rw [hmt]); exact ⟨((some ⟨ga, 0, none⟩, cc), N.set i { nth N i with pd := d }), by rw [hR, List.length_set]; rfl, by rw [hR, hmt, pls_set, hgc, ← hpN]; rfl, by have h2 := HS.file_put (f := { nth N i with pd := d }) hiN (h'.ent (Bs := [.blk ga 77 (cc * 4) _, .opens (nth N i).oa (nth N i).oc (nth N i).op, .star ((others N i).map subF)]) aEt) (flat_set fv4 N i 2 [.bool d] (nth N i) _ (nth_get hiN) rfl (by simp)) hcap hcm; exact h2⟩)

end Go.Proofs

namespace Go.Proofs
open Go Go.RowKit Gx
set_option linter.unusedVariables false
set_option linter.unusedSimpArgs false
attribute [local irreducible] Go.Calls Gx.S Gx.O Gx.D Gx.OpP Gx.OpQ Gx.OpH



def kpW (w ex oth : Bool) : Bool := (ex && oth) || (!ex && w)
theorem kpW_t : kpW true = wrK := by funext ex oth; cases ex <;> cases oth <;> rfl
theorem kpW_f : kpW false = rdK := by funext ex oth; cases ex <;> cases oth <;> rfl
def mayR (next : Int) (L : List Fil) (h fr cnt : Int) (w : Bool) : Int := if (chkT next L).2 = 0 then mayT L h ⟨fr, cnt, false⟩ (bif w then 2 else 1) (kpW w) else (chkT next L).2
theorem mayT_f {L : List Fil} {h : Int} {q : Lock} {acc : Nat} {kp : Bool → Bool → Bool} (hn : ¬ (findF L h 0).2.2 = 0) : mayT L h q acc kp = (findF L h 0).2.2 := by rw [mayT, if_neg hn]
theorem mayT_r {L : List Fil} {h : Int} {q : Lock} {acc : Nat} {kp : Bool → Bool → Bool} (hn : (findF L h 0).2.2 = 0) (h2 : ¬ rngE q.fr q.cnt = 0) : mayT L h q acc kp = rngE q.fr q.cnt := by rw [mayT, if_pos hn, if_neg h2]
theorem mayR_h {next : Int} {L : List Fil} {h fr cnt : Int} {w : Bool} (hz : ¬ hErr next L h = 0) : mayR next L h fr cnt w = hErr next L h := by
  unfold hErr at hz ⊢
  unfold mayR
  split at hz
  · rename_i h1
    rw [if_pos h1, if_pos h1, mayT_f hz]
  · rename_i h1
    rw [if_neg h1, if_neg h1]

set_option maxRecDepth 20000 in
set_option maxHeartbeats 1000000 in
theorem c30 (w : World) (next : Int) (a : Option Addr) (cap : Nat) (L : List LFil) (h fr cnt : Int) (w9 : Bool) (hs : Ft w [] a L) (hm : L.length ≤ 1000) (hmo : ∀ f ∈ L, f.op.length ≤ 1000) : Calls Try.prog 30 #[.agg #[.int .i64 next, .slice a L.length cap], .int .i64 h, .int .i64 fr, .int .i64 cnt, .bool w9] w fun en w' => en = .returned (.int .i64 (mayR next (pls L) h fr cnt w9)) ∧ Below w.heap.size w w' := by
  refine enter (args := [_, _, _, _, _]) Try.func30 Try.ntmps30 rfl rfl (HS.refl w []) ?_
  refine s_seq ?_
  refine s_region ?_
  refine o_h (h_box rfl rfl) rfl (fun b1 _ => ?_)
  refine o_p (p_pure rfl) rfl ?_
  refine o_nil ?_
  refine s_seq ?_
  refine s_seq ?_
  refine s_region ?_
  refine o_q (q_loadn rfl rfl sz_26 aPk rfl) rfl ?_
  refine o_p (p_pure rfl) rfl ?_
  refine o_q (q_call rfl fn_68 rfl (fun w1 h1 => c68 w1 next a cap L h (hs.later h1) hm hmo)) rfl ?_
  refine o_p (p_pure rfl) rfl ?_
  refine o_nil ?_
  refine s_seq ?_
  refine s_region ?_
  refine o_p (p_pure rfl) rfl ?_
  refine o_p (p_pure rfl) rfl ?_
  refine o_nil ?_
  refine s_cond rfl (fun h2 => ?_) (fun h2 => ?_)
  · try simp only [decide_eq_true_eq, decide_eq_false_iff_not, Bool.not_eq_true', Bool.not_eq_false', Bool.and_eq_true, Bool.or_eq_true, Bool.and_eq_false_iff, Bool.or_eq_false_iff, Bool.not_true, Bool.not_false] at h2
    have hz : ¬ hErr next (pls L) h = 0 := h2
    refine s_seq ?_
    refine s_region ?_
    refine o_p (p_pure rfl) rfl ?_
    refine o_p (p_pure rfl) rfl ?_
    refine o_nil ?_
    exact s_retv (rs := [.tmp 10]) rfl (.tmp rfl (.nil)) (fun w' h' => ⟨by rw [mayR_h hz]; rfl, h'.below⟩)
  · try simp only [decide_eq_true_eq, decide_eq_false_iff_not, Bool.not_eq_true', Bool.not_eq_false', Bool.and_eq_true, Bool.or_eq_true, Bool.and_eq_false_iff, Bool.or_eq_false_iff, Bool.not_true, Bool.not_false] at h2
    have hz : hErr next (pls L) h = 0 := h2
    obtain ⟨hz1, hz2⟩ := hErr_0 hz
    have hok := chk_ok hz1
    have hV := hok.vw
    obtain ⟨i, k, hfe, hi, hk, hV3⟩ := findF_some hV hz2
    have hfd : fdI (pls L) h = ((i : Int), (k : Int)) := by rw [fdI, hfe]; rfl
    have hoi := hmo _ (mem_nth hi)
    refine s_skip ?_
    refine s_seq ?_
    refine s_seq ?_
    refine s_region ?_
    refine o_p (p_pure rfl) rfl ?_
    refine o_p (p_pure rfl) rfl ?_
    refine o_q (q_call rfl fn_69 rfl (fun w1 h1 => c69 w1 fr cnt)) rfl ?_
    refine o_p (p_pure rfl) rfl ?_
    refine o_nil ?_
    refine s_seq ?_
    refine s_region ?_
    refine o_p (p_pure rfl) rfl ?_
    refine o_p (p_pure rfl) rfl ?_
    refine o_nil ?_
    refine s_cond rfl (fun h3 => ?_) (fun h3 => ?_)
    · try simp only [decide_eq_true_eq, decide_eq_false_iff_not, Bool.not_eq_true', Bool.not_eq_false', Bool.and_eq_true, Bool.or_eq_true, Bool.and_eq_false_iff, Bool.or_eq_false_iff, Bool.not_true, Bool.not_false] at h3
      have hrg : ¬ rngE fr cnt = 0 := h3
      refine s_seq ?_
      refine s_region ?_
      refine o_p (p_pure rfl) rfl ?_
      refine o_p (p_pure rfl) rfl ?_
      refine o_nil ?_
      exact s_retv (rs := [.tmp 10]) rfl (.tmp rfl (.nil)) (fun w' h' => ⟨by rw [mayR, if_pos hz1, mayT_r hz2 hrg]; rfl, h'.below⟩)
    · try simp only [decide_eq_true_eq, decide_eq_false_iff_not, Bool.not_eq_true', Bool.not_eq_false', Bool.and_eq_true, Bool.or_eq_true, Bool.and_eq_false_iff, Bool.or_eq_false_iff, Bool.not_true, Bool.not_false] at h3
      have hrg : rngE fr cnt = 0 := h3
      have hl32 := (VW.lens hV).2 _ (mem_nth hi)
      refine s_skip ?_
      refine s_seq ?_
      refine s_region ?_
      refine o_q (q_loadn rfl rfl sz_26 aPk rfl) rfl ?_
      refine o_p (p_pure rfl) rfl ?_
      refine o_q (q_call rfl fn_70 rfl (fun w1 h1 => c70 w1 next a cap L h (hs.later h1) hm hmo)) rfl ?_
      rw [hfd]
      refine o_p (p_pure rfl) rfl ?_
      refine o_p (p_pure rfl) rfl ?_
      refine o_p (p_pure rfl) rfl ?_
      refine o_p (p_pure rfl) rfl ?_
      refine o_p (p_pure rfl) rfl ?_
      refine o_nil ?_
      refine s_seq ?_
      refine s_region ?_
      refine o_p (p_pure rfl) rfl ?_
      refine o_nil ?_
      refine s_seq ?_
      refine s_seq ?_
      refine s_region ?_
      refine o_p (p_pure rfl) rfl ?_
      refine o_nil ?_
      refine s_weaken (L' := [(2, _), (3, _), (4, _), (5, _), (10, _), (13, _), (14, _), (15, _), (37, _)]) aSx (fun _ h => h) ?_
      refine s_cutI (α := Unit) [15] (fun _ => [(15, .int .i64 (((bif w9 then 2 else 1) : Nat) : Int))]) (fun _ => HS w [] [.blk b1 26 2 [.int .i64 next, .slice a L.length cap]]) (fun _ => True) ?_ ?_
      · skip
        refine s_cond rfl (fun h4 => ?_) (fun h4 => ?_)
        · try simp only [decide_eq_true_eq, decide_eq_false_iff_not, Bool.not_eq_true', Bool.not_eq_false', Bool.and_eq_true, Bool.or_eq_true, Bool.and_eq_false_iff, Bool.or_eq_false_iff, Bool.not_true, Bool.not_false] at h4
          refine s_region ?_
          refine o_p (p_pure rfl) rfl ?_
          refine o_nil ?_
          exact s_joinI () trivial (sl_c (congrArg (fun e => some (Value.int .i64 e)) (by have hq := h4; cases w9 <;> first | rfl | simp_all)) aSx) (fun w h => h.ent aEt)
        · try simp only [decide_eq_true_eq, decide_eq_false_iff_not, Bool.not_eq_true', Bool.not_eq_false', Bool.and_eq_true, Bool.or_eq_true, Bool.and_eq_false_iff, Bool.or_eq_false_iff, Bool.not_true, Bool.not_false] at h4
          refine s_skip ?_
          exact s_joinI () trivial (sl_c (congrArg (fun e => some (Value.int .i64 e)) (by have hq := h4; cases w9 <;> first | rfl | simp_all)) aSx) (fun w h => h.ent aEt)
      · intro _ _
        refine s_seq ?_
        refine s_seq ?_
        refine s_region ?_
        refine o_p (p_fieldAddr rfl rfl fd_26_1 sz_24 rfl) rfl ?_
        refine o_q (q_load rfl rfl sz_24 aPk rfl) rfl ?_
        refine o_p (p_pure rfl) rfl ?_
        refine o_p (p_indexAddr rfl rfl rfl sl_24 (i) (by omega) (by omega) (Rw.some hs.1 (by omega))) rfl ?_
        refine o_p (p_fieldAddr rfl rfl fd_77_2 sz_75 rfl) rfl ?_
        refine o_q (q_load_old rfl rfl sz_75 ((hs.1.rdj 3 hi rfl))) rfl ?_
        refine o_p (p_pure rfl) rfl ?_
        refine o_p (p_indexAddr rfl rfl rfl sl_75 (k) (by omega) (by omega) (Rw.some (hs.at hi).1 (by omega))) rfl ?_
        refine o_p (p_fieldAddr rfl rfl fd_48_1 sz_3 rfl) rfl ?_
        refine o_q (q_load_old rfl rfl sz_3 (((hs.at hi).1.rdj 1 hk rfl))) rfl ?_
        refine o_p (p_pure rfl) rfl ?_
        refine o_q (q_call rfl fn_71 rfl (fun w1 h1 => c71 w1 _ (bif w9 then 2 else 1) (by have := openE_r hV3.1; omega) (by cases w9 <;> simp))) rfl ?_
        refine o_p (p_pure rfl) rfl ?_
        refine o_nil ?_
        refine s_cond rfl (fun h5 => ?_) (fun h5 => ?_)
        · try simp only [decide_eq_true_eq, decide_eq_false_iff_not, Bool.not_eq_true', Bool.not_eq_false', Bool.and_eq_true, Bool.or_eq_true, Bool.and_eq_false_iff, Bool.or_eq_false_iff, Bool.not_true, Bool.not_false] at h5
          have hno : ¬ hasB (nth (nth L i).op k).ac (bif w9 then 2 else 1) = true := by have hq := h5; simpa using hq
          have hno2 : ¬ hasB (nth (nth L i).op k).pl.ac (bif w9 then 2 else 1) = true := hno
          refine s_seq ?_
          refine s_region ?_
          refine o_p (p_pure rfl) rfl ?_
          refine o_nil ?_
          exact s_retv (rs := [.tmp 10]) rfl (.tmp rfl (.nil)) (fun w' h' => ⟨by rw [mayR, if_pos hz1, mayT, hfe]; simp only [if_true]; rw [if_pos hrg, nth_pls hi, LFil.pl, nth_plo hk]; skip; rw [if_neg hno2]; rfl, h'.below⟩)
        · try simp only [decide_eq_true_eq, decide_eq_false_iff_not, Bool.not_eq_true', Bool.not_eq_false', Bool.and_eq_true, Bool.or_eq_true, Bool.and_eq_false_iff, Bool.or_eq_false_iff, Bool.not_true, Bool.not_false] at h5
          have hyes : hasB (nth (nth L i).op k).ac (bif w9 then 2 else 1) = true := by have hq := h5; simpa using hq
          have hyes2 : hasB (nth (nth L i).op k).pl.ac (bif w9 then 2 else 1) = true := hyes
          refine s_skip ?_
          refine s_seq ?_
          refine s_seq ?_
          refine s_region ?_
          refine o_p (p_pure rfl) rfl ?_
          refine o_nil ?_
          refine s_block ?_
          refine s_weaken (L' := [(2, _), (3, _), (4, _), (5, _), (10, _), (13, _), (14, _), (16, _)]) aSx (fun _ h => h) ?_
          refine s_loopI (α := Nat) [10, 16, 17, 18, 51, 52, 53, 54, 55, 56, 57, 58, 59, 60, 61, 62, 63, 64, 65, 66, 67, 68, 69, 70, 71, 72, 73, 74, 75, 76, 77, 78, 79, 80, 81, 82, 83, 84, 85, 86, 87, 88, 89, 90, 91, 92, 93, 94, 95, 96, 97, 98, 99, 100, 101, 102, 103, 104, 105, 106, 107, 108, 109, 110, 111, 112, 113] (fun n => [(16, .int .i64 (n : Int))]) (fun _ => HS w [] [.blk b1 26 2 [.int .i64 next, .slice a L.length cap]]) (fun n => n ≤ (nth L i).op.length ∧ ∀ n2, n2 < n → ∀ m, m < (nth (nth L i).op n2).lk.length → (ovl (nth (nth (nth L i).op n2).lk m) ⟨fr, cnt, false⟩ && kpW w9 (nth (nth (nth L i).op n2).lk m).ex (decide (n2 ≠ k))) = false) (fun n => (nth L i).op.length - n) 0 ⟨by omega, fun n2 h2 => absurd h2 (Nat.not_lt_zero n2)⟩ aSx (fun w h => h.ent aEt) (fun n hn => ?_)
          obtain ⟨hn1, hn2⟩ := hn
          refine s_seq ?_
          refine s_seq ?_
          refine s_region ?_
          refine o_p (p_pure rfl) rfl ?_
          refine o_p (p_fieldAddr rfl rfl fd_26_1 sz_24 rfl) rfl ?_
          refine o_q (q_load rfl rfl sz_24 aPk rfl) rfl ?_
          refine o_p (p_pure rfl) rfl ?_
          refine o_p (p_indexAddr rfl rfl rfl sl_24 (i) (by omega) (by omega) (Rw.some hs.1 (by omega))) rfl ?_
          refine o_p (p_fieldAddr rfl rfl fd_77_2 sz_75 rfl) rfl ?_
          refine o_q (q_load_old rfl rfl sz_75 ((hs.1.rdj 3 hi rfl))) rfl ?_
          refine o_p (p_len_slice rfl rfl Try.underlying75) rfl ?_
          refine o_p (p_pure rfl) rfl ?_
          refine o_nil ?_
          refine s_cond rfl (fun h6 => ?_) (fun h6 => ?_)
          · try simp only [decide_eq_true_eq, decide_eq_false_iff_not, Bool.not_eq_true', Bool.not_eq_false', Bool.and_eq_true, Bool.or_eq_true, Bool.and_eq_false_iff, Bool.or_eq_false_iff, Bool.not_true, Bool.not_false] at h6
            have hnl : n < (nth L i).op.length := by omega
            have hv9 := VW.at hV hi hnl
            refine s_skip ?_
            refine s_seq ?_
            refine s_block ?_
            refine s_seq ?_
            refine s_region ?_
            refine o_p (p_pure rfl) rfl ?_
            refine o_nil ?_
            refine s_block ?_
            refine s_loopI (α := Nat) [10, 17, 18, 62, 63, 64, 65, 66, 67, 68, 69, 70, 71, 72, 73, 74, 75, 76, 77, 78, 79, 80, 81, 82, 83, 84, 85, 86, 87, 88, 89, 90, 91, 92, 93, 94, 95, 96, 97, 98, 99, 100, 101, 102, 103, 104, 105, 106, 107, 108, 109, 110, 111, 112, 113] (fun m => [(17, .int .i64 (m : Int))]) (fun _ => HS w [] [.blk b1 26 2 [.int .i64 next, .slice a L.length cap]]) (fun m => m ≤ (nth (nth L i).op n).lk.length ∧ ∀ m2, m2 < m → (ovl (nth (nth (nth L i).op n).lk m2) ⟨fr, cnt, false⟩ && kpW w9 (nth (nth (nth L i).op n).lk m2).ex (decide (n ≠ k))) = false) (fun m => (nth (nth L i).op n).lk.length - m) 0 ⟨by omega, fun n2 h2 => absurd h2 (Nat.not_lt_zero n2)⟩ aSx (fun w h => h.ent aEt) (fun m hm => ?_)
            obtain ⟨hm1, hm3⟩ := hm
            refine s_seq ?_
            refine s_seq ?_
            refine s_region ?_
            refine o_p (p_pure rfl) rfl ?_
            refine o_p (p_fieldAddr rfl rfl fd_26_1 sz_24 rfl) rfl ?_
            refine o_q (q_load rfl rfl sz_24 aPk rfl) rfl ?_
            refine o_p (p_pure rfl) rfl ?_
            refine o_p (p_indexAddr rfl rfl rfl sl_24 (i) (by omega) (by omega) (Rw.some hs.1 (by omega))) rfl ?_
            refine o_p (p_fieldAddr rfl rfl fd_77_2 sz_75 rfl) rfl ?_
            refine o_q (q_load_old rfl rfl sz_75 ((hs.1.rdj 3 hi rfl))) rfl ?_
            refine o_p (p_pure rfl) rfl ?_
            refine o_p (p_indexAddr rfl rfl rfl sl_75 (n) (by omega) (by omega) (Rw.some (hs.at hi).1 (by omega))) rfl ?_
            refine o_p (p_fieldAddr rfl rfl fd_48_4 sz_46 rfl) rfl ?_
            refine o_q (q_load_old rfl rfl sz_46 (((hs.at hi).1.rdj 4 hnl rfl))) rfl ?_
            refine o_p (p_len_slice rfl rfl Try.underlying46) rfl ?_
            refine o_p (p_pure rfl) rfl ?_
            refine o_nil ?_
            refine s_cond rfl (fun h7 => ?_) (fun h7 => ?_)
            · try simp only [decide_eq_true_eq, decide_eq_false_iff_not, Bool.not_eq_true', Bool.not_eq_false', Bool.and_eq_true, Bool.or_eq_true, Bool.and_eq_false_iff, Bool.or_eq_false_iff, Bool.not_true, Bool.not_false] at h7
              have hml : m < (nth (nth L i).op n).lk.length := by omega
              refine s_skip ?_
              refine s_seq ?_
              refine s_block ?_
              refine s_seq ?_
              refine s_weaken (L' := [(2, _), (3, _), (4, _), (5, _), (13, _), (14, _), (16, _), (17, _), (51, _), (52, _), (53, _), (54, _), (55, _), (56, _), (57, _), (58, _), (59, _)]) aSx (fun _ h => h) ?_
              refine s_region ?_
              refine o_p (p_fieldAddr rfl rfl fd_26_1 sz_24 rfl) rfl ?_
              refine o_q (q_load rfl rfl sz_24 aPk rfl) rfl ?_
              refine o_p (p_pure rfl) rfl ?_
              refine o_p (p_indexAddr rfl rfl rfl sl_24 (i) (by omega) (by omega) (Rw.some hs.1 (by omega))) rfl ?_
              refine o_p (p_fieldAddr rfl rfl fd_77_2 sz_75 rfl) rfl ?_
              refine o_q (q_load_old rfl rfl sz_75 ((hs.1.rdj 3 hi rfl))) rfl ?_
              refine o_p (p_pure rfl) rfl ?_
              refine o_p (p_indexAddr rfl rfl rfl sl_75 (n) (by omega) (by omega) (Rw.some (hs.at hi).1 (by omega))) rfl ?_
              refine o_p (p_fieldAddr rfl rfl fd_48_4 sz_46 rfl) rfl ?_
              refine o_q (q_load_old rfl rfl sz_46 (((hs.at hi).1.rdj 4 hnl rfl))) rfl ?_
              refine o_p (p_pure rfl) rfl ?_
              refine o_p (p_indexAddr rfl rfl rfl sl_46 (m) (by omega) (by omega) (Rw.some ((hs.at hi).at hnl) (by omega))) rfl ?_
              refine o_q (q_load_oldn _ rfl rfl sz_62 rfl (Rw.rd ((hs.at hi).at hnl) hml)) rfl ?_
              refine o_h (h_alloc rfl zr_62) rfl (fun b8 _ => ?_)
              refine o_h0 (h_store rfl rfl rfl sz_62 rfl aPt (by simp only [setMany_length, List.length_set, List.length_cons, List.length_nil, List.length_map]; omega) rfl) (fun _ _ => ?_)
              refine o_nil ?_
              refine s_seq ?_
              refine s_weaken (L' := [(2, _), (3, _), (4, _), (5, _), (13, _), (14, _), (16, _), (17, _), (18, _), (51, _), (52, _), (53, _), (54, _), (55, _), (56, _), (57, _), (58, _), (59, _)]) aSx (fun _ h => h) ?_
              refine s_region ?_
              refine o_p (p_fieldAddr rfl rfl fd_62_0 sz_3 rfl) rfl ?_
              refine o_q (q_load rfl rfl sz_3 aPk rfl) rfl ?_
              refine o_p (p_fieldAddr rfl rfl fd_62_1 sz_3 rfl) rfl ?_
              refine o_q (q_load rfl rfl sz_3 aPk rfl) rfl ?_
              refine o_p (p_pure rfl) rfl ?_
              refine o_p (p_pure rfl) rfl ?_
              refine o_q (q_call rfl fn_79 rfl (fun w1 h1 => c79 w1 _ ⟨fr, cnt, false⟩ (okL_nth hv9.2.1 hml) hrg)) rfl ?_
              refine o_p (p_pure rfl) rfl ?_
              refine o_and 16 97 113 _ _ rfl
                (by
                  intro hg9
                  have hs10 := hg9; try simp only [decide_eq_true_eq, decide_eq_false_iff_not, Bool.not_eq_true', Bool.not_eq_false', Bool.and_eq_true, Bool.or_eq_true, Bool.and_eq_false_iff, Bool.or_eq_false_iff, Bool.not_true, Bool.not_false] at hs10
                  refine o_on 97 _ rfl rfl hg9 ?_
                  refine o_p (p_fieldAddr rfl rfl fd_62_2 sz_4 rfl) rfl ?_
                  refine o_on 97 _ rfl rfl hg9 ?_
                  refine o_q (q_load rfl rfl sz_4 aPk rfl) rfl ?_
                  refine o_on 97 _ rfl rfl hg9 ?_
                  refine o_p (p_pure rfl) rfl ?_
                  refine o_and 4 100 104 _ _ rfl
                    (by
                      intro hg11
                      have hs12 := hg11; try simp only [decide_eq_true_eq, decide_eq_false_iff_not, Bool.not_eq_true', Bool.not_eq_false', Bool.and_eq_true, Bool.or_eq_true, Bool.and_eq_false_iff, Bool.or_eq_false_iff, Bool.not_true, Bool.not_false] at hs12
                      refine o_on 100 _ rfl rfl hg11 ?_
                      refine o_p (p_pure rfl) rfl ?_
                      refine o_on 100 _ rfl rfl hg11 ?_
                      refine o_p (p_pure rfl) rfl ?_
                      refine o_on 100 _ rfl rfl hg11 ?_
                      refine o_p (p_pure rfl) rfl ?_
                      refine o_on 97 _ rfl rfl hg9 ?_
                      refine o_p (p_pickt rfl rfl hg11 rfl) rfl ?_
                      refine o_nil ?_
                      exact s_joinN 4 104 _ rfl rfl rfl (fun w h => by first | exact h | exact h.ent aEt))
                    (by
                      intro hg13
                      have hs14 := hg13; try simp only [decide_eq_true_eq, decide_eq_false_iff_not, Bool.not_eq_true', Bool.not_eq_false', Bool.and_eq_true, Bool.or_eq_true, Bool.and_eq_false_iff, Bool.or_eq_false_iff, Bool.not_true, Bool.not_false] at hs14
                      refine o_off 100 _ rfl rfl hg13 rfl ?_
                      refine o_off 100 _ rfl rfl hg13 rfl ?_
                      refine o_off 100 _ rfl rfl hg13 rfl ?_
                      refine o_on 97 _ rfl rfl hg9 ?_
                      refine o_p (p_pickf rfl rfl hg13 rfl) rfl ?_
                      refine o_nil ?_
                      exact s_joinN 4 104 _ rfl rfl rfl (fun w h => by first | exact h | exact h.ent aEt)) ?_
                  refine o_on 97 _ rfl rfl hg9 ?_
                  refine o_p (p_pure rfl) rfl ?_
                  refine o_or 7 105 112 _ _ rfl
                    (by
                      intro hg15
                      have hs16 := hg15; try simp only [decide_eq_true_eq, decide_eq_false_iff_not, Bool.not_eq_true', Bool.not_eq_false', Bool.and_eq_true, Bool.or_eq_true, Bool.and_eq_false_iff, Bool.or_eq_false_iff, Bool.not_true, Bool.not_false] at hs16
                      refine o_on 105 _ rfl rfl hg15 ?_
                      refine o_p (p_fieldAddr rfl rfl fd_62_2 sz_4 rfl) rfl ?_
                      refine o_on 105 _ rfl rfl hg15 ?_
                      refine o_q (q_load rfl rfl sz_4 aPk rfl) rfl ?_
                      refine o_on 105 _ rfl rfl hg15 ?_
                      refine o_p (p_pure rfl) rfl ?_
                      refine o_on 105 _ rfl rfl hg15 ?_
                      refine o_p (p_pure rfl) rfl ?_
                      refine o_and 2 109 111 _ _ rfl
                        (by
                          intro hg17
                          have hs18 := hg17; try simp only [decide_eq_true_eq, decide_eq_false_iff_not, Bool.not_eq_true', Bool.not_eq_false', Bool.and_eq_true, Bool.or_eq_true, Bool.and_eq_false_iff, Bool.or_eq_false_iff, Bool.not_true, Bool.not_false] at hs18
                          refine o_on 109 _ rfl rfl hg17 ?_
                          refine o_p (p_pure rfl) rfl ?_
                          refine o_on 105 _ rfl rfl hg15 ?_
                          refine o_p (p_pickt rfl rfl hg17 rfl) rfl ?_
                          refine o_nil ?_
                          exact s_joinN 2 111 _ rfl rfl rfl (fun w h => by first | exact h | exact h.ent aEt))
                        (by
                          intro hg19
                          have hs20 := hg19; try simp only [decide_eq_true_eq, decide_eq_false_iff_not, Bool.not_eq_true', Bool.not_eq_false', Bool.and_eq_true, Bool.or_eq_true, Bool.and_eq_false_iff, Bool.or_eq_false_iff, Bool.not_true, Bool.not_false] at hs20
                          refine o_off 109 _ rfl rfl hg19 rfl ?_
                          refine o_on 105 _ rfl rfl hg15 ?_
                          refine o_p (p_pickf rfl rfl hg19 rfl) rfl ?_
                          refine o_nil ?_
                          exact s_joinN 2 111 _ rfl rfl rfl (fun w h => by first | exact h | exact h.ent aEt)) ?_
                      refine o_on 97 _ rfl rfl hg9 ?_
                      refine o_p (p_pickf rfl rfl hg15 rfl) rfl ?_
                      refine o_nil ?_
                      exact s_joinN 6 112 _ rfl rfl rfl (fun w h => by first | exact h | exact h.ent aEt))
                    (by
                      intro hg21
                      have hs22 := hg21; try simp only [decide_eq_true_eq, decide_eq_false_iff_not, Bool.not_eq_true', Bool.not_eq_false', Bool.and_eq_true, Bool.or_eq_true, Bool.and_eq_false_iff, Bool.or_eq_false_iff, Bool.not_true, Bool.not_false] at hs22
                      refine o_off 105 _ rfl rfl hg21 rfl ?_
                      refine o_off 105 _ rfl rfl hg21 rfl ?_
                      refine o_off 105 _ rfl rfl hg21 rfl ?_
                      refine o_off 105 _ rfl rfl hg21 rfl ?_
                      refine o_off' 109 rfl rfl rfl ?_
                      refine o_off 105 _ rfl rfl hg21 rfl ?_
                      refine o_on 97 _ rfl rfl hg9 ?_
                      refine o_p (p_pickt rfl rfl hg21 rfl) rfl ?_
                      refine o_nil ?_
                      exact s_joinN 7 112 _ rfl rfl rfl (fun w h => by first | exact h | exact h.ent aEt)) ?_
                  refine o_p (p_pickt rfl rfl hg9 rfl) rfl ?_
                  refine o_nil ?_
                  exact s_joinN 7 113 _ rfl rfl rfl (fun w h => by first | exact h | exact h.ent aEt))
                (by
                  intro hg23
                  have hs24 := hg23; try simp only [decide_eq_true_eq, decide_eq_false_iff_not, Bool.not_eq_true', Bool.not_eq_false', Bool.and_eq_true, Bool.or_eq_true, Bool.and_eq_false_iff, Bool.or_eq_false_iff, Bool.not_true, Bool.not_false] at hs24
                  refine o_off 97 _ rfl rfl hg23 rfl ?_
                  refine o_off 97 _ rfl rfl hg23 rfl ?_
                  refine o_off 97 _ rfl rfl hg23 rfl ?_
                  refine o_off' 100 rfl rfl rfl ?_
                  refine o_off' 100 rfl rfl rfl ?_
                  refine o_off' 100 rfl rfl rfl ?_
                  refine o_off 97 _ rfl rfl hg23 rfl ?_
                  refine o_off 97 _ rfl rfl hg23 rfl ?_
                  refine o_off' 105 rfl rfl rfl ?_
                  refine o_off' 105 rfl rfl rfl ?_
                  refine o_off' 105 rfl rfl rfl ?_
                  refine o_off' 105 rfl rfl rfl ?_
                  refine o_off' 109 rfl rfl rfl ?_
                  refine o_off' 105 rfl rfl rfl ?_
                  refine o_off 97 _ rfl rfl hg23 rfl ?_
                  refine o_p (p_pickf rfl rfl hg23 rfl) rfl ?_
                  refine o_nil ?_
                  exact s_joinN 16 113 _ rfl rfl rfl (fun w h => by first | exact h | exact h.ent aEt)) ?_
              refine o_nil ?_
              refine s_cond rfl (fun h25 => ?_) (fun h25 => ?_)
              · try simp only [decide_eq_true_eq, decide_eq_false_iff_not, Bool.not_eq_true', Bool.not_eq_false', Bool.and_eq_true, Bool.or_eq_true, Bool.and_eq_false_iff, Bool.or_eq_false_iff, Bool.not_true, Bool.not_false] at h25
                have hhit : (ovl (nth (nth (nth L i).op n).lk m) ⟨fr, cnt, false⟩ && kpW w9 (nth (nth (nth L i).op n).lk m).ex (decide (n ≠ k))) = true := by have hq := h25; have e9 : ((n : Int) = (k : Int)) ↔ n = k := Int.ofNat_inj; unfold kpW; simp only [e9] at hq; first | (simp at hq ⊢; exact hq) | (simp at hq ⊢; grind)
                refine s_seq ?_
                refine s_region ?_
                refine o_p (p_pure rfl) rfl ?_
                refine o_nil ?_
                exact s_retv (rs := [.tmp 10]) rfl (.tmp rfl (.nil)) (fun w' h' => ⟨by rw [mayR, if_pos hz1, mayT, hfe]; simp only [if_true]; rw [if_pos hrg, nth_pls hi, LFil.pl, nth_plo hk]; skip; rw [if_pos hyes2, if_pos (mayB_hit (n := n) (m := m) (by simp; omega) (by rw [nth_plo hnl]; exact hml) (by rw [nth_plo hnl]; exact hhit))]; rfl, h'.below⟩)
              · try simp only [decide_eq_true_eq, decide_eq_false_iff_not, Bool.not_eq_true', Bool.not_eq_false', Bool.and_eq_true, Bool.or_eq_true, Bool.and_eq_false_iff, Bool.or_eq_false_iff, Bool.not_true, Bool.not_false] at h25
                have hmiss : (ovl (nth (nth (nth L i).op n).lk m) ⟨fr, cnt, false⟩ && kpW w9 (nth (nth (nth L i).op n).lk m).ex (decide (n ≠ k))) = false := by have hq := h25; have e9 : ((n : Int) = (k : Int)) ↔ n = k := Int.ofNat_inj; unfold kpW; simp only [e9] at hq; first | (simp at hq ⊢; exact hq) | (simp at hq ⊢; grind)
                refine s_skip ?_
                refine s_blk ?_
                refine s_region ?_
                refine o_p (p_pure rfl) rfl ?_
                refine o_p (p_pure rfl) rfl ?_
                try (refine o_slot (i64w (by omega) (by omega)) ?_)
                refine o_p (p_pure rfl) rfl ?_
                refine o_nil ?_
                exact s_backI (m + 1) (by omega) ⟨by omega, fun m2 h2 => (Nat.lt_or_ge m2 m).elim (hm3 m2) (fun h3 => by obtain rfl : m2 = m := (by omega); exact hmiss)⟩ aSx (fun w h => h.ent aEt)
            · try simp only [decide_eq_true_eq, decide_eq_false_iff_not, Bool.not_eq_true', Bool.not_eq_false', Bool.and_eq_true, Bool.or_eq_true, Bool.and_eq_false_iff, Bool.or_eq_false_iff, Bool.not_true, Bool.not_false] at h7
              refine s_exit_to rfl ?_
              refine s_blk ?_
              refine s_weaken (L' := [(2, _), (3, _), (4, _), (5, _), (13, _), (14, _), (16, _), (17, _), (51, _), (52, _), (53, _), (54, _), (55, _), (56, _), (57, _), (58, _), (59, _)]) aSx (fun _ h => h) ?_
              refine s_region ?_
              refine o_p (p_pure rfl) rfl ?_
              refine o_p (p_pure rfl) rfl ?_
              try (refine o_slot (i64w (by omega) (by omega)) ?_)
              refine o_p (p_pure rfl) rfl ?_
              refine o_nil ?_
              exact s_backI (n + 1) (by omega) ⟨by omega, fun n2 h2 m2 hm2 => (Nat.lt_or_ge n2 n).elim (fun h3 => hn2 n2 h3 m2 hm2) (fun h3 => by obtain rfl : n2 = n := (by omega); exact hm3 m2 (by omega))⟩ aSx (fun w h => h.ent aEt)
          · try simp only [decide_eq_true_eq, decide_eq_false_iff_not, Bool.not_eq_true', Bool.not_eq_false', Bool.and_eq_true, Bool.or_eq_true, Bool.and_eq_false_iff, Bool.or_eq_false_iff, Bool.not_true, Bool.not_false] at h6
            refine s_exit_to rfl ?_
            refine s_seq ?_
            refine s_region ?_
            refine o_p (p_pure rfl) rfl ?_
            refine o_nil ?_
            exact s_retv (rs := [.tmp 10]) rfl (.tmp rfl (.nil)) (fun w' h' => ⟨by rw [mayR, if_pos hz1, mayT, hfe]; simp only [if_true]; rw [if_pos hrg, nth_pls hi, LFil.pl, nth_plo hk]; skip; rw [if_pos hyes2, if_neg (by rw [mayB_no (fun n9 h9 m9 h8 => by rw [List.length_map] at h9; rw [nth_plo h9] at h8 ⊢; exact hn2 n9 (by omega) m9 h8)]; decide)]; rfl, h'.below⟩)

end Go.Proofs

namespace Go.Proofs
open Go Go.RowKit Gx
set_option linter.unusedVariables false
set_option linter.unusedSimpArgs false
attribute [local irreducible] Go.Calls Gx.S Gx.O Gx.D Gx.OpP Gx.OpQ Gx.OpH



theorem lockE_l {L : List LFil} {i k : Nat} {q : Lock} (hi : i < L.length) (hk : k < (nth L i).op.length) : lockE (pls L) i k q = if (hasB (nth (nth L i).op k).ac 1 || hasB (nth (nth L i).op k).ac 2) = true then if (nth (nth L i).op k).lk.length < 16 then if anyK (nth L i).pl q = true then 29 else 0 else 16 else 27 := by
  unfold lockE
  rw [nth_pls hi, LFil.pl, nth_plo hk]
  rfl
theorem lockT_f {L : List Fil} {h : Int} {q : Lock} (hn : ¬ (findF L h 0).2.2 = 0) : (lockT L h q).2 = (findF L h 0).2.2 := by rw [lockT, if_neg hn]
theorem lockT_r {L : List Fil} {h : Int} {q : Lock} (hn : (findF L h 0).2.2 = 0) (h2 : ¬ rngE q.fr q.cnt = 0) : lockT L h q = (L, rngE q.fr q.cnt) := by rw [lockT, if_pos hn, if_neg h2]
theorem lockT_l {L : List Fil} {h : Int} {q : Lock} {i k : Nat} (hfe : findF L h 0 = (i, k, 0)) (h2 : rngE q.fr q.cnt = 0) : lockT L h q = if lockE L i k q = 0 then (updO L i k fun o => { o with lk := o.lk ++ [q] }, 0) else (L, lockE L i k q) := by
  rw [lockT, hfe]
  simp only [if_true]
  rw [if_pos h2]
theorem lockT_x {L : List Fil} {h : Int} {q : Lock} {i k : Nat} {e : Int} (hfe : findF L h 0 = (i, k, 0)) (h2 : rngE q.fr q.cnt = 0) (h3 : lockE L i k q = e) (h4 : ¬ e = 0) : lockT L h q = (L, e) := by rw [lockT_l hfe h2, h3, if_neg h4]
theorem anyK_hit {f : LFil} {q : Lock} {n m : Nat} (hn : n < f.op.length) (hm : m < (nth f.op n).lk.length) (h : clsh q (nth (nth f.op n).lk m) = true) : anyK f.pl q = true := by
  unfold anyK
  rw [List.any_eq_true]
  refine ⟨(nth f.op n).pl, List.mem_map.2 ⟨_, mem_nth hn, rfl⟩, ?_⟩
  rw [List.any_eq_true]
  exact ⟨_, mem_nth hm, by rw [clsh_comm]; exact h⟩
theorem anyK_no {f : LFil} {q : Lock} (h : ∀ n, n < f.op.length → ∀ m, m < (nth f.op n).lk.length → clsh q (nth (nth f.op n).lk m) = false) : anyK f.pl q = false := by
  unfold anyK
  rw [List.any_eq_false]
  intro o ho
  obtain ⟨p, hp, rfl⟩ := List.mem_map.1 ho
  obtain ⟨n, hn, rfl⟩ := mem_nth_ex hp
  rw [Bool.not_eq_true, List.any_eq_false]
  intro x hx
  obtain ⟨m, hm, rfl⟩ := mem_nth_ex hx
  rw [clsh_comm]
  show ¬ clsh q (nth (nth f.op n).lk m) = true
  rw [h n hn m hm]
  decide
theorem same_op {f f' : LFil} {k : Nat} (h : f'.pl = f.pl) (hk : k < f.op.length) : k < f'.op.length ∧ f'.op.length = f.op.length ∧ (nth f'.op k).pl = (nth f.op k).pl := by
  have h1 : plo f'.op = plo f.op := congrArg Fil.op h
  have hl : f'.op.length = f.op.length := by
    have h9 := congrArg List.length h1
    simpa using h9
  refine ⟨by omega, hl, ?_⟩
  rw [← nth_plo (show k < f'.op.length by omega), h1, nth_plo hk]

set_option maxRecDepth 20000 in
set_option maxHeartbeats 1000000 in
theorem c25 (w : World) (next : Int) (a : Option Addr) (cap : Nat) (L : List LFil) (h : Int) (q : Lock) (hs : Ft w [] a L) (hm : L.length ≤ 1000) (hmo : ∀ f ∈ L, f.op.length ≤ 1000) (hml : ∀ f ∈ L, ∀ o ∈ f.op, o.lk.length ≤ 1000) : Calls Try.prog 25 #[.agg #[.int .i64 next, .slice a L.length cap], .int .i64 h, .agg #[.int .i64 q.fr, .int .i64 q.cnt, .bool q.ex]] w fun en w' => ∃ g : (Option Addr × Nat) × List LFil, en = .returned (.tuple #[.agg #[.int .i64 (afT next (pls L) (lockT (pls L) h q)).1.2, .slice g.1.1 g.2.length g.1.2], .int .i64 (afT next (pls L) (lockT (pls L) h q)).2]) ∧ pls g.2 = (afT next (pls L) (lockT (pls L) h q)).1.1 ∧ HS w [] [.files g.1.1 g.1.2 g.2] w' := by
  refine enter (args := [_, _, _]) Try.func25 Try.ntmps25 rfl rfl (HS.refl w []) ?_
  refine s_seq ?_
  refine s_region ?_
  refine o_h (h_box rfl rfl) rfl (fun b1 _ => ?_)
  refine o_h (h_box rfl rfl) rfl (fun b2 _ => ?_)
  refine o_h (h_alloc rfl zr_26) rfl (fun b3 _ => ?_)
  refine o_p (p_pure rfl) rfl ?_
  refine o_nil ?_
  refine s_seq ?_
  refine s_seq ?_
  refine s_region ?_
  refine o_q (q_loadn rfl rfl sz_26 aPk rfl) rfl ?_
  refine o_p (p_pure rfl) rfl ?_
  refine o_q (q_call rfl fn_68 rfl (fun w1 h1 => c68 w1 next a cap L h (hs.later h1) hm hmo)) rfl ?_
  refine o_p (p_pure rfl) rfl ?_
  refine o_nil ?_
  refine s_seq ?_
  refine s_region ?_
  refine o_p (p_pure rfl) rfl ?_
  refine o_p (p_pure rfl) rfl ?_
  refine o_nil ?_
  refine s_cond rfl (fun h4 => ?_) (fun h4 => ?_)
  · try simp only [decide_eq_true_eq, decide_eq_false_iff_not, Bool.not_eq_true', Bool.not_eq_false', Bool.and_eq_true, Bool.or_eq_true, Bool.and_eq_false_iff, Bool.or_eq_false_iff, Bool.not_true, Bool.not_false] at h4
    have hz : ¬ hErr next (pls L) h = 0 := h4
    refine s_seq ?_
    refine s_region ?_
    refine o_p (p_build (cs := [_, _]) rfl rfl pl_26 zr_26 rfl) rfl ?_
    refine o_p (p_pure rfl) rfl ?_
    refine o_h0 (h_store rfl rfl rfl sz_26 rfl aPt (by simp only [setMany_length, List.length_set, List.length_cons, List.length_nil, List.length_map]; omega) rfl) (fun _ _ => ?_)
    refine o_p (p_pure rfl) rfl ?_
    refine o_nil ?_
    exact s_retv (rs := [.cell 6 26, .tmp 7]) rfl (.cell rfl sz_26 aPk rfl (.tmp rfl (.nil))) (fun w' h' => by have hR := afT_h (r := (lockT (pls L) h q)) hz (fun h9 => lockT_f h9); exact ⟨((none, 0), []), by rw [hR]; rfl, by rw [hR]; rfl, (HS.files_none h').ent aEt⟩)
  · try simp only [decide_eq_true_eq, decide_eq_false_iff_not, Bool.not_eq_true', Bool.not_eq_false', Bool.and_eq_true, Bool.or_eq_true, Bool.and_eq_false_iff, Bool.or_eq_false_iff, Bool.not_true, Bool.not_false] at h4
    have hz : hErr next (pls L) h = 0 := h4
    obtain ⟨hz1, hz2⟩ := hErr_0 hz
    have hok := chk_ok hz1
    have hV := hok.vw
    obtain ⟨i, k, hfe, hi, hk, hV3⟩ := findF_some hV hz2
    have hfd : fdI (pls L) h = ((i : Int), (k : Int)) := by rw [fdI, hfe]; rfl
    have hoi := hmo _ (mem_nth hi)
    refine s_skip ?_
    refine s_seq ?_
    refine s_seq ?_
    refine s_region ?_
    refine o_p (p_fieldAddr rfl rfl fd_62_0 sz_3 rfl) rfl ?_
    refine o_q (q_load rfl rfl sz_3 aPk rfl) rfl ?_
    refine o_p (p_fieldAddr rfl rfl fd_62_1 sz_3 rfl) rfl ?_
    refine o_q (q_load rfl rfl sz_3 aPk rfl) rfl ?_
    refine o_q (q_call rfl fn_69 rfl (fun w1 h1 => c69 w1 q.fr q.cnt)) rfl ?_
    refine o_p (p_pure rfl) rfl ?_
    refine o_nil ?_
    refine s_seq ?_
    refine s_region ?_
    refine o_p (p_pure rfl) rfl ?_
    refine o_p (p_pure rfl) rfl ?_
    refine o_nil ?_
    refine s_cond rfl (fun h5 => ?_) (fun h5 => ?_)
    · try simp only [decide_eq_true_eq, decide_eq_false_iff_not, Bool.not_eq_true', Bool.not_eq_false', Bool.and_eq_true, Bool.or_eq_true, Bool.and_eq_false_iff, Bool.or_eq_false_iff, Bool.not_true, Bool.not_false] at h5
      have hrg : ¬ rngE q.fr q.cnt = 0 := h5
      have hlt := lockT_r hz2 hrg
      refine s_seq ?_
      refine s_region ?_
      refine o_p (p_build (cs := [_, _]) rfl rfl pl_26 zr_26 rfl) rfl ?_
      refine o_p (p_pure rfl) rfl ?_
      refine o_h0 (h_store rfl rfl rfl sz_26 rfl aPt (by simp only [setMany_length, List.length_set, List.length_cons, List.length_nil, List.length_map]; omega) rfl) (fun _ _ => ?_)
      refine o_p (p_pure rfl) rfl ?_
      refine o_nil ?_
      exact s_retv (rs := [.cell 6 26, .tmp 7]) rfl (.cell rfl sz_26 aPk rfl (.tmp rfl (.nil))) (fun w' h' => by have hR := afT_e (r := (lockT (pls L) h q)) hz1 (by rw [hlt]; show ¬ (rngE q.fr q.cnt : Int) = 0; exact hrg); exact ⟨((none, 0), []), by rw [hR, hlt]; rfl, by rw [hR, hlt]; rfl, (HS.files_none h').ent aEt⟩)
    · try simp only [decide_eq_true_eq, decide_eq_false_iff_not, Bool.not_eq_true', Bool.not_eq_false', Bool.and_eq_true, Bool.or_eq_true, Bool.and_eq_false_iff, Bool.or_eq_false_iff, Bool.not_true, Bool.not_false] at h5
      have hrg : rngE q.fr q.cnt = 0 := h5
      have hl32 := (VW.lens hV).2 _ (mem_nth hi)
      refine s_skip ?_
      refine s_seq ?_
      refine s_region ?_
      refine o_q (q_loadn rfl rfl sz_26 aPk rfl) rfl ?_
      refine o_p (p_pure rfl) rfl ?_
      refine o_q (q_call rfl fn_70 rfl (fun w1 h1 => c70 w1 next a cap L h (hs.later h1) hm hmo)) rfl ?_
      rw [hfd]
      refine o_p (p_pure rfl) rfl ?_
      refine o_p (p_pure rfl) rfl ?_
      refine o_p (p_pure rfl) rfl ?_
      refine o_p (p_pure rfl) rfl ?_
      refine o_p (p_pure rfl) rfl ?_
      refine o_nil ?_
      refine s_seq ?_
      refine s_region ?_
      refine o_p (p_fieldAddr rfl rfl fd_26_1 sz_24 rfl) rfl ?_
      refine o_q (q_load rfl rfl sz_24 aPk rfl) rfl ?_
      refine o_p (p_pure rfl) rfl ?_
      refine o_p (p_indexAddr rfl rfl rfl sl_24 (i) (by omega) (by omega) (Rw.some hs.1 (by omega))) rfl ?_
      refine o_p (p_fieldAddr rfl rfl fd_77_2 sz_75 rfl) rfl ?_
      refine o_q (q_load_old rfl rfl sz_75 ((hs.1.rdj 3 hi rfl))) rfl ?_
      refine o_p (p_pure rfl) rfl ?_
      refine o_p (p_indexAddr rfl rfl rfl sl_75 (k) (by omega) (by omega) (Rw.some (hs.at hi).1 (by omega))) rfl ?_
      refine o_q (q_load_oldn _ rfl rfl sz_48 rfl (Rw.rd (hs.at hi).1 hk)) rfl ?_
      refine o_h (h_alloc rfl zr_48) rfl (fun b6 _ => ?_)
      refine o_h0 (h_store rfl rfl rfl sz_48 rfl aPt (by simp only [setMany_length, List.length_set, List.length_cons, List.length_nil, List.length_map]; omega) rfl) (fun _ _ => ?_)
      refine o_nil ?_
      refine s_seq ?_
      refine s_seq ?_
      refine s_weaken (L' := [(3, _), (5, _), (6, _), (7, _), (10, _), (11, _), (12, _)]) aSx (fun _ h => h) ?_
      refine s_region ?_
      refine o_p (p_fieldAddr rfl rfl fd_48_1 sz_3 rfl) rfl ?_
      refine o_q (q_load rfl rfl sz_3 aPk rfl) rfl ?_
      refine o_q (q_call rfl fn_71 rfl (fun w1 h1 => c71 w1 _ 1 (by have := openE_r hV3.1; omega) (by omega))) rfl ?_
      refine o_p (p_pure rfl) rfl ?_
      refine o_p (p_pure rfl) rfl ?_
      refine o_and 5 51 56 _ _ rfl
        (by
          intro hg7
          have hs8 := hg7; try simp only [decide_eq_true_eq, decide_eq_false_iff_not, Bool.not_eq_true', Bool.not_eq_false', Bool.and_eq_true, Bool.or_eq_true, Bool.and_eq_false_iff, Bool.or_eq_false_iff, Bool.not_true, Bool.not_false] at hs8
          refine o_on 51 _ rfl rfl hg7 ?_
          refine o_p (p_fieldAddr rfl rfl fd_48_1 sz_3 rfl) rfl ?_
          refine o_on 51 _ rfl rfl hg7 ?_
          refine o_q (q_load rfl rfl sz_3 aPk rfl) rfl ?_
          refine o_on 51 _ rfl rfl hg7 ?_
          refine o_q (q_call rfl fn_71 rfl (fun w1 h1 => c71 w1 _ 2 (by have := openE_r hV3.1; omega) (by omega))) rfl ?_
          refine o_on 51 _ rfl rfl hg7 ?_
          refine o_p (p_pure rfl) rfl ?_
          refine o_p (p_pickt rfl rfl hg7 rfl) rfl ?_
          refine o_nil ?_
          exact s_joinN 5 56 _ rfl rfl rfl (fun w h => by first | exact h | exact h.ent aEt))
        (by
          intro hg9
          have hs10 := hg9; try simp only [decide_eq_true_eq, decide_eq_false_iff_not, Bool.not_eq_true', Bool.not_eq_false', Bool.and_eq_true, Bool.or_eq_true, Bool.and_eq_false_iff, Bool.or_eq_false_iff, Bool.not_true, Bool.not_false] at hs10
          refine o_off 51 _ rfl rfl hg9 rfl ?_
          refine o_off 51 _ rfl rfl hg9 rfl ?_
          refine o_off 51 _ rfl rfl hg9 rfl ?_
          refine o_off 51 _ rfl rfl hg9 rfl ?_
          refine o_p (p_pickf rfl rfl hg9 rfl) rfl ?_
          refine o_nil ?_
          exact s_joinN 5 56 _ rfl rfl rfl (fun w h => by first | exact h | exact h.ent aEt)) ?_
      refine o_nil ?_
      refine s_cond rfl (fun h11 => ?_) (fun h11 => ?_)
      · try simp only [decide_eq_true_eq, decide_eq_false_iff_not, Bool.not_eq_true', Bool.not_eq_false', Bool.and_eq_true, Bool.or_eq_true, Bool.and_eq_false_iff, Bool.or_eq_false_iff, Bool.not_true, Bool.not_false] at h11
        have hno : ¬ (hasB (nth (nth L i).op k).ac 1 || hasB (nth (nth L i).op k).ac 2) = true := by have hq := h11; simp at hq ⊢; exact hq
        have hlt := lockT_x (q := q) (e := 27) hfe hrg (by rw [lockE_l hi hk, if_neg hno]) (by decide)
        refine s_seq ?_
        refine s_region ?_
        refine o_p (p_build (cs := [_, _]) rfl rfl pl_26 zr_26 rfl) rfl ?_
        refine o_h0 (h_store rfl rfl rfl sz_26 rfl aPt (by simp only [setMany_length, List.length_set, List.length_cons, List.length_nil, List.length_map]; omega) rfl) (fun _ _ => ?_)
        refine o_p (p_pure rfl) rfl ?_
        refine o_nil ?_
        exact s_retv (rs := [.cell 6 26, .tmp 7]) rfl (.cell rfl sz_26 aPk rfl (.tmp rfl (.nil))) (fun w' h' => by have hR := afT_e (r := (lockT (pls L) h q)) hz1 (by rw [hlt]; show ¬ (27 : Int) = 0; exact by decide); exact ⟨((none, 0), []), by rw [hR, hlt]; rfl, by rw [hR, hlt]; rfl, (HS.files_none h').ent aEt⟩)
      · try simp only [decide_eq_true_eq, decide_eq_false_iff_not, Bool.not_eq_true', Bool.not_eq_false', Bool.and_eq_true, Bool.or_eq_true, Bool.and_eq_false_iff, Bool.or_eq_false_iff, Bool.not_true, Bool.not_false] at h11
        have hyes : (hasB (nth (nth L i).op k).ac 1 || hasB (nth (nth L i).op k).ac 2) = true := by have hq := h11; simp at hq ⊢; grind
        refine s_skip ?_
        refine s_seq ?_
        refine s_seq ?_
        refine s_region ?_
        refine o_p (p_fieldAddr rfl rfl fd_48_4 sz_46 rfl) rfl ?_
        refine o_q (q_load rfl rfl sz_46 aPk rfl) rfl ?_
        refine o_p (p_len_slice rfl rfl Try.underlying46) rfl ?_
        refine o_p (p_pure rfl) rfl ?_
        refine o_nil ?_
        refine s_cond rfl (fun h12 => ?_) (fun h12 => ?_)
        · try simp only [decide_eq_true_eq, decide_eq_false_iff_not, Bool.not_eq_true', Bool.not_eq_false', Bool.and_eq_true, Bool.or_eq_true, Bool.and_eq_false_iff, Bool.or_eq_false_iff, Bool.not_true, Bool.not_false] at h12
          have hfull : ¬ (nth (nth L i).op k).lk.length < 16 := by have hq := h12; omega
          have hlt := lockT_x (q := q) (e := 16) hfe hrg (by rw [lockE_l hi hk, if_pos hyes, if_neg hfull]) (by decide)
          refine s_seq ?_
          refine s_region ?_
          refine o_p (p_build (cs := [_, _]) rfl rfl pl_26 zr_26 rfl) rfl ?_
          refine o_h0 (h_store rfl rfl rfl sz_26 rfl aPt (by simp only [setMany_length, List.length_set, List.length_cons, List.length_nil, List.length_map]; omega) rfl) (fun _ _ => ?_)
          refine o_p (p_pure rfl) rfl ?_
          refine o_nil ?_
          exact s_retv (rs := [.cell 6 26, .tmp 7]) rfl (.cell rfl sz_26 aPk rfl (.tmp rfl (.nil))) (fun w' h' => by have hR := afT_e (r := (lockT (pls L) h q)) hz1 (by rw [hlt]; show ¬ (16 : Int) = 0; exact by decide); exact ⟨((none, 0), []), by rw [hR, hlt]; rfl, by rw [hR, hlt]; rfl, (HS.files_none h').ent aEt⟩)
        · try simp only [decide_eq_true_eq, decide_eq_false_iff_not, Bool.not_eq_true', Bool.not_eq_false', Bool.and_eq_true, Bool.or_eq_true, Bool.and_eq_false_iff, Bool.or_eq_false_iff, Bool.not_true, Bool.not_false] at h12
          have hroom : (nth (nth L i).op k).lk.length < 16 := by have hq := h12; have := hV3.2.2; omega
          refine s_skip ?_
          refine s_seq ?_
          refine s_seq ?_
          refine s_region ?_
          refine o_p (p_pure rfl) rfl ?_
          refine o_nil ?_
          refine s_block ?_
          refine s_weaken (L' := [(3, _), (5, _), (6, _), (7, _), (10, _), (11, _), (13, _)]) aSx (fun _ h => h) ?_
          refine s_loopI (α := Nat) [7, 13, 14, 63, 64, 65, 66, 67, 68, 69, 70, 71, 72, 73, 74, 75, 76, 77, 78, 79, 80, 81, 82, 83, 84, 85, 86, 87, 88, 89, 90, 91, 92, 93, 94, 95, 96, 97, 98, 99, 100, 101, 102, 103, 104] (fun n => [(13, .int .i64 (n : Int))]) (fun _ => HS w [] [.blk b1 26 2 [.int .i64 next, .slice a L.length cap], .blk b2 62 3 q.vals, .blk b3 26 2 [.int .i64 0, .slice none 0 0]]) (fun n => n ≤ (nth L i).op.length ∧ ∀ n2, n2 < n → ∀ m2, m2 < (nth (nth L i).op n2).lk.length → clsh q (nth (nth (nth L i).op n2).lk m2) = false) (fun n => (nth L i).op.length - n) 0 ⟨by omega, fun n2 h2 => absurd h2 (Nat.not_lt_zero n2)⟩ aSx (fun w h => h.ent aEt) (fun n hn => ?_)
          obtain ⟨hn1, hn2⟩ := hn
          refine s_seq ?_
          refine s_seq ?_
          refine s_region ?_
          refine o_p (p_pure rfl) rfl ?_
          refine o_p (p_fieldAddr rfl rfl fd_26_1 sz_24 rfl) rfl ?_
          refine o_q (q_load rfl rfl sz_24 aPk rfl) rfl ?_
          refine o_p (p_pure rfl) rfl ?_
          refine o_p (p_indexAddr rfl rfl rfl sl_24 (i) (by omega) (by omega) (Rw.some hs.1 (by omega))) rfl ?_
          refine o_p (p_fieldAddr rfl rfl fd_77_2 sz_75 rfl) rfl ?_
          refine o_q (q_load_old rfl rfl sz_75 ((hs.1.rdj 3 hi rfl))) rfl ?_
          refine o_p (p_len_slice rfl rfl Try.underlying75) rfl ?_
          refine o_p (p_pure rfl) rfl ?_
          refine o_nil ?_
          refine s_cond rfl (fun h13 => ?_) (fun h13 => ?_)
          · try simp only [decide_eq_true_eq, decide_eq_false_iff_not, Bool.not_eq_true', Bool.not_eq_false', Bool.and_eq_true, Bool.or_eq_true, Bool.and_eq_false_iff, Bool.or_eq_false_iff, Bool.not_true, Bool.not_false] at h13
            have hnl : n < (nth L i).op.length := by omega
            have hv9 := VW.at hV hi hnl
            refine s_skip ?_
            refine s_seq ?_
            refine s_block ?_
            refine s_seq ?_
            refine s_region ?_
            refine o_p (p_pure rfl) rfl ?_
            refine o_nil ?_
            refine s_block ?_
            refine s_loopI (α := Nat) [7, 14, 74, 75, 76, 77, 78, 79, 80, 81, 82, 83, 84, 85, 86, 87, 88, 89, 90, 91, 92, 93, 94, 95, 96, 97, 98, 99, 100, 101, 102, 103, 104] (fun m => [(14, .int .i64 (m : Int))]) (fun _ => HS w [] [.blk b1 26 2 [.int .i64 next, .slice a L.length cap], .blk b2 62 3 q.vals, .blk b3 26 2 [.int .i64 0, .slice none 0 0]]) (fun m => m ≤ (nth (nth L i).op n).lk.length ∧ ∀ m2, m2 < m → clsh q (nth (nth (nth L i).op n).lk m2) = false) (fun m => (nth (nth L i).op n).lk.length - m) 0 ⟨by omega, fun n2 h2 => absurd h2 (Nat.not_lt_zero n2)⟩ aSx (fun w h => h.ent aEt) (fun m hm => ?_)
            obtain ⟨hm1, hm3⟩ := hm
            refine s_seq ?_
            refine s_seq ?_
            refine s_region ?_
            refine o_p (p_pure rfl) rfl ?_
            refine o_p (p_fieldAddr rfl rfl fd_26_1 sz_24 rfl) rfl ?_
            refine o_q (q_load rfl rfl sz_24 aPk rfl) rfl ?_
            refine o_p (p_pure rfl) rfl ?_
            refine o_p (p_indexAddr rfl rfl rfl sl_24 (i) (by omega) (by omega) (Rw.some hs.1 (by omega))) rfl ?_
            refine o_p (p_fieldAddr rfl rfl fd_77_2 sz_75 rfl) rfl ?_
            refine o_q (q_load_old rfl rfl sz_75 ((hs.1.rdj 3 hi rfl))) rfl ?_
            refine o_p (p_pure rfl) rfl ?_
            refine o_p (p_indexAddr rfl rfl rfl sl_75 (n) (by omega) (by omega) (Rw.some (hs.at hi).1 (by omega))) rfl ?_
            refine o_p (p_fieldAddr rfl rfl fd_48_4 sz_46 rfl) rfl ?_
            refine o_q (q_load_old rfl rfl sz_46 (((hs.at hi).1.rdj 4 hnl rfl))) rfl ?_
            refine o_p (p_len_slice rfl rfl Try.underlying46) rfl ?_
            refine o_p (p_pure rfl) rfl ?_
            refine o_nil ?_
            refine s_cond rfl (fun h14 => ?_) (fun h14 => ?_)
            · try simp only [decide_eq_true_eq, decide_eq_false_iff_not, Bool.not_eq_true', Bool.not_eq_false', Bool.and_eq_true, Bool.or_eq_true, Bool.and_eq_false_iff, Bool.or_eq_false_iff, Bool.not_true, Bool.not_false] at h14
              have hml : m < (nth (nth L i).op n).lk.length := by omega
              refine s_skip ?_
              refine s_seq ?_
              refine s_block ?_
              refine s_seq ?_
              refine s_draw [] mixed ?_
              refine d_q 0 [] rfl (q_loadn rfl rfl sz_62 aPk rfl) (by kernel_rfl) (by kernel_rfl) (by kernel_rfl) rfl ?_
              refine d_p 1 rfl (p_fieldAddr rfl rfl fd_26_1 sz_24 rfl) (by kernel_rfl) rfl rfl ?_
              refine d_q 2 [] rfl (q_load rfl rfl sz_24 aPk rfl) (by kernel_rfl) (by kernel_rfl) (by kernel_rfl) rfl ?_
              refine d_p 3 rfl (p_pure rfl) (by kernel_rfl) rfl rfl ?_
              refine d_p 4 rfl (p_indexAddr rfl rfl rfl sl_24 (i) (by omega) (by omega) (Rw.some hs.1 (by omega))) (by kernel_rfl) rfl rfl ?_
              refine d_p 5 rfl (p_fieldAddr rfl rfl fd_77_2 sz_75 rfl) (by kernel_rfl) rfl rfl ?_
              refine d_q 6 [] rfl (q_load_old rfl rfl sz_75 ((hs.1.rdj 3 hi rfl))) (by kernel_rfl) (by kernel_rfl) (by kernel_rfl) rfl ?_
              refine d_p 7 rfl (p_pure rfl) (by kernel_rfl) rfl rfl ?_
              refine d_p 8 rfl (p_indexAddr rfl rfl rfl sl_75 (n) (by omega) (by omega) (Rw.some (hs.at hi).1 (by omega))) (by kernel_rfl) rfl rfl ?_
              refine d_p 9 rfl (p_fieldAddr rfl rfl fd_48_4 sz_46 rfl) (by kernel_rfl) rfl rfl ?_
              refine d_q 10 [] rfl (q_load_old rfl rfl sz_46 (((hs.at hi).1.rdj 4 hnl rfl))) (by kernel_rfl) (by kernel_rfl) (by kernel_rfl) rfl ?_
              refine d_p 11 rfl (p_pure rfl) (by kernel_rfl) rfl rfl ?_
              refine d_p 12 rfl (p_indexAddr rfl rfl rfl sl_46 (m) (by omega) (by omega) (Rw.some ((hs.at hi).at hnl) (by omega))) (by kernel_rfl) rfl rfl ?_
              refine d_q 13 [] rfl (q_load_oldn _ rfl rfl sz_62 rfl (Rw.rd ((hs.at hi).at hnl) hml)) (by kernel_rfl) (by kernel_rfl) (by kernel_rfl) rfl ?_
              refine d_q 14 [] rfl (q_call rfl fn_72 rfl (fun w1 h1 => c72 w1 q _ hrg (okL_nth hv9.2.1 hml))) (by kernel_rfl) (by kernel_rfl) (by kernel_rfl) rfl ?_
              refine d_nil (by kernel_rfl) (fun w h => h.ent aEt) ?_
              refine s_cond rfl (fun h15 => ?_) (fun h15 => ?_)
              · try simp only [decide_eq_true_eq, decide_eq_false_iff_not, Bool.not_eq_true', Bool.not_eq_false', Bool.and_eq_true, Bool.or_eq_true, Bool.and_eq_false_iff, Bool.or_eq_false_iff, Bool.not_true, Bool.not_false] at h15
                have hhit := anyK_hit hnl hml h15
                have hlt := lockT_x (q := q) (e := 29) hfe hrg (by rw [lockE_l hi hk, if_pos hyes, if_pos hroom, if_pos hhit]) (by decide)
                refine s_seq ?_
                refine s_weaken (L' := [(3, _), (5, _), (6, _), (10, _), (11, _), (13, _), (14, _), (63, _), (64, _), (65, _), (66, _), (67, _), (68, _), (69, _), (70, _), (71, _)]) aSx (fun _ h => h) ?_
                refine s_region ?_
                refine o_p (p_build (cs := [_, _]) rfl rfl pl_26 zr_26 rfl) rfl ?_
                refine o_h0 (h_store rfl rfl rfl sz_26 rfl aPt (by simp only [setMany_length, List.length_set, List.length_cons, List.length_nil, List.length_map]; omega) rfl) (fun _ _ => ?_)
                refine o_p (p_pure rfl) rfl ?_
                refine o_nil ?_
                exact s_retv (rs := [.cell 6 26, .tmp 7]) rfl (.cell rfl sz_26 aPk rfl (.tmp rfl (.nil))) (fun w' h' => by have hR := afT_e (r := (lockT (pls L) h q)) hz1 (by rw [hlt]; show ¬ (29 : Int) = 0; exact by decide); exact ⟨((none, 0), []), by rw [hR, hlt]; rfl, by rw [hR, hlt]; rfl, (HS.files_none h').ent aEt⟩)
              · try simp only [decide_eq_true_eq, decide_eq_false_iff_not, Bool.not_eq_true', Bool.not_eq_false', Bool.and_eq_true, Bool.or_eq_true, Bool.and_eq_false_iff, Bool.or_eq_false_iff, Bool.not_true, Bool.not_false] at h15
                have hmiss : clsh q (nth (nth (nth L i).op n).lk m) = false := by have hq := h15; simpa using hq
                refine s_skip ?_
                refine s_blk ?_
                refine s_weaken (L' := [(3, _), (5, _), (6, _), (10, _), (11, _), (13, _), (14, _), (63, _), (64, _), (65, _), (66, _), (67, _), (68, _), (69, _), (70, _), (71, _)]) aSx (fun _ h => h) ?_
                refine s_region ?_
                refine o_p (p_pure rfl) rfl ?_
                refine o_p (p_pure rfl) rfl ?_
                try (refine o_slot (i64w (by omega) (by omega)) ?_)
                refine o_p (p_pure rfl) rfl ?_
                refine o_nil ?_
                exact s_backI (m + 1) (by omega) ⟨by omega, fun m2 h2 => (Nat.lt_or_ge m2 m).elim (hm3 m2) (fun h3 => by have e9 : m2 = m := (by omega); rw [e9]; exact hmiss)⟩ aSx (fun w h => h.ent aEt)
            · try simp only [decide_eq_true_eq, decide_eq_false_iff_not, Bool.not_eq_true', Bool.not_eq_false', Bool.and_eq_true, Bool.or_eq_true, Bool.and_eq_false_iff, Bool.or_eq_false_iff, Bool.not_true, Bool.not_false] at h14
              refine s_exit_to rfl ?_
              refine s_blk ?_
              refine s_region ?_
              refine o_p (p_pure rfl) rfl ?_
              refine o_p (p_pure rfl) rfl ?_
              try (refine o_slot (i64w (by omega) (by omega)) ?_)
              refine o_p (p_pure rfl) rfl ?_
              refine o_nil ?_
              exact s_backI (n + 1) (by omega) ⟨by omega, fun n2 h2 m2 p2 => (Nat.lt_or_ge n2 n).elim (fun h3 => hn2 n2 h3 m2 p2) (fun h3 => by have e9 : n2 = n := (by omega); rw [e9] at p2 ⊢; exact hm3 m2 (by omega))⟩ aSx (fun w h => h.ent aEt)
          · try simp only [decide_eq_true_eq, decide_eq_false_iff_not, Bool.not_eq_true', Bool.not_eq_false', Bool.and_eq_true, Bool.or_eq_true, Bool.and_eq_false_iff, Bool.or_eq_false_iff, Bool.not_true, Bool.not_false] at h13
            have hnone := anyK_no (f := nth L i) (q := q) (fun n2 p1 m2 p2 => hn2 n2 (by omega) m2 p2)
            have hle : lockE (pls L) i k q = 0 := by rw [lockE_l hi hk, if_pos hyes, if_pos hroom, hnone]; rfl
            have hlt : lockT (pls L) h q = (updO (pls L) i k fun o => { o with lk := o.lk ++ [q] }, 0) := by rw [lockT_l hfe hrg, if_pos hle]
            refine s_exit_to rfl ?_
            refine s_seq ?_
            refine s_region ?_
            refine o_q (q_loadn rfl rfl sz_26 aPk rfl) rfl ?_
            refine o_h (h_call rfl fn_19 rfl (fun w1 h1 => c19 w1 next a cap L (hs.later h1) hm hmo hml)) rfl (fun ⟨⟨ca, cc⟩, N⟩ hgc => ?_)
            dsimp only at hgc ⊢
            obtain ⟨hiN, hpN⟩ := same_nth hgc hi
            obtain ⟨hkN, hoN, hqN⟩ := same_op hpN hk
            have hlN : (nth (nth N i).op k).lk = (nth (nth L i).op k).lk := congrArg Opn.lk hqN
            refine o_h (h_alloc rfl zr_26) rfl (fun b16 _ => ?_)
            refine o_fact (fun w h => files_addr (l := N) (a := ca) (cap := cc) (by omega) h aPk) (fun hga => ?_)
            obtain ⟨ga, rfl, hcap, hcm⟩ := hga
            refine o_fact (fun w h => file_addr (l := N) (i := i) hiN (by omega) h aPk) (fun hgo => ?_)
            obtain ⟨go, hoa, hoc, hom⟩ := hgo
            refine o_class (fun w h => HS.lock_at hiN hkN hoa h aPk) ?_
            refine o_h0 (h_store rfl rfl rfl sz_26 rfl aPt (by simp only [setMany_length, List.length_set, List.length_cons, List.length_nil, List.length_map]; omega) rfl) (fun _ _ => ?_)
            refine o_nil ?_
            refine s_seq ?_
            refine s_drawB [.blk go 48 ((nth N i).oc * 5) ((nth N i).op.flatMap LOpn.vals), .blk ga 77 (cc * 4) (N.flatMap LFil.vals), .star ((others (nth N i).op k).map subO), .star ((others N i).map subF), .blk b16 26 2 [.int .i64 next, .slice (some ⟨ga, 0, none⟩) N.length cc], .blk b2 62 3 q.vals, .blk b3 26 2 [.int .i64 0, .slice none 0 0]] [22] mixed ?_
            refine d_p 0 rfl (p_fieldAddr rfl rfl fd_26_1 sz_24 rfl) (by kernel_rfl) rfl rfl ?_
            refine d_q 1 [[]] rfl (q_load rfl rfl sz_24 aPk rfl) (by kernel_rfl) (by kernel_rfl) (by kernel_rfl) rfl ?_
            refine d_p 2 rfl (p_pure rfl) (by kernel_rfl) rfl rfl ?_
            refine d_p 3 rfl (p_indexAddr rfl rfl rfl sl_24 (i) (by omega) (by omega) rfl) (by kernel_rfl) rfl rfl ?_
            refine d_slot (show _ = Value.pointer (some ⟨ga, i * 4, none⟩) from by rw [Nat.zero_add]) ?_
            refine d_p 4 rfl (p_fieldAddr rfl rfl fd_77_2 sz_75 rfl) (by kernel_rfl) rfl rfl ?_
            refine d_q 5 [[]] rfl (q_load_at rfl rfl sz_75 (fun w h => (h.rd_blk (Mc := []) (b := ga) aPk (by rw [flat_get fv4 _ i 3 _ (nth_get hiN) (by decide)]; rfl) (by simp)))) (by kernel_rfl) (by kernel_rfl) (by kernel_rfl) rfl ?_
            refine d_p 6 rfl (p_pure rfl) (by kernel_rfl) rfl rfl ?_
            refine d_p 7 rfl (p_fieldAddr rfl rfl fd_26_1 sz_24 rfl) (by kernel_rfl) rfl rfl ?_
            refine d_q 8 [[]] rfl (q_load rfl rfl sz_24 aPk rfl) (by kernel_rfl) (by kernel_rfl) (by kernel_rfl) rfl ?_
            refine d_p 9 rfl (p_pure rfl) (by kernel_rfl) rfl rfl ?_
            refine d_p 10 rfl (p_indexAddr rfl rfl rfl sl_24 (i) (by omega) (by omega) rfl) (by kernel_rfl) rfl rfl ?_
            refine d_slot (show _ = Value.pointer (some ⟨ga, i * 4, none⟩) from by rw [Nat.zero_add]) ?_
            refine d_p 11 rfl (p_fieldAddr rfl rfl fd_77_2 sz_75 rfl) (by kernel_rfl) rfl rfl ?_
            refine d_q 12 [[]] rfl (q_load_at rfl rfl sz_75 (fun w h => (h.rd_blk (Mc := []) (b := ga) aPk (by rw [flat_get fv4 _ i 3 _ (nth_get hiN) (by decide)]; rfl) (by simp)))) (by kernel_rfl) (by kernel_rfl) (by kernel_rfl) rfl ?_
            refine d_p 13 rfl (p_pure rfl) (by kernel_rfl) rfl rfl ?_
            refine d_p 14 rfl (p_indexAddr rfl rfl rfl sl_75 (k) (by omega) (by omega) hoa) (by kernel_rfl) rfl rfl ?_
            refine d_slot (show _ = Value.pointer (some ⟨go, k * 5, none⟩) from by rw [Nat.zero_add]) ?_
            refine d_p 15 rfl (p_fieldAddr rfl rfl fd_48_4 sz_46 rfl) (by kernel_rfl) rfl rfl ?_
            refine d_q 16 [[]] rfl (q_load_at rfl rfl sz_46 (fun w h => (h.rd_blk (Mc := []) (b := go) aPk (by rw [flat_get ov5 _ k 4 _ (nth_get hkN) (by decide)]; rfl) (by simp)))) (by kernel_rfl) (by kernel_rfl) (by kernel_rfl) rfl ?_
            refine d_q 17 [[]] rfl (q_loadn rfl rfl sz_62 aPk rfl) (by kernel_rfl) (by kernel_rfl) (by kernel_rfl) rfl ?_
            refine d_h 18 rfl (h_buildSlice (cs := [_, _, _]) rfl rfl sl_46 zr_62 rfl rfl rfl) (by kernel_rfl) (fun w h => h.ent aEt) rfl (fun b17 _ => ?_)
            refine d_h 19 rfl (h_appendS (n := (nth (nth N i).op k).lk.length) q.vals rfl rfl rfl sl_46 Try.underlying46 zr_62 rfl aPk (src_blk aPk) rfl (lv1 q) (by rw [hlN]; omega) (by simp only [maxLen]; rw [hlN]; omega)) (by kernel_rfl) (fun w h => h.ent aEt) rfl (fun b18 _ => ?_)
            refine d_p 20 rfl (p_indexAddr rfl rfl rfl sl_75 (k) (by omega) (by omega) hoa) (by kernel_rfl) rfl rfl ?_
            refine d_slot (show _ = Value.pointer (some ⟨go, k * 5, none⟩) from by rw [Nat.zero_add]) ?_
            refine d_p 21 rfl (p_fieldAddr rfl rfl fd_48_4 sz_46 rfl) (by kernel_rfl) rfl rfl ?_
            refine d_h0 22 rfl (h_store rfl rfl rfl sz_46 rfl aPt (by rw [flat_length ov5]; omega) rfl) (by kernel_rfl) (fun w h => h.ent aEt) (fun _ _ => ?_)
            refine d_turn [] (by kernel_rfl) ?_
            refine d_nil (by kernel_rfl) (fun w h => h.ent aEt) ?_
            refine s_seq ?_
            refine s_weaken (L' := [(3, _), (5, _), (6, _), (10, _), (11, _), (13, _), (15, _)]) aSx (fun _ h => h) ?_
            refine s_region ?_
            refine o_q (q_loadn rfl rfl sz_26 aPk rfl) rfl ?_
            refine o_h0 (h_store rfl rfl rfl sz_26 rfl aPt (by simp only [setMany_length, List.length_set, List.length_cons, List.length_nil, List.length_map]; omega) rfl) (fun _ _ => ?_)
            refine o_p (p_pure rfl) rfl ?_
            refine o_nil ?_
            exact s_retv (rs := [.cell 6 26, .tmp 7]) rfl (.cell rfl sz_26 aPk rfl (.tmp rfl (.nil))) (fun w' h' => by have hR := afT_0 (r := (lockT (pls L) h q)) hz1 (by rw [hlt]); exact ⟨((some ⟨ga, 0, none⟩, cc), N.set i { nth N i with op := (nth N i).op.set k { (nth (nth N i).op k) with la := b18.1, lc := b18.2, lk := (nth (nth N i).op k).lk ++ [q] } }), by rw [hR, List.length_set]; rfl, by rw [hR, hlt]; have h7 := upd_lk (o := { (nth (nth N i).op k) with la := b18.1, lc := b18.2, lk := (nth (nth N i).op k).lk ++ [q] }) (u := fun o => { o with lk := o.lk ++ [q] }) hiN hkN rfl; rw [hgc] at h7; exact h7, HS.lock_put (o := { (nth (nth N i).op k) with la := b18.1, lc := b18.2, lk := (nth (nth N i).op k).lk ++ [q] }) hiN hkN hoa (h'.ent (Bs := [.blk go 48 ((nth N i).oc * 5) _, .own (.slice b18.1 ((nth (nth N i).op k).lk.length + 1) b18.2) 62 3 ((nth (nth N i).op k).lk.length + 1) ((nth (nth N i).op k).lk.flatMap Lock.vals ++ q.vals), .star ((others (nth N i).op k).map subO), .blk ga 77 (cc * 4) (N.flatMap LFil.vals), .star ((others N i).map subF)]) aEt |> fun hh => by simpa [HA.locks, List.flatMap_append] using hh) (flat_set ov5 (nth N i).op k 4 [.slice b18.1 ((nth (nth N i).op k).lk.length + 1) b18.2] (nth (nth N i).op k) _ (nth_get hkN) (by simp [LOpn.vals, setMany]) (by simp)) hoc hom hcap hcm⟩)

end Go.Proofs

namespace Go.Proofs
open Go Go.RowKit Gx
set_option linter.unusedVariables false
set_option linter.unusedSimpArgs false
attribute [local irreducible] Go.Calls Gx.S Gx.O Gx.D Gx.OpP Gx.OpQ Gx.OpH



theorem unlockT_f {L : List Fil} {h fr cnt : Int} (hn : ¬ (findF L h 0).2.2 = 0) : (unlockT L h fr cnt).2 = (findF L h 0).2.2 := by rw [unlockT, if_neg hn]
theorem unlockT_r {L : List Fil} {h fr cnt : Int} (hn : (findF L h 0).2.2 = 0) (h2 : ¬ rngE fr cnt = 0) : unlockT L h fr cnt = (L, rngE fr cnt) := by rw [unlockT, if_pos hn, if_neg h2]
theorem unlockT_l {L : List Fil} {h fr cnt : Int} {i k : Nat} (hfe : findF L h 0 = (i, k, 0)) (h2 : rngE fr cnt = 0) : unlockT L h fr cnt = if ixB ((nth (nth L i).op k).lk.map (eqK fr cnt)) < (nth (nth L i).op k).lk.length then (updO L i k fun o => { o with lk := others o.lk (ixB (o.lk.map (eqK fr cnt))) }, 0) else (L, 6) := by
  rw [unlockT, hfe]
  simp only [if_true]
  rw [if_pos h2]

end Go.Proofs

namespace Go.Proofs
open Go Go.RowKit Gx
set_option linter.unusedVariables false
set_option linter.unusedSimpArgs false
attribute [local irreducible] Go.Calls Gx.S Gx.O Gx.D Gx.OpP Gx.OpQ Gx.OpH

theorem eqk_62 : teqk Try.prog 62 = some [0, 0, 2] := by kernel_rfl


theorem same_len {L L2 : List LFil} (h : pls L2 = pls L) : L2.length = L.length := by
  have h9 := congrArg List.length h
  simpa using h9

set_option maxRecDepth 20000 in
set_option maxHeartbeats 1000000 in
theorem c14 (w : World) (next : Int) (a b : Option Addr) (cap cap2 : Nat) (L L2 : List LFil) (hs : Ft w [] a L) (ht : Ft w [] b L2) (he : pls L2 = pls L) (hm : L.length ≤ 1000) (hmo : ∀ f ∈ L, f.op.length ≤ 1000) (hml : ∀ f ∈ L, ∀ o ∈ f.op, o.lk.length ≤ 1000) : Calls Try.prog 14 #[.agg #[.int .i64 next, .slice a L.length cap], .agg #[.int .i64 next, .slice b L2.length cap2]] w fun en w' => en = .returned (.bool true) ∧ Below w.heap.size w w' := by
  have hll := same_len he
  refine enter (args := [_, _]) Try.func14 Try.ntmps14 rfl rfl (HS.refl w []) ?_
  refine s_seq ?_
  refine s_region ?_
  refine o_h (h_box rfl rfl) rfl (fun b1 _ => ?_)
  refine o_h (h_box rfl rfl) rfl (fun b2 _ => ?_)
  refine o_p (p_pure rfl) rfl ?_
  refine o_nil ?_
  refine s_seq ?_
  refine s_seq ?_
  refine s_region ?_
  refine o_p (p_fieldAddr rfl rfl fd_26_0 sz_3 rfl) rfl ?_
  refine o_q (q_load rfl rfl sz_3 aPk rfl) rfl ?_
  refine o_p (p_fieldAddr rfl rfl fd_26_0 sz_3 rfl) rfl ?_
  refine o_q (q_load rfl rfl sz_3 aPk rfl) rfl ?_
  refine o_p (p_pure rfl) rfl ?_
  refine o_p (p_pure rfl) rfl ?_
  refine o_or 8 17 25 _ _ rfl
    (by
      intro hg3
      have hs4 := hg3; try simp only [decide_eq_true_eq, decide_eq_false_iff_not, Bool.not_eq_true', Bool.not_eq_false', Bool.and_eq_true, Bool.or_eq_true, Bool.and_eq_false_iff, Bool.or_eq_false_iff, Bool.not_true, Bool.not_false] at hs4
      refine o_on 17 _ rfl rfl hg3 ?_
      refine o_p (p_fieldAddr rfl rfl fd_26_1 sz_24 rfl) rfl ?_
      refine o_on 17 _ rfl rfl hg3 ?_
      refine o_q (q_load rfl rfl sz_24 aPk rfl) rfl ?_
      refine o_on 17 _ rfl rfl hg3 ?_
      refine o_p (p_len_slice rfl rfl Try.underlying24) rfl ?_
      refine o_on 17 _ rfl rfl hg3 ?_
      refine o_p (p_fieldAddr rfl rfl fd_26_1 sz_24 rfl) rfl ?_
      refine o_on 17 _ rfl rfl hg3 ?_
      refine o_q (q_load rfl rfl sz_24 aPk rfl) rfl ?_
      refine o_on 17 _ rfl rfl hg3 ?_
      refine o_p (p_len_slice rfl rfl Try.underlying24) rfl ?_
      refine o_on 17 _ rfl rfl hg3 ?_
      refine o_p (p_pure rfl) rfl ?_
      refine o_p (p_pickf rfl rfl hg3 rfl) rfl ?_
      refine o_nil ?_
      exact s_joinN 8 25 _ rfl rfl rfl (fun w h => by first | exact h | exact h.ent aEt))
    (by
      intro hg5
      have hs6 := hg5; try simp only [decide_eq_true_eq, decide_eq_false_iff_not, Bool.not_eq_true', Bool.not_eq_false', Bool.and_eq_true, Bool.or_eq_true, Bool.and_eq_false_iff, Bool.or_eq_false_iff, Bool.not_true, Bool.not_false] at hs6
      refine o_off 17 _ rfl rfl hg5 rfl ?_
      refine o_off 17 _ rfl rfl hg5 rfl ?_
      refine o_off 17 _ rfl rfl hg5 rfl ?_
      refine o_off 17 _ rfl rfl hg5 rfl ?_
      refine o_off 17 _ rfl rfl hg5 rfl ?_
      refine o_off 17 _ rfl rfl hg5 rfl ?_
      refine o_off 17 _ rfl rfl hg5 rfl ?_
      refine o_p (p_pickt rfl rfl hg5 rfl) rfl ?_
      refine o_nil ?_
      exact s_joinN 8 25 _ rfl rfl rfl (fun w h => by first | exact h | exact h.ent aEt)) ?_
  refine o_nil ?_
  refine s_cond rfl (fun h7 => ?_) (fun h7 => ?_)
  · try simp only [decide_eq_true_eq, decide_eq_false_iff_not, Bool.not_eq_true', Bool.not_eq_false', Bool.and_eq_true, Bool.or_eq_true, Bool.and_eq_false_iff, Bool.or_eq_false_iff, Bool.not_true, Bool.not_false] at h7
    exfalso; have hq9 := h7; simp [hll] at hq9
  · try simp only [decide_eq_true_eq, decide_eq_false_iff_not, Bool.not_eq_true', Bool.not_eq_false', Bool.and_eq_true, Bool.or_eq_true, Bool.and_eq_false_iff, Bool.or_eq_false_iff, Bool.not_true, Bool.not_false] at h7
    refine s_skip ?_
    refine s_seq ?_
    refine s_seq ?_
    refine s_region ?_
    refine o_p (p_pure rfl) rfl ?_
    refine o_nil ?_
    refine s_block ?_
    refine s_loopI (α := Nat) [4, 5, 6, 7, 8, 9, 10, 11, 26, 27, 28, 29, 30, 31, 32, 33, 34, 35, 36, 37, 38, 39, 40, 41, 42, 43, 44, 45, 46, 47, 48, 49, 50, 51, 52, 53, 54, 55, 56, 57, 58, 59, 60, 61, 62, 63, 64, 65, 66, 67, 68, 69, 70, 71, 72, 73, 74, 75, 76, 77, 78, 79, 80, 81, 82, 83, 84, 85, 86, 87, 88, 89, 90, 91, 92, 93, 94, 95, 96, 97, 98, 99, 100, 101, 102, 103, 104, 105, 106, 107, 108, 109, 110, 111, 112, 113, 114, 115, 116, 117, 118, 119, 120, 121, 122, 123, 124, 125, 126, 127, 128, 129, 130, 131, 132, 133] (fun i => [(5, .int .i64 (i : Int))]) (fun _ => HS w [] [.blk b1 26 2 [.int .i64 next, .slice a L.length cap], .blk b2 26 2 [.int .i64 next, .slice b L2.length cap2]]) (fun i => i ≤ L.length) (fun i => L.length - i) 0 (Nat.zero_le _) aSx (fun w h => h.ent aEt) (fun i hi1 => ?_)
    refine s_seq ?_
    refine s_seq ?_
    refine s_region ?_
    refine o_p (p_pure rfl) rfl ?_
    refine o_p (p_fieldAddr rfl rfl fd_26_1 sz_24 rfl) rfl ?_
    refine o_q (q_load rfl rfl sz_24 aPk rfl) rfl ?_
    refine o_p (p_len_slice rfl rfl Try.underlying24) rfl ?_
    refine o_p (p_pure rfl) rfl ?_
    refine o_nil ?_
    refine s_cond rfl (fun h8 => ?_) (fun h8 => ?_)
    · try simp only [decide_eq_true_eq, decide_eq_false_iff_not, Bool.not_eq_true', Bool.not_eq_false', Bool.and_eq_true, Bool.or_eq_true, Bool.and_eq_false_iff, Bool.or_eq_false_iff, Bool.not_true, Bool.not_false] at h8
      have hi : i < L.length := by omega
      have hi2 : i < L2.length := by omega
      have hoi := hmo _ (mem_nth hi)
      have hp := (same_nth he hi).2
      have e1 : (nth L2 i).rc = (nth L i).rc := congrArg Fil.rc hp
      have e2 : (nth L2 i).sq = (nth L i).sq := congrArg Fil.sq hp
      have e3 : (nth L2 i).pd = (nth L i).pd := congrArg Fil.pd hp
      have e4 : (nth L2 i).op.length = (nth L i).op.length := by have h9 := congrArg (fun f : Fil => f.op.length) hp; simpa [LFil.pl] using h9
      refine s_skip ?_
      refine s_seq ?_
      refine s_block ?_
      refine s_seq ?_
      refine s_cutI (α := Nat × Nat) [6, 7, 33, 34, 35, 36, 37, 38, 39, 40, 41, 42] (fun y => [(6, .pointer (some ⟨y.1, 0, none⟩)), (7, .pointer (some ⟨y.2, 0, none⟩))]) (fun y => HS w [] [.blk y.1 77 4 (nth L i).vals, .blk y.2 77 4 (nth L2 i).vals, .blk b1 26 2 [.int .i64 next, .slice a L.length cap], .blk b2 26 2 [.int .i64 next, .slice b L2.length cap2]]) (fun _ => True) ?_ ?_
      · skip
        refine s_drawB [.blk b1 26 2 [.int .i64 next, .slice a L.length cap], .blk b2 26 2 [.int .i64 next, .slice b L2.length cap2]] [13] mixed ?_
        refine d_p 0 rfl (p_fieldAddr rfl rfl fd_26_1 sz_24 rfl) (by kernel_rfl) rfl rfl ?_
        refine d_q 1 [[]] rfl (q_load rfl rfl sz_24 aPk rfl) (by kernel_rfl) (by kernel_rfl) (by kernel_rfl) rfl ?_
        refine d_p 2 rfl (p_pure rfl) (by kernel_rfl) rfl rfl ?_
        refine d_p 3 rfl (p_indexAddr rfl rfl rfl sl_24 (i) (by omega) (by omega) (Rw.some hs.1 (by omega))) (by kernel_rfl) rfl rfl ?_
        refine d_q 4 [[]] rfl (q_load_oldn _ rfl rfl sz_77 rfl (Rw.rd hs.1 hi)) (by kernel_rfl) (by kernel_rfl) (by kernel_rfl) rfl ?_
        refine d_p 5 rfl (p_fieldAddr rfl rfl fd_26_1 sz_24 rfl) (by kernel_rfl) rfl rfl ?_
        refine d_q 6 [[]] rfl (q_load rfl rfl sz_24 aPk rfl) (by kernel_rfl) (by kernel_rfl) (by kernel_rfl) rfl ?_
        refine d_p 7 rfl (p_pure rfl) (by kernel_rfl) rfl rfl ?_
        refine d_p 8 rfl (p_indexAddr rfl rfl rfl sl_24 (i) (by omega) (by omega) (Rw.some ht.1 (by omega))) (by kernel_rfl) rfl rfl ?_
        refine d_q 9 [[]] rfl (q_load_oldn _ rfl rfl sz_77 rfl (Rw.rd ht.1 hi2)) (by kernel_rfl) (by kernel_rfl) (by kernel_rfl) rfl ?_
        refine d_two 10 11 rfl rfl  (h_alloc rfl zr_77) (h_alloc rfl zr_77) (by kernel_rfl) (fun w h => h.ent aEt) rfl rfl  (fun b9 _ => ?_) (fun b10 _ => ?_)
        · skip
          refine d_h 11 rfl (h_alloc rfl zr_77) (by kernel_rfl) (fun w h => h.ent aEt) rfl (fun b11 _ => ?_)
          refine d_h0 12 rfl (h_store rfl rfl rfl sz_77 rfl aPt (by simp only [setMany_length, List.length_set, List.length_cons, List.length_nil, List.length_map]; omega) rfl) (by kernel_rfl) (fun w h => h.ent aEt) (fun _ _ => ?_)
          refine d_h0 13 rfl (h_store rfl rfl rfl sz_77 rfl aPt (by simp only [setMany_length, List.length_set, List.length_cons, List.length_nil, List.length_map]; omega) rfl) (by kernel_rfl) (fun w h => h.ent aEt) (fun _ _ => ?_)
          refine d_turn [] (by kernel_rfl) ?_
          refine d_nil (by kernel_rfl) (fun w h => h.ent aEt) ?_
          exact s_joinI (_, _) trivial aSx (fun w h => h.ent aEt)
        · skip
          refine d_h 10 rfl (h_alloc rfl zr_77) (by kernel_rfl) (fun w h => h.ent aEt) rfl (fun b12 _ => ?_)
          refine d_h0 12 rfl (h_store rfl rfl rfl sz_77 rfl aPt (by simp only [setMany_length, List.length_set, List.length_cons, List.length_nil, List.length_map]; omega) rfl) (by kernel_rfl) (fun w h => h.ent aEt) (fun _ _ => ?_)
          refine d_h0 13 rfl (h_store rfl rfl rfl sz_77 rfl aPt (by simp only [setMany_length, List.length_set, List.length_cons, List.length_nil, List.length_map]; omega) rfl) (by kernel_rfl) (fun w h => h.ent aEt) (fun _ _ => ?_)
          refine d_turn [] (by kernel_rfl) ?_
          refine d_nil (by kernel_rfl) (fun w h => h.ent aEt) ?_
          exact s_joinI (_, _) trivial aSx (fun w h => h.ent aEt)
      · intro y _
        refine s_seq ?_
        refine s_seq ?_
        refine s_region ?_
        refine o_p (p_fieldAddr rfl rfl fd_77_0 sz_42 rfl) rfl ?_
        refine o_q (q_loadn rfl rfl sz_42 aPk rfl) rfl ?_
        refine o_p (p_fieldAddr rfl rfl fd_77_0 sz_42 rfl) rfl ?_
        refine o_q (q_loadn rfl rfl sz_42 aPk rfl) rfl ?_
        refine o_p (p_neq_agg rfl rfl rfl eqk_42 (by rfl) (by rfl) (by rfl)) rfl ?_
        refine o_p (p_pure rfl) rfl ?_
        refine o_or 6 48 54 _ _ rfl
          (by
            intro hg13
            have hs14 := hg13; try simp only [decide_eq_true_eq, decide_eq_false_iff_not, Bool.not_eq_true', Bool.not_eq_false', Bool.and_eq_true, Bool.or_eq_true, Bool.and_eq_false_iff, Bool.or_eq_false_iff, Bool.not_true, Bool.not_false] at hs14
            refine o_on 48 _ rfl rfl hg13 ?_
            refine o_p (p_fieldAddr rfl rfl fd_77_1 sz_4 rfl) rfl ?_
            refine o_on 48 _ rfl rfl hg13 ?_
            refine o_q (q_load rfl rfl sz_4 aPk rfl) rfl ?_
            refine o_on 48 _ rfl rfl hg13 ?_
            refine o_p (p_fieldAddr rfl rfl fd_77_1 sz_4 rfl) rfl ?_
            refine o_on 48 _ rfl rfl hg13 ?_
            refine o_q (q_load rfl rfl sz_4 aPk rfl) rfl ?_
            refine o_on 48 _ rfl rfl hg13 ?_
            refine o_p (p_neq_bool rfl rfl rfl Try.underlying4) rfl ?_
            refine o_p (p_pickf rfl rfl hg13 rfl) rfl ?_
            refine o_nil ?_
            exact s_joinN 6 54 _ rfl rfl rfl (fun w h => by first | exact h | exact h.ent aEt))
          (by
            intro hg15
            have hs16 := hg15; try simp only [decide_eq_true_eq, decide_eq_false_iff_not, Bool.not_eq_true', Bool.not_eq_false', Bool.and_eq_true, Bool.or_eq_true, Bool.and_eq_false_iff, Bool.or_eq_false_iff, Bool.not_true, Bool.not_false] at hs16
            refine o_off 48 _ rfl rfl hg15 rfl ?_
            refine o_off 48 _ rfl rfl hg15 rfl ?_
            refine o_off 48 _ rfl rfl hg15 rfl ?_
            refine o_off 48 _ rfl rfl hg15 rfl ?_
            refine o_off 48 _ rfl rfl hg15 rfl ?_
            refine o_p (p_pickt rfl rfl hg15 rfl) rfl ?_
            refine o_nil ?_
            exact s_joinN 6 54 _ rfl rfl rfl (fun w h => by first | exact h | exact h.ent aEt)) ?_
        refine o_p (p_pure rfl) rfl ?_
        refine o_or 8 55 63 _ _ rfl
          (by
            intro hg17
            have hs18 := hg17; try simp only [decide_eq_true_eq, decide_eq_false_iff_not, Bool.not_eq_true', Bool.not_eq_false', Bool.and_eq_true, Bool.or_eq_true, Bool.and_eq_false_iff, Bool.or_eq_false_iff, Bool.not_true, Bool.not_false] at hs18
            refine o_on 55 _ rfl rfl hg17 ?_
            refine o_p (p_fieldAddr rfl rfl fd_77_2 sz_75 rfl) rfl ?_
            refine o_on 55 _ rfl rfl hg17 ?_
            refine o_q (q_load rfl rfl sz_75 aPk rfl) rfl ?_
            refine o_on 55 _ rfl rfl hg17 ?_
            refine o_p (p_len_slice rfl rfl Try.underlying75) rfl ?_
            refine o_on 55 _ rfl rfl hg17 ?_
            refine o_p (p_fieldAddr rfl rfl fd_77_2 sz_75 rfl) rfl ?_
            refine o_on 55 _ rfl rfl hg17 ?_
            refine o_q (q_load rfl rfl sz_75 aPk rfl) rfl ?_
            refine o_on 55 _ rfl rfl hg17 ?_
            refine o_p (p_len_slice rfl rfl Try.underlying75) rfl ?_
            refine o_on 55 _ rfl rfl hg17 ?_
            refine o_p (p_pure rfl) rfl ?_
            refine o_p (p_pickf rfl rfl hg17 rfl) rfl ?_
            refine o_nil ?_
            exact s_joinN 8 63 _ rfl rfl rfl (fun w h => by first | exact h | exact h.ent aEt))
          (by
            intro hg19
            have hs20 := hg19; try simp only [decide_eq_true_eq, decide_eq_false_iff_not, Bool.not_eq_true', Bool.not_eq_false', Bool.and_eq_true, Bool.or_eq_true, Bool.and_eq_false_iff, Bool.or_eq_false_iff, Bool.not_true, Bool.not_false] at hs20
            refine o_off 55 _ rfl rfl hg19 rfl ?_
            refine o_off 55 _ rfl rfl hg19 rfl ?_
            refine o_off 55 _ rfl rfl hg19 rfl ?_
            refine o_off 55 _ rfl rfl hg19 rfl ?_
            refine o_off 55 _ rfl rfl hg19 rfl ?_
            refine o_off 55 _ rfl rfl hg19 rfl ?_
            refine o_off 55 _ rfl rfl hg19 rfl ?_
            refine o_p (p_pickt rfl rfl hg19 rfl) rfl ?_
            refine o_nil ?_
            exact s_joinN 8 63 _ rfl rfl rfl (fun w h => by first | exact h | exact h.ent aEt)) ?_
        refine o_nil ?_
        refine s_cond rfl (fun h21 => ?_) (fun h21 => ?_)
        · try simp only [decide_eq_true_eq, decide_eq_false_iff_not, Bool.not_eq_true', Bool.not_eq_false', Bool.and_eq_true, Bool.or_eq_true, Bool.and_eq_false_iff, Bool.or_eq_false_iff, Bool.not_true, Bool.not_false] at h21
          exfalso; have hq9 := h21; simp [e1, e2, e3, e4] at hq9
        · try simp only [decide_eq_true_eq, decide_eq_false_iff_not, Bool.not_eq_true', Bool.not_eq_false', Bool.and_eq_true, Bool.or_eq_true, Bool.and_eq_false_iff, Bool.or_eq_false_iff, Bool.not_true, Bool.not_false] at h21
          refine s_skip ?_
          refine s_seq ?_
          refine s_region ?_
          refine o_p (p_pure rfl) rfl ?_
          refine o_nil ?_
          refine s_block ?_
          refine s_weaken (L' := [(0, _), (1, _), (2, _), (3, _), (5, _), (6, _), (7, _), (8, _), (12, _), (13, _), (14, _), (15, _), (16, _), (17, _), (25, _)]) aSx (fun _ h => h) ?_
          refine s_loopI (α := Nat) [4, 8, 9, 10, 11, 64, 65, 66, 67, 68, 69, 70, 71, 72, 73, 74, 75, 76, 77, 78, 79, 80, 81, 82, 83, 84, 85, 86, 87, 88, 89, 90, 91, 92, 93, 94, 95, 96, 97, 98, 99, 100, 101, 102, 103, 104, 105, 106, 107, 108, 109, 110, 111, 112, 113, 114, 115, 116, 117, 118, 119, 120, 121, 122, 123, 124, 125, 126, 127, 128, 129, 130, 131, 132, 133] (fun i => [(8, .int .i64 (i : Int))]) (fun _ => HS w [] [.blk y.1 77 4 (nth L i).vals, .blk y.2 77 4 (nth L2 i).vals, .blk b1 26 2 [.int .i64 next, .slice a L.length cap], .blk b2 26 2 [.int .i64 next, .slice b L2.length cap2]]) (fun k => k ≤ (nth L i).op.length) (fun k => (nth L i).op.length - k) 0 (Nat.zero_le _) aSx (fun w h => h.ent aEt) (fun k hk1 => ?_)
          refine s_seq ?_
          refine s_seq ?_
          refine s_region ?_
          refine o_p (p_pure rfl) rfl ?_
          refine o_p (p_fieldAddr rfl rfl fd_77_2 sz_75 rfl) rfl ?_
          refine o_q (q_load rfl rfl sz_75 aPk rfl) rfl ?_
          refine o_p (p_len_slice rfl rfl Try.underlying75) rfl ?_
          refine o_p (p_pure rfl) rfl ?_
          refine o_nil ?_
          refine s_cond rfl (fun h22 => ?_) (fun h22 => ?_)
          · try simp only [decide_eq_true_eq, decide_eq_false_iff_not, Bool.not_eq_true', Bool.not_eq_false', Bool.and_eq_true, Bool.or_eq_true, Bool.and_eq_false_iff, Bool.or_eq_false_iff, Bool.not_true, Bool.not_false] at h22
            have hk : k < (nth L i).op.length := by omega
            have hk2 : k < (nth L2 i).op.length := by omega
            have hki := hml _ (mem_nth hi) _ (mem_nth hk)
            have hq := (same_op hp hk).2.2
            have d1 : (nth (nth L2 i).op k).hd = (nth (nth L i).op k).hd := congrArg Opn.hd hq
            have d2 : (nth (nth L2 i).op k).ac = (nth (nth L i).op k).ac := congrArg Opn.ac hq
            have d3 : (nth (nth L2 i).op k).sh = (nth (nth L i).op k).sh := congrArg Opn.sh hq
            have d4 : (nth (nth L2 i).op k).dl = (nth (nth L i).op k).dl := congrArg Opn.dl hq
            have d5 : (nth (nth L2 i).op k).lk = (nth (nth L i).op k).lk := congrArg Opn.lk hq
            have d6 : (nth (nth L2 i).op k).lk.length = (nth (nth L i).op k).lk.length := by rw [d5]
            refine s_skip ?_
            refine s_seq ?_
            refine s_block ?_
            refine s_seq ?_
            refine s_cutI (α := Nat × Nat) [9, 10, 71, 72, 73, 74, 75, 76, 77, 78, 79, 80] (fun z => [(9, .pointer (some ⟨z.1, 0, none⟩)), (10, .pointer (some ⟨z.2, 0, none⟩))]) (fun z => HS w [] [.blk z.1 48 5 (nth (nth L i).op k).vals, .blk z.2 48 5 (nth (nth L2 i).op k).vals, .blk y.1 77 4 (nth L i).vals, .blk y.2 77 4 (nth L2 i).vals, .blk b1 26 2 [.int .i64 next, .slice a L.length cap], .blk b2 26 2 [.int .i64 next, .slice b L2.length cap2]]) (fun _ => True) ?_ ?_
            · skip
              refine s_drawB [.blk y.1 77 4 (nth L i).vals, .blk y.2 77 4 (nth L2 i).vals, .blk b1 26 2 [.int .i64 next, .slice a L.length cap], .blk b2 26 2 [.int .i64 next, .slice b L2.length cap2]] [13] mixed ?_
              refine d_p 0 rfl (p_fieldAddr rfl rfl fd_77_2 sz_75 rfl) (by kernel_rfl) rfl rfl ?_
              refine d_q 1 [[]] rfl (q_load rfl rfl sz_75 aPk rfl) (by kernel_rfl) (by kernel_rfl) (by kernel_rfl) rfl ?_
              refine d_p 2 rfl (p_pure rfl) (by kernel_rfl) rfl rfl ?_
              refine d_p 3 rfl (p_indexAddr rfl rfl rfl sl_75 (k) (by omega) (by omega) (Rw.some (hs.at hi).1 (by omega))) (by kernel_rfl) rfl rfl ?_
              refine d_q 4 [[]] rfl (q_load_oldn _ rfl rfl sz_48 rfl (Rw.rd (hs.at hi).1 hk)) (by kernel_rfl) (by kernel_rfl) (by kernel_rfl) rfl ?_
              refine d_p 5 rfl (p_fieldAddr rfl rfl fd_77_2 sz_75 rfl) (by kernel_rfl) rfl rfl ?_
              refine d_q 6 [[]] rfl (q_load rfl rfl sz_75 aPk rfl) (by kernel_rfl) (by kernel_rfl) (by kernel_rfl) rfl ?_
              refine d_p 7 rfl (p_pure rfl) (by kernel_rfl) rfl rfl ?_
              refine d_p 8 rfl (p_indexAddr rfl rfl rfl sl_75 (k) (by omega) (by omega) (Rw.some (ht.at hi2).1 (by omega))) (by kernel_rfl) rfl rfl ?_
              refine d_q 9 [[]] rfl (q_load_oldn _ rfl rfl sz_48 rfl (Rw.rd (ht.at hi2).1 hk2)) (by kernel_rfl) (by kernel_rfl) (by kernel_rfl) rfl ?_
              refine d_two 10 11 rfl rfl  (h_alloc rfl zr_48) (h_alloc rfl zr_48) (by kernel_rfl) (fun w h => h.ent aEt) rfl rfl  (fun b23 _ => ?_) (fun b24 _ => ?_)
              · skip
                refine d_h 11 rfl (h_alloc rfl zr_48) (by kernel_rfl) (fun w h => h.ent aEt) rfl (fun b25 _ => ?_)
                refine d_h0 12 rfl (h_store rfl rfl rfl sz_48 rfl aPt (by simp only [setMany_length, List.length_set, List.length_cons, List.length_nil, List.length_map]; omega) rfl) (by kernel_rfl) (fun w h => h.ent aEt) (fun _ _ => ?_)
                refine d_h0 13 rfl (h_store rfl rfl rfl sz_48 rfl aPt (by simp only [setMany_length, List.length_set, List.length_cons, List.length_nil, List.length_map]; omega) rfl) (by kernel_rfl) (fun w h => h.ent aEt) (fun _ _ => ?_)
                refine d_turn [] (by kernel_rfl) ?_
                refine d_nil (by kernel_rfl) (fun w h => h.ent aEt) ?_
                exact s_joinI (_, _) trivial aSx (fun w h => h.ent aEt)
              · skip
                refine d_h 10 rfl (h_alloc rfl zr_48) (by kernel_rfl) (fun w h => h.ent aEt) rfl (fun b26 _ => ?_)
                refine d_h0 12 rfl (h_store rfl rfl rfl sz_48 rfl aPt (by simp only [setMany_length, List.length_set, List.length_cons, List.length_nil, List.length_map]; omega) rfl) (by kernel_rfl) (fun w h => h.ent aEt) (fun _ _ => ?_)
                refine d_h0 13 rfl (h_store rfl rfl rfl sz_48 rfl aPt (by simp only [setMany_length, List.length_set, List.length_cons, List.length_nil, List.length_map]; omega) rfl) (by kernel_rfl) (fun w h => h.ent aEt) (fun _ _ => ?_)
                refine d_turn [] (by kernel_rfl) ?_
                refine d_nil (by kernel_rfl) (fun w h => h.ent aEt) ?_
                exact s_joinI (_, _) trivial aSx (fun w h => h.ent aEt)
            · intro z _
              refine s_seq ?_
              refine s_seq ?_
              refine s_region ?_
              refine o_p (p_fieldAddr rfl rfl fd_48_0 sz_3 rfl) rfl ?_
              refine o_q (q_load rfl rfl sz_3 aPk rfl) rfl ?_
              refine o_p (p_fieldAddr rfl rfl fd_48_0 sz_3 rfl) rfl ?_
              refine o_q (q_load rfl rfl sz_3 aPk rfl) rfl ?_
              refine o_p (p_pure rfl) rfl ?_
              refine o_p (p_pure rfl) rfl ?_
              refine o_or 6 86 92 _ _ rfl
                (by
                  intro hg27
                  have hs28 := hg27; try simp only [decide_eq_true_eq, decide_eq_false_iff_not, Bool.not_eq_true', Bool.not_eq_false', Bool.and_eq_true, Bool.or_eq_true, Bool.and_eq_false_iff, Bool.or_eq_false_iff, Bool.not_true, Bool.not_false] at hs28
                  refine o_on 86 _ rfl rfl hg27 ?_
                  refine o_p (p_fieldAddr rfl rfl fd_48_1 sz_3 rfl) rfl ?_
                  refine o_on 86 _ rfl rfl hg27 ?_
                  refine o_q (q_load rfl rfl sz_3 aPk rfl) rfl ?_
                  refine o_on 86 _ rfl rfl hg27 ?_
                  refine o_p (p_fieldAddr rfl rfl fd_48_1 sz_3 rfl) rfl ?_
                  refine o_on 86 _ rfl rfl hg27 ?_
                  refine o_q (q_load rfl rfl sz_3 aPk rfl) rfl ?_
                  refine o_on 86 _ rfl rfl hg27 ?_
                  refine o_p (p_pure rfl) rfl ?_
                  refine o_p (p_pickf rfl rfl hg27 rfl) rfl ?_
                  refine o_nil ?_
                  exact s_joinN 6 92 _ rfl rfl rfl (fun w h => by first | exact h | exact h.ent aEt))
                (by
                  intro hg29
                  have hs30 := hg29; try simp only [decide_eq_true_eq, decide_eq_false_iff_not, Bool.not_eq_true', Bool.not_eq_false', Bool.and_eq_true, Bool.or_eq_true, Bool.and_eq_false_iff, Bool.or_eq_false_iff, Bool.not_true, Bool.not_false] at hs30
                  refine o_off 86 _ rfl rfl hg29 rfl ?_
                  refine o_off 86 _ rfl rfl hg29 rfl ?_
                  refine o_off 86 _ rfl rfl hg29 rfl ?_
                  refine o_off 86 _ rfl rfl hg29 rfl ?_
                  refine o_off 86 _ rfl rfl hg29 rfl ?_
                  refine o_p (p_pickt rfl rfl hg29 rfl) rfl ?_
                  refine o_nil ?_
                  exact s_joinN 6 92 _ rfl rfl rfl (fun w h => by first | exact h | exact h.ent aEt)) ?_
              refine o_p (p_pure rfl) rfl ?_
              refine o_or 6 93 99 _ _ rfl
                (by
                  intro hg31
                  have hs32 := hg31; try simp only [decide_eq_true_eq, decide_eq_false_iff_not, Bool.not_eq_true', Bool.not_eq_false', Bool.and_eq_true, Bool.or_eq_true, Bool.and_eq_false_iff, Bool.or_eq_false_iff, Bool.not_true, Bool.not_false] at hs32
                  refine o_on 93 _ rfl rfl hg31 ?_
                  refine o_p (p_fieldAddr rfl rfl fd_48_2 sz_3 rfl) rfl ?_
                  refine o_on 93 _ rfl rfl hg31 ?_
                  refine o_q (q_load rfl rfl sz_3 aPk rfl) rfl ?_
                  refine o_on 93 _ rfl rfl hg31 ?_
                  refine o_p (p_fieldAddr rfl rfl fd_48_2 sz_3 rfl) rfl ?_
                  refine o_on 93 _ rfl rfl hg31 ?_
                  refine o_q (q_load rfl rfl sz_3 aPk rfl) rfl ?_
                  refine o_on 93 _ rfl rfl hg31 ?_
                  refine o_p (p_pure rfl) rfl ?_
                  refine o_p (p_pickf rfl rfl hg31 rfl) rfl ?_
                  refine o_nil ?_
                  exact s_joinN 6 99 _ rfl rfl rfl (fun w h => by first | exact h | exact h.ent aEt))
                (by
                  intro hg33
                  have hs34 := hg33; try simp only [decide_eq_true_eq, decide_eq_false_iff_not, Bool.not_eq_true', Bool.not_eq_false', Bool.and_eq_true, Bool.or_eq_true, Bool.and_eq_false_iff, Bool.or_eq_false_iff, Bool.not_true, Bool.not_false] at hs34
                  refine o_off 93 _ rfl rfl hg33 rfl ?_
                  refine o_off 93 _ rfl rfl hg33 rfl ?_
                  refine o_off 93 _ rfl rfl hg33 rfl ?_
                  refine o_off 93 _ rfl rfl hg33 rfl ?_
                  refine o_off 93 _ rfl rfl hg33 rfl ?_
                  refine o_p (p_pickt rfl rfl hg33 rfl) rfl ?_
                  refine o_nil ?_
                  exact s_joinN 6 99 _ rfl rfl rfl (fun w h => by first | exact h | exact h.ent aEt)) ?_
              refine o_p (p_pure rfl) rfl ?_
              refine o_or 6 100 106 _ _ rfl
                (by
                  intro hg35
                  have hs36 := hg35; try simp only [decide_eq_true_eq, decide_eq_false_iff_not, Bool.not_eq_true', Bool.not_eq_false', Bool.and_eq_true, Bool.or_eq_true, Bool.and_eq_false_iff, Bool.or_eq_false_iff, Bool.not_true, Bool.not_false] at hs36
                  refine o_on 100 _ rfl rfl hg35 ?_
                  refine o_p (p_fieldAddr rfl rfl fd_48_3 sz_4 rfl) rfl ?_
                  refine o_on 100 _ rfl rfl hg35 ?_
                  refine o_q (q_load rfl rfl sz_4 aPk rfl) rfl ?_
                  refine o_on 100 _ rfl rfl hg35 ?_
                  refine o_p (p_fieldAddr rfl rfl fd_48_3 sz_4 rfl) rfl ?_
                  refine o_on 100 _ rfl rfl hg35 ?_
                  refine o_q (q_load rfl rfl sz_4 aPk rfl) rfl ?_
                  refine o_on 100 _ rfl rfl hg35 ?_
                  refine o_p (p_neq_bool rfl rfl rfl Try.underlying4) rfl ?_
                  refine o_p (p_pickf rfl rfl hg35 rfl) rfl ?_
                  refine o_nil ?_
                  exact s_joinN 6 106 _ rfl rfl rfl (fun w h => by first | exact h | exact h.ent aEt))
                (by
                  intro hg37
                  have hs38 := hg37; try simp only [decide_eq_true_eq, decide_eq_false_iff_not, Bool.not_eq_true', Bool.not_eq_false', Bool.and_eq_true, Bool.or_eq_true, Bool.and_eq_false_iff, Bool.or_eq_false_iff, Bool.not_true, Bool.not_false] at hs38
                  refine o_off 100 _ rfl rfl hg37 rfl ?_
                  refine o_off 100 _ rfl rfl hg37 rfl ?_
                  refine o_off 100 _ rfl rfl hg37 rfl ?_
                  refine o_off 100 _ rfl rfl hg37 rfl ?_
                  refine o_off 100 _ rfl rfl hg37 rfl ?_
                  refine o_p (p_pickt rfl rfl hg37 rfl) rfl ?_
                  refine o_nil ?_
                  exact s_joinN 6 106 _ rfl rfl rfl (fun w h => by first | exact h | exact h.ent aEt)) ?_
              refine o_p (p_pure rfl) rfl ?_
              refine o_or 8 107 115 _ _ rfl
                (by
                  intro hg39
                  have hs40 := hg39; try simp only [decide_eq_true_eq, decide_eq_false_iff_not, Bool.not_eq_true', Bool.not_eq_false', Bool.and_eq_true, Bool.or_eq_true, Bool.and_eq_false_iff, Bool.or_eq_false_iff, Bool.not_true, Bool.not_false] at hs40
                  refine o_on 107 _ rfl rfl hg39 ?_
                  refine o_p (p_fieldAddr rfl rfl fd_48_4 sz_46 rfl) rfl ?_
                  refine o_on 107 _ rfl rfl hg39 ?_
                  refine o_q (q_load rfl rfl sz_46 aPk rfl) rfl ?_
                  refine o_on 107 _ rfl rfl hg39 ?_
                  refine o_p (p_len_slice rfl rfl Try.underlying46) rfl ?_
                  refine o_on 107 _ rfl rfl hg39 ?_
                  refine o_p (p_fieldAddr rfl rfl fd_48_4 sz_46 rfl) rfl ?_
                  refine o_on 107 _ rfl rfl hg39 ?_
                  refine o_q (q_load rfl rfl sz_46 aPk rfl) rfl ?_
                  refine o_on 107 _ rfl rfl hg39 ?_
                  refine o_p (p_len_slice rfl rfl Try.underlying46) rfl ?_
                  refine o_on 107 _ rfl rfl hg39 ?_
                  refine o_p (p_pure rfl) rfl ?_
                  refine o_p (p_pickf rfl rfl hg39 rfl) rfl ?_
                  refine o_nil ?_
                  exact s_joinN 8 115 _ rfl rfl rfl (fun w h => by first | exact h | exact h.ent aEt))
                (by
                  intro hg41
                  have hs42 := hg41; try simp only [decide_eq_true_eq, decide_eq_false_iff_not, Bool.not_eq_true', Bool.not_eq_false', Bool.and_eq_true, Bool.or_eq_true, Bool.and_eq_false_iff, Bool.or_eq_false_iff, Bool.not_true, Bool.not_false] at hs42
                  refine o_off 107 _ rfl rfl hg41 rfl ?_
                  refine o_off 107 _ rfl rfl hg41 rfl ?_
                  refine o_off 107 _ rfl rfl hg41 rfl ?_
                  refine o_off 107 _ rfl rfl hg41 rfl ?_
                  refine o_off 107 _ rfl rfl hg41 rfl ?_
                  refine o_off 107 _ rfl rfl hg41 rfl ?_
                  refine o_off 107 _ rfl rfl hg41 rfl ?_
                  refine o_p (p_pickt rfl rfl hg41 rfl) rfl ?_
                  refine o_nil ?_
                  exact s_joinN 8 115 _ rfl rfl rfl (fun w h => by first | exact h | exact h.ent aEt)) ?_
              refine o_nil ?_
              refine s_cond rfl (fun h43 => ?_) (fun h43 => ?_)
              · try simp only [decide_eq_true_eq, decide_eq_false_iff_not, Bool.not_eq_true', Bool.not_eq_false', Bool.and_eq_true, Bool.or_eq_true, Bool.and_eq_false_iff, Bool.or_eq_false_iff, Bool.not_true, Bool.not_false] at h43
                exfalso; have hq9 := h43; simp [d1, d2, d3, d4, d6] at hq9
              · try simp only [decide_eq_true_eq, decide_eq_false_iff_not, Bool.not_eq_true', Bool.not_eq_false', Bool.and_eq_true, Bool.or_eq_true, Bool.and_eq_false_iff, Bool.or_eq_false_iff, Bool.not_true, Bool.not_false] at h43
                refine s_skip ?_
                refine s_seq ?_
                refine s_weaken (L' := [(0, _), (1, _), (2, _), (3, _), (5, _), (6, _), (7, _), (8, _), (9, _), (10, _), (12, _), (13, _), (14, _), (15, _), (16, _), (17, _), (25, _)]) aSx (fun _ h => h) ?_
                refine s_region ?_
                refine o_p (p_pure rfl) rfl ?_
                refine o_nil ?_
                refine s_block ?_
                refine s_loopI (α := Nat) [4, 11, 116, 117, 118, 119, 120, 121, 122, 123, 124, 125, 126, 127, 128, 129, 130, 131, 132, 133] (fun i => [(11, .int .i64 (i : Int))]) (fun _ => HS w [] [.blk z.1 48 5 (nth (nth L i).op k).vals, .blk z.2 48 5 (nth (nth L2 i).op k).vals, .blk y.1 77 4 (nth L i).vals, .blk y.2 77 4 (nth L2 i).vals, .blk b1 26 2 [.int .i64 next, .slice a L.length cap], .blk b2 26 2 [.int .i64 next, .slice b L2.length cap2]]) (fun n => n ≤ (nth (nth L i).op k).lk.length) (fun n => (nth (nth L i).op k).lk.length - n) 0 (Nat.zero_le _) aSx (fun w h => h.ent aEt) (fun n hn1 => ?_)
                refine s_seq ?_
                refine s_seq ?_
                refine s_region ?_
                refine o_p (p_pure rfl) rfl ?_
                refine o_p (p_fieldAddr rfl rfl fd_48_4 sz_46 rfl) rfl ?_
                refine o_q (q_load rfl rfl sz_46 aPk rfl) rfl ?_
                refine o_p (p_len_slice rfl rfl Try.underlying46) rfl ?_
                refine o_p (p_pure rfl) rfl ?_
                refine o_nil ?_
                refine s_cond rfl (fun h44 => ?_) (fun h44 => ?_)
                · try simp only [decide_eq_true_eq, decide_eq_false_iff_not, Bool.not_eq_true', Bool.not_eq_false', Bool.and_eq_true, Bool.or_eq_true, Bool.and_eq_false_iff, Bool.or_eq_false_iff, Bool.not_true, Bool.not_false] at h44
                  have hn : n < (nth (nth L i).op k).lk.length := by omega
                  have hn2 : n < (nth (nth L2 i).op k).lk.length := by omega
                  refine s_skip ?_
                  refine s_seq ?_
                  refine s_block ?_
                  refine s_seq ?_
                  refine s_draw [] mixed ?_
                  refine d_p 0 rfl (p_fieldAddr rfl rfl fd_48_4 sz_46 rfl) (by kernel_rfl) rfl rfl ?_
                  refine d_q 1 [] rfl (q_load rfl rfl sz_46 aPk rfl) (by kernel_rfl) (by kernel_rfl) (by kernel_rfl) rfl ?_
                  refine d_p 2 rfl (p_pure rfl) (by kernel_rfl) rfl rfl ?_
                  refine d_p 3 rfl (p_indexAddr rfl rfl rfl sl_46 (n) (by omega) (by omega) (Rw.some ((hs.at hi).at hk) (by omega))) (by kernel_rfl) rfl rfl ?_
                  refine d_q 4 [] rfl (q_load_oldn _ rfl rfl sz_62 rfl (Rw.rd ((hs.at hi).at hk) hn)) (by kernel_rfl) (by kernel_rfl) (by kernel_rfl) rfl ?_
                  refine d_p 5 rfl (p_fieldAddr rfl rfl fd_48_4 sz_46 rfl) (by kernel_rfl) rfl rfl ?_
                  refine d_q 6 [] rfl (q_load rfl rfl sz_46 aPk rfl) (by kernel_rfl) (by kernel_rfl) (by kernel_rfl) rfl ?_
                  refine d_p 7 rfl (p_pure rfl) (by kernel_rfl) rfl rfl ?_
                  refine d_p 8 rfl (p_indexAddr rfl rfl rfl sl_46 (n) (by omega) (by omega) (Rw.some ((ht.at hi2).at hk2) (by omega))) (by kernel_rfl) rfl rfl ?_
                  refine d_q 9 [] rfl (q_load_oldn _ rfl rfl sz_62 rfl (Rw.rd ((ht.at hi2).at hk2) hn2)) (by kernel_rfl) (by kernel_rfl) (by kernel_rfl) rfl ?_
                  refine d_p 10 rfl (p_neq_agg rfl rfl rfl eqk_62 (by rfl) (by rfl) (by rfl)) (by kernel_rfl) rfl rfl ?_
                  refine d_nil (by kernel_rfl) (fun w h => h.ent aEt) ?_
                  refine s_cond rfl (fun h45 => ?_) (fun h45 => ?_)
                  · try simp only [decide_eq_true_eq, decide_eq_false_iff_not, Bool.not_eq_true', Bool.not_eq_false', Bool.and_eq_true, Bool.or_eq_true, Bool.and_eq_false_iff, Bool.or_eq_false_iff, Bool.not_true, Bool.not_false] at h45
                    exfalso; have hq9 := h45; simp [d5] at hq9
                  · try simp only [decide_eq_true_eq, decide_eq_false_iff_not, Bool.not_eq_true', Bool.not_eq_false', Bool.and_eq_true, Bool.or_eq_true, Bool.and_eq_false_iff, Bool.or_eq_false_iff, Bool.not_true, Bool.not_false] at h45
                    refine s_skip ?_
                    refine s_blk ?_
                    refine s_weaken (L' := [(0, _), (1, _), (2, _), (3, _), (5, _), (6, _), (7, _), (8, _), (9, _), (10, _), (11, _), (12, _), (13, _), (14, _), (15, _), (16, _), (17, _), (25, _)]) aSx (fun _ h => h) ?_
                    refine s_region ?_
                    refine o_p (p_pure rfl) rfl ?_
                    refine o_p (p_pure rfl) rfl ?_
                    try (refine o_slot (i64w (by omega) (by omega)) ?_)
                    refine o_p (p_pure rfl) rfl ?_
                    refine o_nil ?_
                    exact s_backI (n + 1) (by omega) (by omega) aSx (fun w h => h.ent aEt)
                · try simp only [decide_eq_true_eq, decide_eq_false_iff_not, Bool.not_eq_true', Bool.not_eq_false', Bool.and_eq_true, Bool.or_eq_true, Bool.and_eq_false_iff, Bool.or_eq_false_iff, Bool.not_true, Bool.not_false] at h44
                  refine s_exit_to rfl ?_
                  refine s_blk ?_
                  refine s_region ?_
                  refine o_p (p_pure rfl) rfl ?_
                  refine o_p (p_pure rfl) rfl ?_
                  try (refine o_slot (i64w (by omega) (by omega)) ?_)
                  refine o_p (p_pure rfl) rfl ?_
                  refine o_nil ?_
                  exact s_backI (k + 1) (by omega) (by omega) aSx (fun w h => h.ent aEt)
          · try simp only [decide_eq_true_eq, decide_eq_false_iff_not, Bool.not_eq_true', Bool.not_eq_false', Bool.and_eq_true, Bool.or_eq_true, Bool.and_eq_false_iff, Bool.or_eq_false_iff, Bool.not_true, Bool.not_false] at h22
            refine s_exit_to rfl ?_
            refine s_blk ?_
            refine s_region ?_
            refine o_p (p_pure rfl) rfl ?_
            refine o_p (p_pure rfl) rfl ?_
            try (refine o_slot (i64w (by omega) (by omega)) ?_)
            refine o_p (p_pure rfl) rfl ?_
            refine o_nil ?_
            exact s_backI (i + 1) (by omega) (by omega) aSx (fun w h => h.ent aEt)
    · try simp only [decide_eq_true_eq, decide_eq_false_iff_not, Bool.not_eq_true', Bool.not_eq_false', Bool.and_eq_true, Bool.or_eq_true, Bool.and_eq_false_iff, Bool.or_eq_false_iff, Bool.not_true, Bool.not_false] at h8
      refine s_exit_to rfl ?_
      refine s_seq ?_
      refine s_region ?_
      refine o_p (p_pure rfl) rfl ?_
      refine o_nil ?_
      exact s_retv (rs := [.tmp 4]) rfl (.tmp rfl (.nil)) (fun w' h' => ⟨rfl, h'.below⟩)

end Go.Proofs

namespace Go.Proofs
open Go Go.RowKit Gx
set_option linter.unusedVariables false
set_option linter.unusedSimpArgs false
attribute [local irreducible] Go.Calls Gx.S Gx.O Gx.D Gx.OpP Gx.OpQ Gx.OpH



/-- Whether two handles conflict, or the error. -/
def cflT (a b : Opn) : Bool × Int := if openE a.ac a.sh = 0 then if openE b.ac b.sh = 0 then (cfl a b, 0) else (false, openE b.ac b.sh) else (false, openE a.ac a.sh)
theorem cflT_e {a b : Opn} (h : ¬ firstV [.int .i64 (openE a.ac a.sh), .int .i64 (openE b.ac b.sh)] = 0) : cflT a b = (false, firstV [.int .i64 (openE a.ac a.sh), .int .i64 (openE b.ac b.sh)]) := by
  rw [firstV2] at h ⊢
  unfold cflT
  grind
theorem cflT_0 {a b : Opn} (h : openE a.ac a.sh = 0 ∧ openE b.ac b.sh = 0) : cflT a b = (cfl a b, 0) := by rw [cflT, if_pos h.1, if_pos h.2]

set_option maxRecDepth 20000 in
theorem c21 (w : World) (x y : LOpn) : Calls Try.prog 21 #[.agg #[.int .i64 x.hd, .int .i64 x.ac, .int .i64 x.sh, .bool x.dl, .slice x.la x.lk.length x.lc], .agg #[.int .i64 y.hd, .int .i64 y.ac, .int .i64 y.sh, .bool y.dl, .slice y.la y.lk.length y.lc]] w fun en w' => en = .returned (.tuple #[.bool (cflT x.pl y.pl).1, .int .i64 (cflT x.pl y.pl).2]) ∧ Below w.heap.size w w' := by
  refine enter (args := [_, _]) Try.func21 Try.ntmps21 rfl rfl (HS.refl w []) ?_
  refine s_seq ?_
  refine s_region ?_
  refine o_h (h_box rfl rfl) rfl (fun b1 _ => ?_)
  refine o_h (h_box rfl rfl) rfl (fun b2 _ => ?_)
  refine o_p (p_pure rfl) rfl ?_
  refine o_p (p_pure rfl) rfl ?_
  refine o_nil ?_
  refine s_seq ?_
  refine s_seq ?_
  refine s_draw [] mixed ?_
  refine d_q 0 [] rfl (q_loadn rfl rfl sz_48 aPk rfl) (by kernel_rfl) (by kernel_rfl) (by kernel_rfl) rfl ?_
  refine d_q 1 [] rfl (q_call rfl fn_62 rfl (fun w1 h1 => c62 w1 x)) (by kernel_rfl) (by kernel_rfl) (by kernel_rfl) rfl ?_
  refine d_q 2 [] rfl (q_loadn rfl rfl sz_48 aPk rfl) (by kernel_rfl) (by kernel_rfl) (by kernel_rfl) rfl ?_
  refine d_q 3 [] rfl (q_call rfl fn_62 rfl (fun w1 h1 => c62 w1 y)) (by kernel_rfl) (by kernel_rfl) (by kernel_rfl) rfl ?_
  refine d_h 4 rfl (h_buildSlice (cs := [_, _]) rfl rfl sl_146 zr_28 rfl rfl rfl) (by kernel_rfl) (fun w h => h.ent aEt) rfl (fun b3 _ => ?_)
  refine d_base (fun w h => h.ent aEt) ?_
  refine d_q 5 [] rfl (q_call rfl fn_52 rfl (fun w1 h1 => f52 h1 aPk (by rfl) (by rfl) (by decide))) (by kernel_rfl) (by kernel_rfl) (by kernel_rfl) rfl ?_
  refine d_p 6 rfl (p_pure rfl) (by kernel_rfl) rfl rfl ?_
  refine d_nil (by kernel_rfl) (fun w h => h.ent aEt) ?_
  refine s_seq ?_
  refine s_region ?_
  refine o_p (p_pure rfl) rfl ?_
  refine o_p (p_pure rfl) rfl ?_
  refine o_nil ?_
  refine s_cond rfl (fun h4 => ?_) (fun h4 => ?_)
  · try simp only [decide_eq_true_eq, decide_eq_false_iff_not, Bool.not_eq_true', Bool.not_eq_false', Bool.and_eq_true, Bool.or_eq_true, Bool.and_eq_false_iff, Bool.or_eq_false_iff, Bool.not_true, Bool.not_false] at h4
    have he : ¬ firstV [.int .i64 (openE x.pl.ac x.pl.sh), .int .i64 (openE y.pl.ac y.pl.sh)] = 0 := h4
    refine s_seq ?_
    refine s_region ?_
    refine o_p (p_pure rfl) rfl ?_
    refine o_p (p_pure rfl) rfl ?_
    refine o_p (p_pure rfl) rfl ?_
    refine o_nil ?_
    exact s_retv (rs := [.tmp 4, .tmp 5]) rfl (.tmp rfl (.tmp rfl (.nil))) (fun w' h' => ⟨by rw [cflT_e he]; rfl, h'.below⟩)
  · try simp only [decide_eq_true_eq, decide_eq_false_iff_not, Bool.not_eq_true', Bool.not_eq_false', Bool.and_eq_true, Bool.or_eq_true, Bool.and_eq_false_iff, Bool.or_eq_false_iff, Bool.not_true, Bool.not_false] at h4
    have hz := first2_0 h4
    refine s_skip ?_
    refine s_seq ?_
    refine s_region ?_
    refine o_q (q_loadn rfl rfl sz_48 aPk rfl) rfl ?_
    refine o_q (q_loadn rfl rfl sz_48 aPk rfl) rfl ?_
    refine o_q (q_call rfl fn_63 rfl (fun w1 h1 => c63 w1 x y hz.1 hz.2)) rfl ?_
    refine o_p (p_pure rfl) rfl ?_
    refine o_p (p_pure rfl) rfl ?_
    refine o_nil ?_
    exact s_retv (rs := [.tmp 4, .tmp 5]) rfl (.tmp rfl (.tmp rfl (.nil))) (fun w' h' => ⟨by rw [cflT_0 (a := x.pl) (b := y.pl) hz]; rfl, h'.below⟩)

end Go.Proofs

namespace Go.Proofs
open Go Go.RowKit Gx
set_option linter.unusedVariables false
set_option linter.unusedSimpArgs false
attribute [local irreducible] Go.Calls Gx.S Gx.O Gx.D Gx.OpP Gx.OpQ Gx.OpH



def fewF (f : LFil) : Bool := decide (f.op.length ≤ 40) && f.op.all fun o => decide (o.lk.length ≤ 20)
/-- Few files, handles and locks. -/
def fewT (L : List LFil) : Bool := decide (L.length ≤ 40) && L.all fewF
theorem fewT_l {L : List LFil} (h : 40 < L.length) : fewT L = false := by
  unfold fewT
  simp
  omega
theorem fewT_f {L : List LFil} {i : Nat} (hi : i < L.length) (h : fewF (nth L i) = false) : fewT L = false := by
  unfold fewT
  rw [Bool.and_eq_false_iff]
  right
  rw [List.all_eq_false]
  exact ⟨_, mem_nth hi, by rw [h]; decide⟩
theorem fewF_l {f : LFil} (h : 40 < f.op.length) : fewF f = false := by
  unfold fewF
  simp
  omega
theorem fewF_k {f : LFil} {k : Nat} (hk : k < f.op.length) (h : 20 < (nth f.op k).lk.length) : fewF f = false := by
  unfold fewF
  rw [Bool.and_eq_false_iff]
  right
  rw [List.all_eq_false]
  exact ⟨_, mem_nth hk, by simp; omega⟩
theorem fewT_1 {L : List LFil} (hl : L.length ≤ 40) (h : ∀ m, m < L.length → fewF (nth L m) = true) : fewT L = true := by
  unfold fewT
  rw [Bool.and_eq_true, List.all_eq_true]
  refine ⟨by simpa using hl, fun f hf => ?_⟩
  obtain ⟨m, hm, rfl⟩ := mem_nth_ex hf
  exact h m hm
theorem fewF_1 {f : LFil} (hl : f.op.length ≤ 40) (h : ∀ m, m < f.op.length → (nth f.op m).lk.length ≤ 20) : fewF f = true := by
  unfold fewF
  rw [Bool.and_eq_true, List.all_eq_true]
  refine ⟨by simpa using hl, fun o ho => ?_⟩
  obtain ⟨m, hm, rfl⟩ := mem_nth_ex ho
  simpa using h m hm
theorem fewT_r {L : List LFil} (h : fewT L = true) : L.length ≤ 40 ∧ (∀ f ∈ L, f.op.length ≤ 40) ∧ ∀ f ∈ L, ∀ o ∈ f.op, o.lk.length ≤ 20 := by
  unfold fewT fewF at h
  simp only [Bool.and_eq_true, decide_eq_true_eq, List.all_eq_true] at h
  exact ⟨h.1, fun f hf => (h.2 f hf).1, fun f hf o ho => (h.2 f hf).2 o ho⟩
/-- What a table of few permits: the bounds that the contracts ask. -/
theorem fewT_b {L : List LFil} (h : fewT L = true) : L.length ≤ 1000 ∧ (∀ f ∈ L, f.op.length ≤ 1000) ∧ ∀ f ∈ L, ∀ o ∈ f.op, o.lk.length ≤ 1000 := by
  obtain ⟨h1, h2, h3⟩ := fewT_r h
  exact ⟨by omega, fun f hf => by have := h2 f hf; omega, fun f hf o ho => by have := h3 f hf o ho; omega⟩
theorem same_b {L N : List LFil} (h : pls N = pls L) (hb : L.length ≤ 1000 ∧ (∀ f ∈ L, f.op.length ≤ 1000) ∧ ∀ f ∈ L, ∀ o ∈ f.op, o.lk.length ≤ 1000) : N.length ≤ 1000 ∧ (∀ f ∈ N, f.op.length ≤ 1000) ∧ ∀ f ∈ N, ∀ o ∈ f.op, o.lk.length ≤ 1000 := by
  have e : N.length = L.length := same_len h
  refine ⟨by omega, fun f hf => ?_, fun f hf o ho => ?_⟩
  · obtain ⟨i, hi, rfl⟩ := mem_nth_ex hf
    have h1 := (same_nth h.symm hi).2
    have h2 : (nth L i).op.length = (nth N i).op.length := by
      have h9 := congrArg (fun f : Fil => f.op.length) h1
      simpa [LFil.pl] using h9
    rw [← h2]
    exact hb.2.1 _ (mem_nth (by omega))
  · obtain ⟨i, hi, rfl⟩ := mem_nth_ex hf
    obtain ⟨k, hk, rfl⟩ := mem_nth_ex ho
    have h1 := (same_nth h.symm hi).2
    obtain ⟨h2, _, h3⟩ := same_op h1 hk
    have h4 : (nth (nth L i).op k).lk = (nth (nth N i).op k).lk := congrArg Opn.lk h3
    rw [← h4]
    exact hb.2.2 _ (mem_nth (by omega)) _ (mem_nth h2)
theorem openE_02 (a b : Int) : openE a b = 0 ∨ openE a b = 2 := by
  unfold openE
  split <;> simp

set_option maxRecDepth 20000 in
theorem c17 (w : World) (next : Int) (a : Option Addr) (cap : Nat) (L : List LFil) (hs : Ft w [] a L) : Calls Try.prog 17 #[.agg #[.int .i64 next, .slice a L.length cap]] w fun en w' => en = .returned (.bool (fewT L)) ∧ Below w.heap.size w w' := by
  refine enter (args := [_]) Try.func17 Try.ntmps17 rfl rfl (HS.refl w []) ?_
  refine s_seq ?_
  refine s_region ?_
  refine o_h (h_box rfl rfl) rfl (fun b1 _ => ?_)
  refine o_p (p_pure rfl) rfl ?_
  refine o_nil ?_
  refine s_seq ?_
  refine s_seq ?_
  refine s_region ?_
  refine o_p (p_fieldAddr rfl rfl fd_26_1 sz_24 rfl) rfl ?_
  refine o_q (q_load rfl rfl sz_24 aPk rfl) rfl ?_
  refine o_p (p_len_slice rfl rfl Try.underlying24) rfl ?_
  refine o_p (p_pure rfl) rfl ?_
  refine o_nil ?_
  refine s_cond rfl (fun h2 => ?_) (fun h2 => ?_)
  · try simp only [decide_eq_true_eq, decide_eq_false_iff_not, Bool.not_eq_true', Bool.not_eq_false', Bool.and_eq_true, Bool.or_eq_true, Bool.and_eq_false_iff, Bool.or_eq_false_iff, Bool.not_true, Bool.not_false] at h2
    refine s_seq ?_
    refine s_region ?_
    refine o_p (p_pure rfl) rfl ?_
    refine o_nil ?_
    exact s_retv (rs := [.tmp 2]) rfl (.tmp rfl (.nil)) (fun w' h' => ⟨by rw [fewT_l (by have hq := h2; omega)]; rfl, h'.below⟩)
  · try simp only [decide_eq_true_eq, decide_eq_false_iff_not, Bool.not_eq_true', Bool.not_eq_false', Bool.and_eq_true, Bool.or_eq_true, Bool.and_eq_false_iff, Bool.or_eq_false_iff, Bool.not_true, Bool.not_false] at h2
    have hl40 : L.length ≤ 40 := by have hq := h2; omega
    refine s_skip ?_
    refine s_seq ?_
    refine s_seq ?_
    refine s_region ?_
    refine o_p (p_pure rfl) rfl ?_
    refine o_nil ?_
    refine s_block ?_
    refine s_loopI (α := Nat) [2, 3, 4, 9, 10, 11, 12, 13, 14, 15, 16, 17, 18, 19, 20, 21, 22, 23, 24, 25, 26, 27, 28, 29, 30, 31, 32, 33, 34, 35, 36, 37, 38, 39, 40, 41, 42, 43, 44, 45, 46] (fun i => [(3, .int .i64 (i : Int))]) (fun _ => HS w [] [.blk b1 26 2 [.int .i64 next, .slice a L.length cap]]) (fun i => i ≤ L.length ∧ ∀ m, m < i → fewF (nth L m) = true) (fun i => L.length - i) 0 ⟨Nat.zero_le _, fun m h => absurd h (Nat.not_lt_zero m)⟩ aSx (fun w h => h.ent aEt) (fun i hy => ?_)
    obtain ⟨hi1, hi2⟩ := hy
    refine s_seq ?_
    refine s_seq ?_
    refine s_region ?_
    refine o_p (p_pure rfl) rfl ?_
    refine o_p (p_fieldAddr rfl rfl fd_26_1 sz_24 rfl) rfl ?_
    refine o_q (q_load rfl rfl sz_24 aPk rfl) rfl ?_
    refine o_p (p_len_slice rfl rfl Try.underlying24) rfl ?_
    refine o_p (p_pure rfl) rfl ?_
    refine o_nil ?_
    refine s_cond rfl (fun h3 => ?_) (fun h3 => ?_)
    · try simp only [decide_eq_true_eq, decide_eq_false_iff_not, Bool.not_eq_true', Bool.not_eq_false', Bool.and_eq_true, Bool.or_eq_true, Bool.and_eq_false_iff, Bool.or_eq_false_iff, Bool.not_true, Bool.not_false] at h3
      have hil : i < L.length := by omega
      refine s_skip ?_
      refine s_seq ?_
      refine s_block ?_
      refine s_seq ?_
      refine s_seq ?_
      refine s_region ?_
      refine o_p (p_fieldAddr rfl rfl fd_26_1 sz_24 rfl) rfl ?_
      refine o_q (q_load rfl rfl sz_24 aPk rfl) rfl ?_
      refine o_p (p_pure rfl) rfl ?_
      refine o_p (p_indexAddr rfl rfl rfl sl_24 (i) (by omega) (by omega) (Rw.some hs.1 (by omega))) rfl ?_
      refine o_p (p_fieldAddr rfl rfl fd_77_2 sz_75 rfl) rfl ?_
      refine o_q (q_load_old rfl rfl sz_75 ((hs.1.rdj 3 hil rfl))) rfl ?_
      refine o_p (p_len_slice rfl rfl Try.underlying75) rfl ?_
      refine o_p (p_pure rfl) rfl ?_
      refine o_nil ?_
      refine s_cond rfl (fun h4 => ?_) (fun h4 => ?_)
      · try simp only [decide_eq_true_eq, decide_eq_false_iff_not, Bool.not_eq_true', Bool.not_eq_false', Bool.and_eq_true, Bool.or_eq_true, Bool.and_eq_false_iff, Bool.or_eq_false_iff, Bool.not_true, Bool.not_false] at h4
        refine s_seq ?_
        refine s_region ?_
        refine o_p (p_pure rfl) rfl ?_
        refine o_nil ?_
        exact s_retv (rs := [.tmp 2]) rfl (.tmp rfl (.nil)) (fun w' h' => ⟨by rw [fewT_f hil (fewF_l (by have hq := h4; omega))]; rfl, h'.below⟩)
      · try simp only [decide_eq_true_eq, decide_eq_false_iff_not, Bool.not_eq_true', Bool.not_eq_false', Bool.and_eq_true, Bool.or_eq_true, Bool.and_eq_false_iff, Bool.or_eq_false_iff, Bool.not_true, Bool.not_false] at h4
        have ho40 : (nth L i).op.length ≤ 40 := by have hq := h4; omega
        refine s_skip ?_
        refine s_seq ?_
        refine s_region ?_
        refine o_p (p_pure rfl) rfl ?_
        refine o_nil ?_
        refine s_block ?_
        refine s_weaken (L' := [(0, _), (1, _), (3, _), (4, _), (5, _), (6, _), (7, _), (8, _)]) aSx (fun _ h => h) ?_
        refine s_loopI (α := Nat) [2, 4, 24, 25, 26, 27, 28, 29, 30, 31, 32, 33, 34, 35, 36, 37, 38, 39, 40, 41, 42, 43, 44, 45, 46] (fun k => [(4, .int .i64 (k : Int))]) (fun _ => HS w [] [.blk b1 26 2 [.int .i64 next, .slice a L.length cap]]) (fun k => k ≤ (nth L i).op.length ∧ ∀ m, m < k → (nth (nth L i).op m).lk.length ≤ 20) (fun k => (nth L i).op.length - k) 0 ⟨Nat.zero_le _, fun m h => absurd h (Nat.not_lt_zero m)⟩ aSx (fun w h => h.ent aEt) (fun k hy => ?_)
        obtain ⟨hk1, hk2⟩ := hy
        refine s_seq ?_
        refine s_seq ?_
        refine s_region ?_
        refine o_p (p_pure rfl) rfl ?_
        refine o_p (p_fieldAddr rfl rfl fd_26_1 sz_24 rfl) rfl ?_
        refine o_q (q_load rfl rfl sz_24 aPk rfl) rfl ?_
        refine o_p (p_pure rfl) rfl ?_
        refine o_p (p_indexAddr rfl rfl rfl sl_24 (i) (by omega) (by omega) (Rw.some hs.1 (by omega))) rfl ?_
        refine o_p (p_fieldAddr rfl rfl fd_77_2 sz_75 rfl) rfl ?_
        refine o_q (q_load_old rfl rfl sz_75 ((hs.1.rdj 3 hil rfl))) rfl ?_
        refine o_p (p_len_slice rfl rfl Try.underlying75) rfl ?_
        refine o_p (p_pure rfl) rfl ?_
        refine o_nil ?_
        refine s_cond rfl (fun h5 => ?_) (fun h5 => ?_)
        · try simp only [decide_eq_true_eq, decide_eq_false_iff_not, Bool.not_eq_true', Bool.not_eq_false', Bool.and_eq_true, Bool.or_eq_true, Bool.and_eq_false_iff, Bool.or_eq_false_iff, Bool.not_true, Bool.not_false] at h5
          have hkl : k < (nth L i).op.length := by omega
          refine s_skip ?_
          refine s_seq ?_
          refine s_block ?_
          refine s_seq ?_
          refine s_region ?_
          refine o_p (p_fieldAddr rfl rfl fd_26_1 sz_24 rfl) rfl ?_
          refine o_q (q_load rfl rfl sz_24 aPk rfl) rfl ?_
          refine o_p (p_pure rfl) rfl ?_
          refine o_p (p_indexAddr rfl rfl rfl sl_24 (i) (by omega) (by omega) (Rw.some hs.1 (by omega))) rfl ?_
          refine o_p (p_fieldAddr rfl rfl fd_77_2 sz_75 rfl) rfl ?_
          refine o_q (q_load_old rfl rfl sz_75 ((hs.1.rdj 3 hil rfl))) rfl ?_
          refine o_p (p_pure rfl) rfl ?_
          refine o_p (p_indexAddr rfl rfl rfl sl_75 (k) (by omega) (by omega) (Rw.some (hs.at hil).1 (by omega))) rfl ?_
          refine o_p (p_fieldAddr rfl rfl fd_48_4 sz_46 rfl) rfl ?_
          refine o_q (q_load_old rfl rfl sz_46 (((hs.at hil).1.rdj 4 hkl rfl))) rfl ?_
          refine o_p (p_len_slice rfl rfl Try.underlying46) rfl ?_
          refine o_p (p_pure rfl) rfl ?_
          refine o_nil ?_
          refine s_cond rfl (fun h6 => ?_) (fun h6 => ?_)
          · try simp only [decide_eq_true_eq, decide_eq_false_iff_not, Bool.not_eq_true', Bool.not_eq_false', Bool.and_eq_true, Bool.or_eq_true, Bool.and_eq_false_iff, Bool.or_eq_false_iff, Bool.not_true, Bool.not_false] at h6
            refine s_seq ?_
            refine s_region ?_
            refine o_p (p_pure rfl) rfl ?_
            refine o_nil ?_
            exact s_retv (rs := [.tmp 2]) rfl (.tmp rfl (.nil)) (fun w' h' => ⟨by rw [fewT_f hil (fewF_k hkl (by have hq := h6; omega))]; rfl, h'.below⟩)
          · try simp only [decide_eq_true_eq, decide_eq_false_iff_not, Bool.not_eq_true', Bool.not_eq_false', Bool.and_eq_true, Bool.or_eq_true, Bool.and_eq_false_iff, Bool.or_eq_false_iff, Bool.not_true, Bool.not_false] at h6
            refine s_skip ?_
            refine s_blk ?_
            refine s_region ?_
            refine o_p (p_pure rfl) rfl ?_
            refine o_p (p_pure rfl) rfl ?_
            try (refine o_slot (i64w (by omega) (by omega)) ?_)
            refine o_p (p_pure rfl) rfl ?_
            refine o_nil ?_
            exact s_backI (k + 1) (by omega) ⟨by omega, fun m hm => (Nat.lt_or_ge m k).elim (hk2 m) (fun h9 => by have e9 : m = k := (by omega); rw [e9]; have hq := h6; omega)⟩ aSx (fun w h => h.ent aEt)
        · try simp only [decide_eq_true_eq, decide_eq_false_iff_not, Bool.not_eq_true', Bool.not_eq_false', Bool.and_eq_true, Bool.or_eq_true, Bool.and_eq_false_iff, Bool.or_eq_false_iff, Bool.not_true, Bool.not_false] at h5
          refine s_exit_to rfl ?_
          refine s_blk ?_
          refine s_region ?_
          refine o_p (p_pure rfl) rfl ?_
          refine o_p (p_pure rfl) rfl ?_
          try (refine o_slot (i64w (by omega) (by omega)) ?_)
          refine o_p (p_pure rfl) rfl ?_
          refine o_nil ?_
          exact s_backI (i + 1) (by omega) ⟨by omega, fun m hm => (Nat.lt_or_ge m i).elim (hi2 m) (fun h9 => by have e9 : m = i := (by omega); rw [e9]; exact fewF_1 ho40 (fun q hq => hk2 q (by omega)))⟩ aSx (fun w h => h.ent aEt)
    · try simp only [decide_eq_true_eq, decide_eq_false_iff_not, Bool.not_eq_true', Bool.not_eq_false', Bool.and_eq_true, Bool.or_eq_true, Bool.and_eq_false_iff, Bool.or_eq_false_iff, Bool.not_true, Bool.not_false] at h3
      refine s_exit_to rfl ?_
      refine s_seq ?_
      refine s_region ?_
      refine o_p (p_pure rfl) rfl ?_
      refine o_nil ?_
      exact s_retv (rs := [.tmp 2]) rfl (.tmp rfl (.nil)) (fun w' h' => ⟨by rw [fewT_1 hl40 (fun m hm => hi2 m (by omega))]; rfl, h'.below⟩)

end Go.Proofs

namespace Go.Proofs
open Go Go.RowKit Gx
set_option linter.unusedVariables false
set_option linter.unusedSimpArgs false
attribute [local irreducible] Go.Calls Gx.S Gx.O Gx.D Gx.OpP Gx.OpQ Gx.OpH

theorem fn_11 : isFn Try.prog 11 = true := by kernel_rfl
theorem fn_17 : isFn Try.prog 17 = true := by kernel_rfl
theorem ar_49 : tar Try.prog 49 = some (2, 48, 5) := by kernel_rfl
theorem fn_18 : isFn Try.prog 18 = true := by kernel_rfl
theorem fn_21 : isFn Try.prog 21 = true := by kernel_rfl


theorem cflT_max {x y : LOpn} (h : ¬ (if openE x.ac x.sh < openE y.ac y.sh then openE y.ac y.sh else openE x.ac x.sh) = 0) : cflT x.pl y.pl = (false, if openE x.ac x.sh < openE y.ac y.sh then openE y.ac y.sh else openE x.ac x.sh) := by
  unfold cflT
  simp only [LOpn.pl]
  rcases openE_02 x.ac x.sh with h1 | h1 <;> rcases openE_02 y.ac y.sh with h2 | h2 <;> simp [h1, h2] at h ⊢
theorem cflT_maz {x y : LOpn} (h : (if openE x.ac x.sh < openE y.ac y.sh then openE y.ac y.sh else openE x.ac x.sh) = 0) : openE x.ac x.sh = 0 ∧ openE y.ac y.sh = 0 := by
  rcases openE_02 x.ac x.sh with h1 | h1 <;> rcases openE_02 y.ac y.sh with h2 | h2 <;> simp [h1, h2] at h ⊢

set_option maxRecDepth 20000 in
set_option maxHeartbeats 1000000 in
theorem c5 (w : World) (next : Int) (a : Option Addr) (cap : Nat) (L : List LFil) (x y : LOpn) (hs : Ft w [] a L) : Calls Try.prog 5 #[.agg #[.int .i64 next, .slice a L.length cap], .agg #[.int .i64 x.hd, .int .i64 x.ac, .int .i64 x.sh, .bool x.dl, .slice x.la x.lk.length x.lc, .int .i64 y.hd, .int .i64 y.ac, .int .i64 y.sh, .bool y.dl, .slice y.la y.lk.length y.lc]] w fun en w' => en = .returned (.bool true) ∧ Below w.heap.size w w' := by
  refine enter (args := [_, _]) Try.func5 Try.ntmps5 rfl rfl (HS.refl w []) ?_
  refine s_seq ?_
  refine s_region ?_
  refine o_h (h_box rfl rfl) rfl (fun b1 _ => ?_)
  refine o_h (h_box rfl rfl) rfl (fun b2 _ => ?_)
  refine o_p (p_pure rfl) rfl ?_
  refine o_nil ?_
  refine s_seq ?_
  refine s_seq ?_
  refine s_region ?_
  refine o_q (q_call rfl fn_11 rfl (fun w1 h1 => c11 w1)) rfl ?_
  refine o_p (p_pure rfl) rfl ?_
  refine o_nil ?_
  refine s_cond rfl (fun h3 => ?_) (fun h3 => ?_)
  · try simp only [decide_eq_true_eq, decide_eq_false_iff_not, Bool.not_eq_true', Bool.not_eq_false', Bool.and_eq_true, Bool.or_eq_true, Bool.and_eq_false_iff, Bool.or_eq_false_iff, Bool.not_true, Bool.not_false] at h3
    exfalso; first | omega | (simp at h3; done) | (simp_all; done)
  · try simp only [decide_eq_true_eq, decide_eq_false_iff_not, Bool.not_eq_true', Bool.not_eq_false', Bool.and_eq_true, Bool.or_eq_true, Bool.and_eq_false_iff, Bool.or_eq_false_iff, Bool.not_true, Bool.not_false] at h3
    refine s_skip ?_
    refine s_seq ?_
    refine s_seq ?_
    refine s_region ?_
    refine o_q (q_loadn rfl rfl sz_26 aPk rfl) rfl ?_
    refine o_q (q_call rfl fn_17 rfl (fun w1 h1 => c17 w1 next a cap L (hs.later h1))) rfl ?_
    refine o_p (p_pure rfl) rfl ?_
    refine o_p (p_pure rfl) rfl ?_
    refine o_or 6 17 23 _ _ rfl
      (by
        intro hg4
        have hs5 := hg4; try simp only [decide_eq_true_eq, decide_eq_false_iff_not, Bool.not_eq_true', Bool.not_eq_false', Bool.and_eq_true, Bool.or_eq_true, Bool.and_eq_false_iff, Bool.or_eq_false_iff, Bool.not_true, Bool.not_false] at hs5
        refine o_on 17 _ rfl rfl hg4 ?_
        refine o_p (p_indexAddr_arr rfl rfl rfl ar_49 (Int.toNat _) (Int.toNat_of_nonneg (by omega)).symm (by omega)) rfl ?_
        refine o_on 17 _ rfl rfl hg4 ?_
        refine o_p (p_fieldAddr rfl rfl fd_48_4 sz_46 rfl) rfl ?_
        refine o_on 17 _ rfl rfl hg4 ?_
        refine o_q (q_load rfl rfl sz_46 aPk rfl) rfl ?_
        refine o_on 17 _ rfl rfl hg4 ?_
        refine o_p (p_len_slice rfl rfl Try.underlying46) rfl ?_
        refine o_on 17 _ rfl rfl hg4 ?_
        refine o_p (p_pure rfl) rfl ?_
        refine o_p (p_pickf rfl rfl hg4 rfl) rfl ?_
        refine o_nil ?_
        exact s_joinN 6 23 _ rfl rfl rfl (fun w h => by first | exact h | exact h.ent aEt))
      (by
        intro hg6
        have hs7 := hg6; try simp only [decide_eq_true_eq, decide_eq_false_iff_not, Bool.not_eq_true', Bool.not_eq_false', Bool.and_eq_true, Bool.or_eq_true, Bool.and_eq_false_iff, Bool.or_eq_false_iff, Bool.not_true, Bool.not_false] at hs7
        refine o_off 17 _ rfl rfl hg6 rfl ?_
        refine o_off 17 _ rfl rfl hg6 rfl ?_
        refine o_off 17 _ rfl rfl hg6 rfl ?_
        refine o_off 17 _ rfl rfl hg6 rfl ?_
        refine o_off 17 _ rfl rfl hg6 rfl ?_
        refine o_p (p_pickt rfl rfl hg6 rfl) rfl ?_
        refine o_nil ?_
        exact s_joinN 6 23 _ rfl rfl rfl (fun w h => by first | exact h | exact h.ent aEt)) ?_
    refine o_p (p_pure rfl) rfl ?_
    refine o_or 6 24 30 _ _ rfl
      (by
        intro hg8
        have hs9 := hg8; try simp only [decide_eq_true_eq, decide_eq_false_iff_not, Bool.not_eq_true', Bool.not_eq_false', Bool.and_eq_true, Bool.or_eq_true, Bool.and_eq_false_iff, Bool.or_eq_false_iff, Bool.not_true, Bool.not_false] at hs9
        refine o_on 24 _ rfl rfl hg8 ?_
        refine o_p (p_indexAddr_arr rfl rfl rfl ar_49 (Int.toNat _) (Int.toNat_of_nonneg (by omega)).symm (by omega)) rfl ?_
        refine o_on 24 _ rfl rfl hg8 ?_
        refine o_p (p_fieldAddr rfl rfl fd_48_4 sz_46 rfl) rfl ?_
        refine o_on 24 _ rfl rfl hg8 ?_
        refine o_q (q_load rfl rfl sz_46 aPk rfl) rfl ?_
        refine o_on 24 _ rfl rfl hg8 ?_
        refine o_p (p_len_slice rfl rfl Try.underlying46) rfl ?_
        refine o_on 24 _ rfl rfl hg8 ?_
        refine o_p (p_pure rfl) rfl ?_
        refine o_p (p_pickf rfl rfl hg8 rfl) rfl ?_
        refine o_nil ?_
        exact s_joinN 6 30 _ rfl rfl rfl (fun w h => by first | exact h | exact h.ent aEt))
      (by
        intro hg10
        have hs11 := hg10; try simp only [decide_eq_true_eq, decide_eq_false_iff_not, Bool.not_eq_true', Bool.not_eq_false', Bool.and_eq_true, Bool.or_eq_true, Bool.and_eq_false_iff, Bool.or_eq_false_iff, Bool.not_true, Bool.not_false] at hs11
        refine o_off 24 _ rfl rfl hg10 rfl ?_
        refine o_off 24 _ rfl rfl hg10 rfl ?_
        refine o_off 24 _ rfl rfl hg10 rfl ?_
        refine o_off 24 _ rfl rfl hg10 rfl ?_
        refine o_off 24 _ rfl rfl hg10 rfl ?_
        refine o_p (p_pickt rfl rfl hg10 rfl) rfl ?_
        refine o_nil ?_
        exact s_joinN 6 30 _ rfl rfl rfl (fun w h => by first | exact h | exact h.ent aEt)) ?_
    refine o_nil ?_
    refine s_cond rfl (fun h12 => ?_) (fun h12 => ?_)
    · try simp only [decide_eq_true_eq, decide_eq_false_iff_not, Bool.not_eq_true', Bool.not_eq_false', Bool.and_eq_true, Bool.or_eq_true, Bool.and_eq_false_iff, Bool.or_eq_false_iff, Bool.not_true, Bool.not_false] at h12
      refine s_seq ?_
      refine s_region ?_
      refine o_p (p_pure rfl) rfl ?_
      refine o_nil ?_
      exact s_retv (rs := [.tmp 4]) rfl (.tmp rfl (.nil)) (fun w' h' => ⟨by rfl, h'.below⟩)
    · try simp only [decide_eq_true_eq, decide_eq_false_iff_not, Bool.not_eq_true', Bool.not_eq_false', Bool.and_eq_true, Bool.or_eq_true, Bool.and_eq_false_iff, Bool.or_eq_false_iff, Bool.not_true, Bool.not_false] at h12
      have hfw : fewT L = true := by have hq := h12; simp at hq; grind
      have hb := fewT_b hfw
      refine s_skip ?_
      refine s_seq ?_
      refine s_region ?_
      refine o_q (q_loadn rfl rfl sz_26 aPk rfl) rfl ?_
      refine o_h (h_call rfl fn_19 rfl (fun w1 h1 => c19 w1 next a cap L (hs.later h1) hb.1 hb.2.1 hb.2.2)) rfl (fun ⟨⟨ca, cc⟩, N⟩ hgc => ?_)
      refine o_q (q_call rfl fn_18 rfl (fun w1 h1 => by have nb := same_b hgc hb; have h9 := c18 w1 next ca cc N (HS.ft (a := ca) (cap := cc) (l := N) h1 aPk) nb.1 nb.2.1; rw [show pls N = pls L from hgc] at h9; exact h9)) rfl ?_
      refine o_p (p_pure rfl) rfl ?_
      refine o_p (p_pure rfl) rfl ?_
      refine o_p (p_pure rfl) rfl ?_
      refine o_p (p_pure rfl) rfl ?_
      refine o_p (p_pure rfl) rfl ?_
      refine o_nil ?_
      refine s_seq ?_
      refine s_region ?_
      refine o_q (q_loadn rfl rfl sz_26 aPk rfl) rfl ?_
      refine o_q (q_call rfl fn_20 rfl (fun w1 h1 => c20 w1 next a cap L (hs.later h1) hb.1 hb.2.1)) rfl ?_
      refine o_p (p_pure rfl) rfl ?_
      refine o_p (p_pure rfl) rfl ?_
      refine o_p (p_pure rfl) rfl ?_
      refine o_p (p_pure rfl) rfl ?_
      refine o_p (p_pure rfl) rfl ?_
      refine o_nil ?_
      refine s_seq ?_
      refine s_seq ?_
      refine s_region ?_
      refine o_p (p_pure rfl) rfl ?_
      refine o_p (p_pure rfl) rfl ?_
      refine o_p (p_pure rfl) rfl ?_
      refine o_p (p_pure rfl) rfl ?_
      refine o_or 4 45 49 _ _ rfl
        (by
          intro hg13
          have hs14 := hg13; try simp only [decide_eq_true_eq, decide_eq_false_iff_not, Bool.not_eq_true', Bool.not_eq_false', Bool.and_eq_true, Bool.or_eq_true, Bool.and_eq_false_iff, Bool.or_eq_false_iff, Bool.not_true, Bool.not_false] at hs14
          refine o_on 45 _ rfl rfl hg13 ?_
          refine o_p (p_pure rfl) rfl ?_
          refine o_on 45 _ rfl rfl hg13 ?_
          refine o_p (p_pure rfl) rfl ?_
          refine o_on 45 _ rfl rfl hg13 ?_
          refine o_p (p_pure rfl) rfl ?_
          refine o_p (p_pickf rfl rfl hg13 rfl) rfl ?_
          refine o_nil ?_
          exact s_joinN 4 49 _ rfl rfl rfl (fun w h => by first | exact h | exact h.ent aEt))
        (by
          intro hg15
          have hs16 := hg15; try simp only [decide_eq_true_eq, decide_eq_false_iff_not, Bool.not_eq_true', Bool.not_eq_false', Bool.and_eq_true, Bool.or_eq_true, Bool.and_eq_false_iff, Bool.or_eq_false_iff, Bool.not_true, Bool.not_false] at hs16
          refine o_off 45 _ rfl rfl hg15 rfl ?_
          refine o_off 45 _ rfl rfl hg15 rfl ?_
          refine o_off 45 _ rfl rfl hg15 rfl ?_
          refine o_p (p_pickt rfl rfl hg15 rfl) rfl ?_
          refine o_nil ?_
          exact s_joinN 4 49 _ rfl rfl rfl (fun w h => by first | exact h | exact h.ent aEt)) ?_
      refine o_nil ?_
      refine s_cond rfl (fun h17 => ?_) (fun h17 => ?_)
      · try simp only [decide_eq_true_eq, decide_eq_false_iff_not, Bool.not_eq_true', Bool.not_eq_false', Bool.and_eq_true, Bool.or_eq_true, Bool.and_eq_false_iff, Bool.or_eq_false_iff, Bool.not_true, Bool.not_false] at h17
        exfalso; first | omega | (simp at h17; done) | (simp_all; done)
      · try simp only [decide_eq_true_eq, decide_eq_false_iff_not, Bool.not_eq_true', Bool.not_eq_false', Bool.and_eq_true, Bool.or_eq_true, Bool.and_eq_false_iff, Bool.or_eq_false_iff, Bool.not_true, Bool.not_false] at h17
        refine s_skip ?_
        refine s_seq ?_
        refine s_weaken (L' := [(3, _), (4, _)]) aSx (fun _ h => h) ?_
        refine s_region ?_
        refine o_p (p_indexAddr_arr rfl rfl rfl ar_49 (Int.toNat _) (Int.toNat_of_nonneg (by omega)).symm (by omega)) rfl ?_
        refine o_q (q_loadn rfl rfl sz_48 aPk rfl) rfl ?_
        refine o_p (p_indexAddr_arr rfl rfl rfl ar_49 (Int.toNat _) (Int.toNat_of_nonneg (by omega)).symm (by omega)) rfl ?_
        refine o_q (q_loadn rfl rfl sz_48 aPk rfl) rfl ?_
        refine o_q (q_call rfl fn_21 rfl (fun w1 h1 => c21 w1 x y)) rfl ?_
        refine o_p (p_pure rfl) rfl ?_
        refine o_p (p_pure rfl) rfl ?_
        refine o_p (p_pure rfl) rfl ?_
        refine o_p (p_pure rfl) rfl ?_
        refine o_p (p_pure rfl) rfl ?_
        refine o_nil ?_
        refine s_seq ?_
        refine s_draw [] mixed ?_
        refine d_p 0 rfl (p_indexAddr_arr rfl rfl rfl ar_49 (Int.toNat _) (Int.toNat_of_nonneg (by omega)).symm (by omega)) (by kernel_rfl) rfl rfl ?_
        refine d_q 1 [] rfl (q_loadn rfl rfl sz_48 aPk rfl) (by kernel_rfl) (by kernel_rfl) (by kernel_rfl) rfl ?_
        refine d_q 2 [] rfl (q_call rfl fn_22 rfl (fun w1 h1 => c22 w1 x)) (by kernel_rfl) (by kernel_rfl) (by kernel_rfl) rfl ?_
        refine d_p 3 rfl (p_indexAddr_arr rfl rfl rfl ar_49 (Int.toNat _) (Int.toNat_of_nonneg (by omega)).symm (by omega)) (by kernel_rfl) rfl rfl ?_
        refine d_q 4 [] rfl (q_loadn rfl rfl sz_48 aPk rfl) (by kernel_rfl) (by kernel_rfl) (by kernel_rfl) rfl ?_
        refine d_q 5 [] rfl (q_call rfl fn_22 rfl (fun w1 h1 => c22 w1 y)) (by kernel_rfl) (by kernel_rfl) (by kernel_rfl) rfl ?_
        refine d_p 6 rfl (p_max2 rfl rfl rfl ) (by kernel_rfl) rfl rfl ?_
        refine d_p 7 rfl (p_pure rfl) (by kernel_rfl) rfl rfl ?_
        refine d_nil (by kernel_rfl) (fun w h => h.ent aEt) ?_
        refine s_seq ?_
        refine s_seq ?_
        refine s_region ?_
        refine o_p (p_pure rfl) rfl ?_
        refine o_p (p_pure rfl) rfl ?_
        refine o_nil ?_
        refine s_cond rfl (fun h18 => ?_) (fun h18 => ?_)
        · try simp only [decide_eq_true_eq, decide_eq_false_iff_not, Bool.not_eq_true', Bool.not_eq_false', Bool.and_eq_true, Bool.or_eq_true, Bool.and_eq_false_iff, Bool.or_eq_false_iff, Bool.not_true, Bool.not_false] at h18
          have hmx := h18
          have hcf := cflT_max hmx
          refine s_seq ?_
          refine s_region ?_
          refine o_p (p_pure rfl) rfl ?_
          refine o_p (p_pure rfl) rfl ?_
          refine o_p (p_pure rfl) rfl ?_
          refine o_p (p_pure rfl) rfl ?_
          refine o_and 3 70 73 _ _ rfl
            (by
              intro hg19
              have hs20 := hg19; try simp only [decide_eq_true_eq, decide_eq_false_iff_not, Bool.not_eq_true', Bool.not_eq_false', Bool.and_eq_true, Bool.or_eq_true, Bool.and_eq_false_iff, Bool.or_eq_false_iff, Bool.not_true, Bool.not_false] at hs20
              refine o_on 70 _ rfl rfl hg19 ?_
              refine o_p (p_pure rfl) rfl ?_
              refine o_on 70 _ rfl rfl hg19 ?_
              refine o_p (p_pure rfl) rfl ?_
              refine o_p (p_pickt rfl rfl hg19 rfl) rfl ?_
              refine o_nil ?_
              exact s_joinN 3 73 _ rfl rfl rfl (fun w h => by first | exact h | exact h.ent aEt))
            (by
              intro hg21
              have hs22 := hg21; try simp only [decide_eq_true_eq, decide_eq_false_iff_not, Bool.not_eq_true', Bool.not_eq_false', Bool.and_eq_true, Bool.or_eq_true, Bool.and_eq_false_iff, Bool.or_eq_false_iff, Bool.not_true, Bool.not_false] at hs22
              refine o_off 70 _ rfl rfl hg21 rfl ?_
              refine o_off 70 _ rfl rfl hg21 rfl ?_
              refine o_p (p_pickf rfl rfl hg21 rfl) rfl ?_
              refine o_nil ?_
              exact s_joinN 3 73 _ rfl rfl rfl (fun w h => by first | exact h | exact h.ent aEt)) ?_
          refine o_p (p_pure rfl) rfl ?_
          refine o_nil ?_
          exact s_retv (rs := [.tmp 4]) rfl (.tmp rfl (.nil)) (fun w' h' => ⟨by (try simp only [retV]); simp [hcf], h'.below⟩)
        · try simp only [decide_eq_true_eq, decide_eq_false_iff_not, Bool.not_eq_true', Bool.not_eq_false', Bool.and_eq_true, Bool.or_eq_true, Bool.and_eq_false_iff, Bool.or_eq_false_iff, Bool.not_true, Bool.not_false] at h18
          have hmx := h18
          have hz := cflT_maz hmx
          have hcf := cflT_0 (a := x.pl) (b := y.pl) hz
          refine s_skip ?_
          refine s_seq ?_
          refine s_region ?_
          refine o_p (p_pure rfl) rfl ?_
          refine o_p (p_pure rfl) rfl ?_
          refine o_p (p_pure rfl) rfl ?_
          refine o_and 8 76 84 _ _ rfl
            (by
              intro hg23
              have hs24 := hg23; try simp only [decide_eq_true_eq, decide_eq_false_iff_not, Bool.not_eq_true', Bool.not_eq_false', Bool.and_eq_true, Bool.or_eq_true, Bool.and_eq_false_iff, Bool.or_eq_false_iff, Bool.not_true, Bool.not_false] at hs24
              refine o_on 76 _ rfl rfl hg23 ?_
              refine o_p (p_pure rfl) rfl ?_
              refine o_on 76 _ rfl rfl hg23 ?_
              refine o_p (p_indexAddr_arr rfl rfl rfl ar_49 (Int.toNat _) (Int.toNat_of_nonneg (by omega)).symm (by omega)) rfl ?_
              refine o_on 76 _ rfl rfl hg23 ?_
              refine o_q (q_loadn rfl rfl sz_48 aPk rfl) rfl ?_
              refine o_on 76 _ rfl rfl hg23 ?_
              refine o_p (p_indexAddr_arr rfl rfl rfl ar_49 (Int.toNat _) (Int.toNat_of_nonneg (by omega)).symm (by omega)) rfl ?_
              refine o_on 76 _ rfl rfl hg23 ?_
              refine o_q (q_loadn rfl rfl sz_48 aPk rfl) rfl ?_
              refine o_on 76 _ rfl rfl hg23 ?_
              refine o_q (q_call rfl fn_23 rfl (fun w1 h1 => c23 w1 x y hz.1 hz.2)) rfl ?_
              refine o_on 76 _ rfl rfl hg23 ?_
              refine o_p (p_eql_bool rfl rfl rfl Try.underlying4) rfl ?_
              refine o_p (p_pickt rfl rfl hg23 rfl) rfl ?_
              refine o_nil ?_
              exact s_joinN 8 84 _ rfl rfl rfl (fun w h => by first | exact h | exact h.ent aEt))
            (by
              intro hg25
              have hs26 := hg25; try simp only [decide_eq_true_eq, decide_eq_false_iff_not, Bool.not_eq_true', Bool.not_eq_false', Bool.and_eq_true, Bool.or_eq_true, Bool.and_eq_false_iff, Bool.or_eq_false_iff, Bool.not_true, Bool.not_false] at hs26
              refine o_off 76 _ rfl rfl hg25 rfl ?_
              refine o_off 76 _ rfl rfl hg25 rfl ?_
              refine o_off 76 _ rfl rfl hg25 rfl ?_
              refine o_off 76 _ rfl rfl hg25 rfl ?_
              refine o_off 76 _ rfl rfl hg25 rfl ?_
              refine o_off 76 _ rfl rfl hg25 rfl ?_
              refine o_off 76 _ rfl rfl hg25 rfl ?_
              refine o_p (p_pickf rfl rfl hg25 rfl) rfl ?_
              refine o_nil ?_
              exact s_joinN 8 84 _ rfl rfl rfl (fun w h => by first | exact h | exact h.ent aEt)) ?_
          refine o_p (p_pure rfl) rfl ?_
          refine o_nil ?_
          exact s_retv (rs := [.tmp 4]) rfl (.tmp rfl (.nil)) (fun w' h' => ⟨by (try simp only [retV]); simp [hcf], h'.below⟩)

end Go.Proofs

namespace Go.Proofs
open Go Go.RowKit Gx
set_option linter.unusedVariables false
set_option linter.unusedSimpArgs false
attribute [local irreducible] Go.Calls Gx.S Gx.O Gx.D Gx.OpP Gx.OpQ Gx.OpH

/-- The first i elements of one list, then the others of another one. -/
def mix {α : Type} (M l : List α) (i : Nat) : List α := M ++ l.drop i
section
variable {w0 w : World} {N : List Nat} {As As' : List HA} {a : Option Addr} {cap : Nat}
theorem own_to_blk {g t sz n : Nat} {xs : List Value} (hn : 0 < n) (h : HS w0 N As w) (hp : Pick As (.own (.slice (some ⟨g, 0, none⟩) n cap) t sz n xs) As') : HS w0 N (.blk g t (cap * sz) xs :: As') w := by
  obtain ⟨g', e, _, _, _, _, h2⟩ := h.own_blk hn hp
  injection e with e
  injection e with e
  subst e
  exact h2
theorem opens_shut {l : List LOpn} {n : Nat} {xs : List Value} (h : HS w0 N (.own (.slice a n cap) 48 5 n xs :: .star (l.map subO) :: As) w) (hn : n = l.length) (hx : xs = l.flatMap LOpn.vals) : HS w0 N (.opens a cap l :: As) w := HS.row_shut h hn hx
end

end Go.Proofs

namespace Go.Proofs
open Go Go.RowKit Gx
set_option linter.unusedVariables false
set_option linter.unusedSimpArgs false
attribute [local irreducible] Go.Calls Gx.S Gx.O Gx.D Gx.OpP Gx.OpQ Gx.OpH

end Go.Proofs

namespace Go.Proofs
open Go Go.RowKit Gx
set_option linter.unusedVariables false
set_option linter.unusedSimpArgs false
attribute [local irreducible] Go.Calls Gx.S Gx.O Gx.D Gx.OpP Gx.OpQ Gx.OpH



def openR (next : Int) (L : List Fil) (rc sq : Int) (x : Opn) : (List Fil × Int) × Int × Int := if (chkT next L).2 = 0 then if (openT next L rc sq x).2.2.2 = 0 then (((openT next L rc sq x).1, (openT next L rc sq x).2.1), (openT next L rc sq x).2.2.1, 0) else (([], 0), 0, (openT next L rc sq x).2.2.2) else (([], 0), 0, (chkT next L).2)
def closeR (next : Int) (L : List Fil) (h : Int) : (List Fil × Int) × Bool × Int := if (chkT next L).2 = 0 then if (closeT L h).2.2 = 0 then (((closeT L h).1, next), (closeT L h).2.1, 0) else (([], 0), false, (closeT L h).2.2) else (([], 0), false, (chkT next L).2)
theorem openR_1 {next : Int} {L : List Fil} {rc sq : Int} {x : Opn} (h : ¬ (chkT next L).2 = 0) : openR next L rc sq x = (([], 0), 0, (chkT next L).2) := by rw [openR, if_neg h]
theorem openR_e {next : Int} {L : List Fil} {rc sq : Int} {x : Opn} (h : (chkT next L).2 = 0) (h2 : ¬ (openT next L rc sq x).2.2.2 = 0) : openR next L rc sq x = (([], 0), 0, (openT next L rc sq x).2.2.2) := by rw [openR, if_pos h, if_neg h2]
theorem openR_0 {next : Int} {L : List Fil} {rc sq : Int} {x : Opn} (h : (chkT next L).2 = 0) (h2 : (openT next L rc sq x).2.2.2 = 0) : openR next L rc sq x = (((openT next L rc sq x).1, (openT next L rc sq x).2.1), (openT next L rc sq x).2.2.1, 0) := by rw [openR, if_pos h, if_pos h2]
theorem closeR_1 {next : Int} {L : List Fil} {a : Int} (h : ¬ (chkT next L).2 = 0) : closeR next L a = (([], 0), false, (chkT next L).2) := by rw [closeR, if_neg h]
theorem closeR_e {next : Int} {L : List Fil} {a : Int} (h : (chkT next L).2 = 0) (h2 : ¬ (closeT L a).2.2 = 0) : closeR next L a = (([], 0), false, (closeT L a).2.2) := by rw [closeR, if_pos h, if_neg h2]
theorem closeR_0 {next : Int} {L : List Fil} {a : Int} (h : (chkT next L).2 = 0) (h2 : (closeT L a).2.2 = 0) : closeR next L a = (((closeT L a).1, next), (closeT L a).2.1, 0) := by rw [closeR, if_pos h, if_pos h2]

end Go.Proofs

/- Chapter 25, plain: where a handle of a valid table is, and what its locks keep others from. No program here. -/
namespace Go.Proofs
open Go Go.RowKit Gx
set_option linter.unusedVariables false
set_option linter.unusedSimpArgs false
theorem vw_b {L : List LFil} (hV : VW (pls L)) : L.length ≤ 1000 ∧ (∀ f ∈ L, f.op.length ≤ 1000) ∧ ∀ f ∈ L, ∀ o ∈ f.op, o.lk.length ≤ 1000 := by
  have h := VW.lens hV
  refine ⟨by omega, fun f hf => by have := h.2 f hf; omega, fun f hf o ho => ?_⟩
  obtain ⟨i, hi, rfl⟩ := mem_nth_ex hf
  obtain ⟨k, hk, rfl⟩ := mem_nth_ex ho
  have := (VW.at hV hi hk).2.2
  omega
theorem runE_15 {l : List HAct} (hl : l.length ≤ 60) (h : ¬ runE l = 0) : runE l = 15 := by
  rw [runE_sm (by omega)] at h ⊢
  have aux : ∀ (es : List Int) (k : Nat), (∀ e ∈ es, e = 0 ∨ e = 15) → ¬ (eachF es k).2 = 0 → (eachF es k).2 = 15 := by
    intro es
    induction es with
    | nil => intro k _ h; exact absurd rfl h
    | cons e es ih =>
      intro k he h
      unfold eachF at h ⊢
      split at h
      · rename_i h0
        rw [if_pos h0]
        exact ih _ (fun x hx => he x (List.mem_cons_of_mem _ hx)) h
      · rename_i h0
        rw [if_neg h0]
        rcases he e List.mem_cons_self with h9 | h9
        · exact absurd h9 h0
        · exact h9
  refine aux _ 0 (fun e he => ?_) h
  obtain ⟨a, _, rfl⟩ := List.mem_map.1 he
  unfold kindE
  split <;> simp
end Go.Proofs

namespace Go.Proofs
open Go Go.RowKit Gx
set_option linter.unusedVariables false
set_option linter.unusedSimpArgs false
attribute [local irreducible] Go.Calls Gx.S Gx.O Gx.D Gx.OpP Gx.OpQ Gx.OpH

end Go.Proofs

