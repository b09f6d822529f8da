/- Contracts of the program's functions, proved by walking them with the rules of the Gx texts; without conditions beyond those that each contract names. -/
import Derived.WalkKit
import Derived.Deep.Draws
import Derived.Lib.Strings
import Derived.Laws.BytesArg
import Derived.Laws.IdiomStrings
import Derived.Deep.Quiet
import Derived.Laws.StructEq
import Derived.ChangeKeysEq
import Derived.Laws.Externs
import Derived.Lib.Overlaps
import Derived.Carry
import Derived.Laws.Small
import Derived.Test.YtgdigngojonbhaaProg
import Derived.KernelRfl
import Derived.ProofKit
import Derived.OpenShut
import Derived.Test.YtgdigngojonbhaaP2
namespace Go.Proofs
open Go Go.RowKit Gx
set_option linter.unusedVariables false
set_option linter.unusedSimpArgs false
attribute [local irreducible] Go.Calls Gx.S Gx.O Gx.D Gx.OpP Gx.OpQ Gx.OpH

theorem fn_72 : isFn Try.prog 72 = true := by kernel_rfl


theorem hdl_r (next : Int) (known : List Int) (ops : List Opn) (k : Nat) : hdlE next known ops k = if ¬ (1 ≤ (nth ops k).hd ∧ (nth ops k).hd ≤ next - 1) then 2 else if ¬ openE (nth ops k).ac (nth ops k).sh = 0 then openE (nth ops k).ac (nth ops k).sh else if ¬ (k = 0 ∨ (nth ops (k - 1)).hd < (nth ops k).hd) then 9 else if ¬ lksE (nth ops k).lk = 0 then lksE (nth ops k).lk else if (nth ops k).hd ∈ known then 23 else if (ops.take k).any (cfl (nth ops k)) = true then 28 else lockedE ((ops.take k).flatMap Opn.lk) (nth ops k).lk := by
  unfold hdlE lksE
  simp only []
  grind
theorem lksE_0 {l : List Lock} (h : lksE l = 0) : l.length ≤ 16 ∧ okL l := by
  unfold lksE at h
  split at h
  · exact absurd h (by decide)
  · exact ⟨by omega, rngs_ok h⟩
theorem hdl_ok {next : Int} {known : List Int} {ops : List Opn} {k : Nat} (h : hdlE next known ops k = 0) : openE (nth ops k).ac (nth ops k).sh = 0 ∧ (nth ops k).lk.length ≤ 16 ∧ okL (nth ops k).lk := by
  rw [hdl_r] at h
  split at h
  · exact absurd h (by decide)
  split at h
  · contradiction
  rename_i h2
  split at h
  · exact absurd h (by decide)
  split at h
  · contradiction
  rename_i h3
  exact ⟨Decidable.not_not.1 h2, lksE_0 (Decidable.not_not.1 h3)⟩
theorem fil_r {next : Int} {L : List LFil} {i : Nat} (hi : i < L.length) : filE next (pls L) i = if ¬ refE (nth L i).rc (nth L i).sq = 0 then refE (nth L i).rc (nth L i).sq else if ¬ (i = 0 ∨ refLt ((nth L (i - 1)).rc, (nth L (i - 1)).sq) ((nth L i).rc, (nth L i).sq) = true) then 9 else if (nth L i).op.length = 0 then 17 else hdlsE next (hds ((pls L).take i)) (plo (nth L i).op) := by
  unfold filE
  rw [nth_pls hi, nth_pls (show i - 1 < L.length by omega)]
  simp only [LFil.pl, List.length_map]
  grind
theorem hds_mem {L : List LFil} {i : Nat} {x : Int} : x ∈ hds ((pls L).take i) ↔ ∃ n m, n < i ∧ n < L.length ∧ m < (nth L n).op.length ∧ (nth (nth L n).op m).hd = x := by
  unfold hds
  rw [List.mem_flatMap]
  constructor
  · rintro ⟨f, hf, hx⟩
    obtain ⟨n, h1, h2, rfl⟩ := nth_mem_take hf
    have h2' : n < L.length := by simpa using h2
    rw [nth_pls h2'] at hx
    obtain ⟨o, ho, rfl⟩ := List.mem_map.1 hx
    obtain ⟨p, hp, rfl⟩ := List.mem_map.1 ho
    obtain ⟨m, hm, e⟩ := List.getElem_of_mem hp
    exact ⟨n, m, h1, h2', hm, by rw [nth_eq ((List.getElem?_eq_getElem hm).trans (congrArg some e))]; rfl⟩
  · rintro ⟨n, m, h1, h2, h3, rfl⟩
    refine ⟨(nth L n).pl, ?_, List.mem_map.2 ⟨(nth (nth L n).op m).pl, List.mem_map.2 ⟨_, mem_nth h3, rfl⟩, rfl⟩⟩
    have e : nth ((pls L).take i) n = (nth L n).pl := by rw [nth_take h1, nth_pls h2]
    rw [← e]
    exact mem_nth (by rw [List.length_take, List.length_map]; omega)
theorem any_take {ops : List LOpn} {k : Nat} {x : Opn} (hk : k ≤ ops.length) : ((plo ops).take k).any (cfl x) = true ↔ ∃ m, m < k ∧ cfl x (nth ops m).pl = true := by
  rw [List.any_eq_true]
  constructor
  · rintro ⟨o, ho, hx⟩
    obtain ⟨m, h1, h2, rfl⟩ := nth_mem_take ho
    rw [nth_plo (by simpa using h2)] at hx
    exact ⟨m, h1, hx⟩
  · rintro ⟨m, h1, hx⟩
    refine ⟨(nth ops m).pl, ?_, hx⟩
    have e : nth ((plo ops).take k) m = (nth ops m).pl := by rw [nth_take h1, nth_plo (by omega)]
    rw [← e]
    exact mem_nth (by rw [List.length_take, List.length_map]; omega)

set_option maxRecDepth 20000 in
theorem c99 (w : World) (f : LFil) (k : Nat) (hs : Ot w [] f.oa f.op) (hk : k < f.op.length) (hm0 : f.op.length ≤ 1000) (hv : ∀ n, n ≤ k → okL (nth f.op n).lk ∧ (nth f.op n).lk.length ≤ 16) : Calls Try.prog 99 #[.agg #[.int .i64 f.rc, .int .i64 f.sq, .bool f.pd, .slice f.oa f.op.length f.oc], .int .i64 (k : Int)] w fun en w' => en = .returned (.int .i64 (lockedE (((plo f.op).take k).flatMap Opn.lk) (nth f.op k).lk)) ∧ Below w.heap.size w w' := by
  have hvk := hv k (Nat.le_refl _)
  refine enter (args := [_, _]) Try.func99 Try.ntmps99 rfl rfl (HS.refl w []) ?_
  refine s_seq ?_
  refine s_region ?_
  refine o_h (h_box rfl rfl) rfl (fun b1 _ => ?_)
  refine o_p (p_pure rfl) rfl ?_
  refine o_nil ?_
  refine s_seq ?_
  refine s_seq ?_
  refine s_region ?_
  refine o_p (p_pure rfl) rfl ?_
  refine o_nil ?_
  refine s_block ?_
  refine s_loopI (α := Nat) [4, 5, 6, 7, 8, 9, 10, 11, 12, 13, 14, 15, 16, 17, 18, 19, 20, 21, 22, 23, 24, 25, 26, 27, 28, 29, 30, 31, 32, 33, 34, 35, 36, 37, 38, 39, 40, 41, 42, 43, 44, 45, 46, 47, 48, 49, 50, 51, 52, 53, 54, 55, 56, 57, 58, 59, 60, 61, 62, 63, 64, 65] (fun i => [(5, .int .i64 (i : Int))]) (fun _ => HS w [] [.blk b1 77 4 f.vals]) (fun i => i ≤ (nth f.op k).lk.length ∧ lockedE (((plo f.op).take k).flatMap Opn.lk) (nth f.op k).lk = lockedE ((((plo f.op).take k).flatMap Opn.lk) ++ (nth f.op k).lk.take i) ((nth f.op k).lk.drop i)) (fun i => (nth f.op k).lk.length - i) 0 ⟨Nat.zero_le _, by simp⟩ aSx (fun w h => h.ent aEt) (fun i hy => ?_)
  obtain ⟨hi1, hi2⟩ := hy
  refine s_seq ?_
  refine s_seq ?_
  refine s_region ?_
  refine o_p (p_pure rfl) rfl ?_
  refine o_p (p_fieldAddr rfl rfl fd_77_2 sz_75 rfl) rfl ?_
  refine o_q (q_load rfl rfl sz_75 aPk rfl) rfl ?_
  refine o_p (p_pure rfl) rfl ?_
  refine o_p (p_indexAddr rfl rfl rfl sl_75 (k) (by omega) (by omega) (Rw.some hs.1 (by omega))) rfl ?_
  refine o_p (p_fieldAddr rfl rfl fd_48_4 sz_46 rfl) rfl ?_
  refine o_q (q_load_old rfl rfl sz_46 ((hs.1.rdj 4 hk rfl))) rfl ?_
  refine o_p (p_len_slice rfl rfl Try.underlying46) rfl ?_
  refine o_p (p_pure rfl) rfl ?_
  refine o_nil ?_
  refine s_cond rfl (fun h2 => ?_) (fun h2 => ?_)
  · try simp only [decide_eq_true_eq, decide_eq_false_iff_not, Bool.not_eq_true', Bool.not_eq_false', Bool.and_eq_true, Bool.or_eq_true, Bool.and_eq_false_iff, Bool.or_eq_false_iff, Bool.not_true, Bool.not_false] at h2
    have hil : i < (nth f.op k).lk.length := by omega
    refine s_skip ?_
    refine s_seq ?_
    refine s_block ?_
    refine s_seq ?_
    refine s_region ?_
    refine o_p (p_fieldAddr rfl rfl fd_77_2 sz_75 rfl) rfl ?_
    refine o_q (q_load rfl rfl sz_75 aPk rfl) rfl ?_
    refine o_p (p_pure rfl) rfl ?_
    refine o_p (p_indexAddr rfl rfl rfl sl_75 (k) (by omega) (by omega) (Rw.some hs.1 (by omega))) rfl ?_
    refine o_p (p_fieldAddr rfl rfl fd_48_4 sz_46 rfl) rfl ?_
    refine o_q (q_load_old rfl rfl sz_46 ((hs.1.rdj 4 hk rfl))) rfl ?_
    refine o_p (p_pure rfl) rfl ?_
    refine o_p (p_indexAddr rfl rfl rfl sl_46 (i) (by omega) (by omega) (Rw.some (hs.at hk) (by omega))) rfl ?_
    refine o_q (q_load_oldn _ rfl rfl sz_62 rfl (Rw.rd (hs.at hk) hil)) rfl ?_
    refine o_h (h_alloc rfl zr_62) rfl (fun b3 _ => ?_)
    refine o_h0 (h_store rfl rfl rfl sz_62 rfl aPt (by simp only [setMany_length, List.length_set, List.length_cons, List.length_nil, List.length_map]; omega) rfl) (fun _ _ => ?_)
    refine o_nil ?_
    refine s_seq ?_
    refine s_region ?_
    refine o_p (p_pure rfl) rfl ?_
    refine o_nil ?_
    refine s_block ?_
    refine s_weaken (L' := [(0, _), (1, _), (2, _), (5, _), (6, _), (7, _)]) aSx (fun _ h => h) ?_
    refine s_loopI (α := Nat) [4, 7, 8, 29, 30, 31, 32, 33, 34, 35, 36, 37, 38, 39, 40, 41, 42, 43, 44, 45, 46, 47, 48, 49, 50, 51, 52, 53, 54, 55, 56, 57, 58, 59, 60, 61, 62, 63, 64, 65] (fun n => [(7, .int .i64 (n : Int))]) (fun _ => HS w [] [.blk b1 77 4 f.vals, .blk b3 62 3 (nth (nth f.op k).lk i).vals]) (fun n => n ≤ k + 1 ∧ noCl f.op k i n 0 (nth (nth f.op k).lk i)) (fun n => k + 1 - n) 0 ⟨by omega, fun n2 m2 h1 h2 h3 => by omega⟩ aSx (fun w h => h.ent aEt) (fun n hy => ?_)
    obtain ⟨hn1, hn2⟩ := hy
    refine s_seq ?_
    refine s_seq ?_
    refine s_region ?_
    refine o_p (p_pure rfl) rfl ?_
    refine o_p (p_pure rfl) rfl ?_
    refine o_p (p_pure rfl) rfl ?_
    refine o_nil ?_
    refine s_cond rfl (fun h4 => ?_) (fun h4 => ?_)
    · try simp only [decide_eq_true_eq, decide_eq_false_iff_not, Bool.not_eq_true', Bool.not_eq_false', Bool.and_eq_true, Bool.or_eq_true, Bool.and_eq_false_iff, Bool.or_eq_false_iff, Bool.not_true, Bool.not_false] at h4
      have hnk : n ≤ k := by omega
      have hnl : n < f.op.length := by omega
      have hvn := hv n hnk
      refine s_skip ?_
      refine s_seq ?_
      refine s_block ?_
      refine s_seq ?_
      refine s_region ?_
      refine o_p (p_pure rfl) rfl ?_
      refine o_nil ?_
      refine s_block ?_
      refine s_loopI (α := Nat) [4, 8, 34, 35, 36, 37, 38, 39, 40, 41, 42, 43, 44, 45, 46, 47, 48, 49, 50, 51, 52, 53, 54, 55, 56, 57, 58, 59, 60, 61, 62, 63, 64, 65] (fun m => [(8, .int .i64 (m : Int))]) (fun _ => HS w [] [.blk b1 77 4 f.vals, .blk b3 62 3 (nth (nth f.op k).lk i).vals]) (fun m => m ≤ (nth f.op n).lk.length ∧ noCl f.op k i n m (nth (nth f.op k).lk i)) (fun m => (nth f.op n).lk.length - m) 0 ⟨Nat.zero_le _, hn2⟩ aSx (fun w h => h.ent aEt) (fun m hy => ?_)
      obtain ⟨hm1, hm2⟩ := hy
      refine s_seq ?_
      refine s_seq ?_
      refine s_region ?_
      refine o_p (p_pure rfl) rfl ?_
      refine o_p (p_fieldAddr rfl rfl fd_77_2 sz_75 rfl) rfl ?_
      refine o_q (q_load rfl rfl sz_75 aPk rfl) rfl ?_
      refine o_p (p_pure rfl) rfl ?_
      refine o_p (p_indexAddr rfl rfl rfl sl_75 (n) (by omega) (by omega) (Rw.some hs.1 (by omega))) rfl ?_
      refine o_p (p_fieldAddr rfl rfl fd_48_4 sz_46 rfl) rfl ?_
      refine o_q (q_load_old rfl rfl sz_46 ((hs.1.rdj 4 hnl rfl))) rfl ?_
      refine o_p (p_len_slice rfl rfl Try.underlying46) rfl ?_
      refine o_p (p_pure rfl) rfl ?_
      refine o_nil ?_
      refine s_cond rfl (fun h5 => ?_) (fun h5 => ?_)
      · try simp only [decide_eq_true_eq, decide_eq_false_iff_not, Bool.not_eq_true', Bool.not_eq_false', Bool.and_eq_true, Bool.or_eq_true, Bool.and_eq_false_iff, Bool.or_eq_false_iff, Bool.not_true, Bool.not_false] at h5
        have hml : m < (nth f.op n).lk.length := by omega
        refine s_skip ?_
        refine s_seq ?_
        refine s_block ?_
        refine s_seq ?_
        refine s_cutI (α := Unit) [45, 46, 47, 48, 49, 50, 51, 52, 53, 54, 55, 56, 57, 58, 59, 60, 61, 62, 63, 64, 65] (fun _ => [(65, (.bool ((decide ((n : Int) < (k : Int)) || decide ((m : Int) < (i : Int))) && clsh (nth (nth f.op k).lk i) (nth (nth f.op n).lk m))))]) (fun _ => HS w [] [.blk b1 77 4 f.vals, .blk b3 62 3 (nth (nth f.op k).lk i).vals]) (fun _ => True) ?_ ?_
        · skip
          refine s_draw [] mixed ?_
          refine d_p 0 rfl (p_pure rfl) (by kernel_rfl) rfl rfl ?_
          refine d_p 1 rfl (p_pure rfl) (by kernel_rfl) rfl rfl ?_
          refine d_p 2 rfl (p_pure rfl) (by kernel_rfl) rfl rfl ?_
          refine d_p 3 rfl (p_pure rfl) (by kernel_rfl) rfl rfl ?_
          apply d_split 48
          · exact rfl
          · intro hg6
            have hs7 := hg6; try simp only [decide_eq_true_eq, decide_eq_false_iff_not, Bool.not_eq_true', Bool.not_eq_false', Bool.and_eq_true, Bool.or_eq_true, Bool.and_eq_false_iff, Bool.or_eq_false_iff, Bool.not_true, Bool.not_false] at hs7
            refine d_off 4 48 rfl rfl rfl hg6 (by kernel_rfl) rfl rfl ?_
            refine d_off 5 48 rfl rfl rfl hg6 (by kernel_rfl) rfl rfl ?_
            refine d_off 6 48 rfl rfl rfl hg6 (by kernel_rfl) rfl rfl ?_
            refine d_p 7 rfl (p_pickt rfl rfl hg6 rfl) (by kernel_rfl) rfl rfl ?_
            refine d_p 8 rfl (p_pure rfl) (by kernel_rfl) rfl rfl ?_
            apply d_split 53
            · exact rfl
            · intro hg8
              have hs9 := hg8; try simp only [decide_eq_true_eq, decide_eq_false_iff_not, Bool.not_eq_true', Bool.not_eq_false', Bool.and_eq_true, Bool.or_eq_true, Bool.and_eq_false_iff, Bool.or_eq_false_iff, Bool.not_true, Bool.not_false] at hs9
              refine d_qon 9 53 [] rfl rfl rfl hg8 (q_loadn rfl rfl sz_62 aPk rfl) (by kernel_rfl) (by kernel_rfl) (by kernel_rfl) rfl ?_
              refine d_pon 10 53 rfl rfl rfl hg8 (p_fieldAddr rfl rfl fd_77_2 sz_75 rfl) (by kernel_rfl) rfl rfl ?_
              refine d_qon 11 53 [] rfl rfl rfl hg8 (q_load rfl rfl sz_75 aPk rfl) (by kernel_rfl) (by kernel_rfl) (by kernel_rfl) rfl ?_
              refine d_pon 12 53 rfl rfl rfl hg8 (p_pure rfl) (by kernel_rfl) rfl rfl ?_
              refine d_pon 13 53 rfl rfl rfl hg8 (p_indexAddr rfl rfl rfl sl_75 (n) (by omega) (by omega) (Rw.some hs.1 (by omega))) (by kernel_rfl) rfl rfl ?_
              refine d_pon 14 53 rfl rfl rfl hg8 (p_fieldAddr rfl rfl fd_48_4 sz_46 rfl) (by kernel_rfl) rfl rfl ?_
              refine d_qon 15 53 [] rfl rfl rfl hg8 (q_load_old rfl rfl sz_46 ((hs.1.rdj 4 hnl rfl))) (by kernel_rfl) (by kernel_rfl) (by kernel_rfl) rfl ?_
              refine d_pon 16 53 rfl rfl rfl hg8 (p_pure rfl) (by kernel_rfl) rfl rfl ?_
              refine d_pon 17 53 rfl rfl rfl hg8 (p_indexAddr rfl rfl rfl sl_46 (m) (by omega) (by omega) (Rw.some (hs.at hnl) (by omega))) (by kernel_rfl) rfl rfl ?_
              refine d_qon 18 53 [] rfl rfl rfl hg8 (q_load_oldn _ rfl rfl sz_62 rfl (Rw.rd (hs.at hnl) hml)) (by kernel_rfl) (by kernel_rfl) (by kernel_rfl) rfl ?_
              refine d_qon 19 53 [] rfl rfl rfl hg8 (q_call rfl fn_72 rfl (fun w1 h1 => c72 w1 _ _ (okL_nth hvk.1 hil) (okL_nth hvn.1 hml))) (by kernel_rfl) (by kernel_rfl) (by kernel_rfl) rfl ?_
              refine d_p 20 rfl (p_pickt rfl rfl hg8 rfl) (by kernel_rfl) rfl rfl ?_
              refine d_nil (by kernel_rfl) (fun w h => h.ent aEt) ?_
              exact s_joinI () trivial (sl_c (congrArg (fun e => some (Value.bool e)) (by first | (simp_all; done) | (simp_all; intro h9; omega))) aSx) (fun w h => h.ent aEt)
            · intro hg10
              have hs11 := hg10; try simp only [decide_eq_true_eq, decide_eq_false_iff_not, Bool.not_eq_true', Bool.not_eq_false', Bool.and_eq_true, Bool.or_eq_true, Bool.and_eq_false_iff, Bool.or_eq_false_iff, Bool.not_true, Bool.not_false] at hs11
              refine d_off 9 53 rfl rfl rfl hg10 (by kernel_rfl) rfl rfl ?_
              refine d_off 10 53 rfl rfl rfl hg10 (by kernel_rfl) rfl rfl ?_
              refine d_off 11 53 rfl rfl rfl hg10 (by kernel_rfl) rfl rfl ?_
              refine d_off 12 53 rfl rfl rfl hg10 (by kernel_rfl) rfl rfl ?_
              refine d_off 13 53 rfl rfl rfl hg10 (by kernel_rfl) rfl rfl ?_
              refine d_off 14 53 rfl rfl rfl hg10 (by kernel_rfl) rfl rfl ?_
              refine d_off 15 53 rfl rfl rfl hg10 (by kernel_rfl) rfl rfl ?_
              refine d_off 16 53 rfl rfl rfl hg10 (by kernel_rfl) rfl rfl ?_
              refine d_off 17 53 rfl rfl rfl hg10 (by kernel_rfl) rfl rfl ?_
              refine d_off 18 53 rfl rfl rfl hg10 (by kernel_rfl) rfl rfl ?_
              refine d_off 19 53 rfl rfl rfl hg10 (by kernel_rfl) rfl rfl ?_
              refine d_p 20 rfl (p_pickf rfl rfl hg10 rfl) (by kernel_rfl) rfl rfl ?_
              refine d_nil (by kernel_rfl) (fun w h => h.ent aEt) ?_
              exact s_joinI () trivial (sl_c (congrArg (fun e => some (Value.bool e)) (by first | (simp_all; done) | (simp_all; intro h9; omega))) aSx) (fun w h => h.ent aEt)
          · intro hg12
            have hs13 := hg12; try simp only [decide_eq_true_eq, decide_eq_false_iff_not, Bool.not_eq_true', Bool.not_eq_false', Bool.and_eq_true, Bool.or_eq_true, Bool.and_eq_false_iff, Bool.or_eq_false_iff, Bool.not_true, Bool.not_false] at hs13
            refine d_pon 4 48 rfl rfl rfl hg12 (p_pure rfl) (by kernel_rfl) rfl rfl ?_
            refine d_pon 5 48 rfl rfl rfl hg12 (p_pure rfl) (by kernel_rfl) rfl rfl ?_
            refine d_pon 6 48 rfl rfl rfl hg12 (p_pure rfl) (by kernel_rfl) rfl rfl ?_
            refine d_p 7 rfl (p_pickf rfl rfl hg12 rfl) (by kernel_rfl) rfl rfl ?_
            refine d_p 8 rfl (p_pure rfl) (by kernel_rfl) rfl rfl ?_
            apply d_split 53
            · exact rfl
            · intro hg14
              have hs15 := hg14; try simp only [decide_eq_true_eq, decide_eq_false_iff_not, Bool.not_eq_true', Bool.not_eq_false', Bool.and_eq_true, Bool.or_eq_true, Bool.and_eq_false_iff, Bool.or_eq_false_iff, Bool.not_true, Bool.not_false] at hs15
              refine d_qon 9 53 [] rfl rfl rfl hg14 (q_loadn rfl rfl sz_62 aPk rfl) (by kernel_rfl) (by kernel_rfl) (by kernel_rfl) rfl ?_
              refine d_pon 10 53 rfl rfl rfl hg14 (p_fieldAddr rfl rfl fd_77_2 sz_75 rfl) (by kernel_rfl) rfl rfl ?_
              refine d_qon 11 53 [] rfl rfl rfl hg14 (q_load rfl rfl sz_75 aPk rfl) (by kernel_rfl) (by kernel_rfl) (by kernel_rfl) rfl ?_
              refine d_pon 12 53 rfl rfl rfl hg14 (p_pure rfl) (by kernel_rfl) rfl rfl ?_
              refine d_pon 13 53 rfl rfl rfl hg14 (p_indexAddr rfl rfl rfl sl_75 (n) (by omega) (by omega) (Rw.some hs.1 (by omega))) (by kernel_rfl) rfl rfl ?_
              refine d_pon 14 53 rfl rfl rfl hg14 (p_fieldAddr rfl rfl fd_48_4 sz_46 rfl) (by kernel_rfl) rfl rfl ?_
              refine d_qon 15 53 [] rfl rfl rfl hg14 (q_load_old rfl rfl sz_46 ((hs.1.rdj 4 hnl rfl))) (by kernel_rfl) (by kernel_rfl) (by kernel_rfl) rfl ?_
              refine d_pon 16 53 rfl rfl rfl hg14 (p_pure rfl) (by kernel_rfl) rfl rfl ?_
              refine d_pon 17 53 rfl rfl rfl hg14 (p_indexAddr rfl rfl rfl sl_46 (m) (by omega) (by omega) (Rw.some (hs.at hnl) (by omega))) (by kernel_rfl) rfl rfl ?_
              refine d_qon 18 53 [] rfl rfl rfl hg14 (q_load_oldn _ rfl rfl sz_62 rfl (Rw.rd (hs.at hnl) hml)) (by kernel_rfl) (by kernel_rfl) (by kernel_rfl) rfl ?_
              refine d_qon 19 53 [] rfl rfl rfl hg14 (q_call rfl fn_72 rfl (fun w1 h1 => c72 w1 _ _ (okL_nth hvk.1 hil) (okL_nth hvn.1 hml))) (by kernel_rfl) (by kernel_rfl) (by kernel_rfl) rfl ?_
              refine d_p 20 rfl (p_pickt rfl rfl hg14 rfl) (by kernel_rfl) rfl rfl ?_
              refine d_nil (by kernel_rfl) (fun w h => h.ent aEt) ?_
              exact s_joinI () trivial (sl_c (congrArg (fun e => some (Value.bool e)) (by first | (simp_all; done) | (simp_all; intro h9; omega))) aSx) (fun w h => h.ent aEt)
            · intro hg16
              have hs17 := hg16; try simp only [decide_eq_true_eq, decide_eq_false_iff_not, Bool.not_eq_true', Bool.not_eq_false', Bool.and_eq_true, Bool.or_eq_true, Bool.and_eq_false_iff, Bool.or_eq_false_iff, Bool.not_true, Bool.not_false] at hs17
              refine d_off 9 53 rfl rfl rfl hg16 (by kernel_rfl) rfl rfl ?_
              refine d_off 10 53 rfl rfl rfl hg16 (by kernel_rfl) rfl rfl ?_
              refine d_off 11 53 rfl rfl rfl hg16 (by kernel_rfl) rfl rfl ?_
              refine d_off 12 53 rfl rfl rfl hg16 (by kernel_rfl) rfl rfl ?_
              refine d_off 13 53 rfl rfl rfl hg16 (by kernel_rfl) rfl rfl ?_
              refine d_off 14 53 rfl rfl rfl hg16 (by kernel_rfl) rfl rfl ?_
              refine d_off 15 53 rfl rfl rfl hg16 (by kernel_rfl) rfl rfl ?_
              refine d_off 16 53 rfl rfl rfl hg16 (by kernel_rfl) rfl rfl ?_
              refine d_off 17 53 rfl rfl rfl hg16 (by kernel_rfl) rfl rfl ?_
              refine d_off 18 53 rfl rfl rfl hg16 (by kernel_rfl) rfl rfl ?_
              refine d_off 19 53 rfl rfl rfl hg16 (by kernel_rfl) rfl rfl ?_
              refine d_p 20 rfl (p_pickf rfl rfl hg16 rfl) (by kernel_rfl) rfl rfl ?_
              refine d_nil (by kernel_rfl) (fun w h => h.ent aEt) ?_
              exact s_joinI () trivial (sl_c (congrArg (fun e => some (Value.bool e)) (by first | (simp_all; done) | (simp_all; intro h9; omega))) aSx) (fun w h => h.ent aEt)
        · intro _ _
          refine s_cond rfl (fun h18 => ?_) (fun h18 => ?_)
          · try simp only [decide_eq_true_eq, decide_eq_false_iff_not, Bool.not_eq_true', Bool.not_eq_false', Bool.and_eq_true, Bool.or_eq_true, Bool.and_eq_false_iff, Bool.or_eq_false_iff, Bool.not_true, Bool.not_false] at h18
            have hhit : (n < k ∨ m < i) ∧ clsh (nth (nth f.op k).lk i) (nth (nth f.op n).lk m) = true := by have hq := h18; simpa using hq
            refine s_seq ?_
            refine s_region ?_
            refine o_p (p_pure rfl) rfl ?_
            refine o_nil ?_
            exact s_retv (rs := [.tmp 4]) rfl (.tmp rfl (.nil)) (fun w' h' => ⟨by rw [hi2, lockedE_drop hil, if_pos (noCl_hit hk hnl hml hnk hhit.1 hhit.2)]; rfl, h'.below⟩)
          · try simp only [decide_eq_true_eq, decide_eq_false_iff_not, Bool.not_eq_true', Bool.not_eq_false', Bool.and_eq_true, Bool.or_eq_true, Bool.and_eq_false_iff, Bool.or_eq_false_iff, Bool.not_true, Bool.not_false] at h18
            have hmiss : (n < k ∨ m < i) → clsh (nth (nth f.op k).lk i) (nth (nth f.op n).lk m) = false := by have hq := h18; (try simp at hq); intro h9; rcases h9 with h9 | h9 <;> grind
            refine s_skip ?_
            refine s_blk ?_
            refine s_region ?_
            refine o_p (p_pure rfl) rfl ?_
            refine o_p (p_pure rfl) rfl ?_
            try (refine o_slot (i64w (by omega) (by omega)) ?_)
            refine o_p (p_pure rfl) rfl ?_
            refine o_nil ?_
            exact s_backI (m + 1) (by omega) ⟨by omega, fun n2 m2 p1 p2 p3 p4 p5 => (Decidable.em (n2 = n ∧ m2 = m)).elim (fun he => by have q1 := he.1; have q2 := he.2; rw [q1, q2]; exact hmiss (by omega)) (fun he => hm2 n2 m2 p1 p2 (by omega) p4 p5)⟩ aSx (fun w h => h.ent aEt)
      · try simp only [decide_eq_true_eq, decide_eq_false_iff_not, Bool.not_eq_true', Bool.not_eq_false', Bool.and_eq_true, Bool.or_eq_true, Bool.and_eq_false_iff, Bool.or_eq_false_iff, Bool.not_true, Bool.not_false] at h5
        refine s_exit_to rfl ?_
        refine s_blk ?_
        refine s_region ?_
        refine o_p (p_pure rfl) rfl ?_
        refine o_p (p_pure rfl) rfl ?_
        try (refine o_slot (i64w (by omega) (by omega)) ?_)
        refine o_p (p_pure rfl) rfl ?_
        refine o_nil ?_
        exact s_backI (n + 1) (by omega) ⟨by omega, fun n2 m2 p1 p2 p3 => hm2 n2 m2 p1 p2 ((Nat.lt_or_ge n2 n).elim Or.inl (fun p9 => .inr (by have e9 : n2 = n := (by omega); rw [e9] at p2; exact ⟨e9, by omega⟩)))⟩ aSx (fun w h => h.ent aEt)
    · try simp only [decide_eq_true_eq, decide_eq_false_iff_not, Bool.not_eq_true', Bool.not_eq_false', Bool.and_eq_true, Bool.or_eq_true, Bool.and_eq_false_iff, Bool.or_eq_false_iff, Bool.not_true, Bool.not_false] at h4
      refine s_exit_to rfl ?_
      refine s_blk ?_
      refine s_region ?_
      refine o_p (p_pure rfl) rfl ?_
      refine o_p (p_pure rfl) rfl ?_
      try (refine o_slot (i64w (by omega) (by omega)) ?_)
      refine o_p (p_pure rfl) rfl ?_
      refine o_nil ?_
      exact s_backI (i + 1) (by omega) ⟨by omega, by rw [hi2, lockedE_drop hil, if_neg (by rw [noCl_all hk (n := n) (by omega) hn2]; decide), List.append_assoc, take_succ_nth hil]⟩ aSx (fun w h => h.ent aEt)
  · try simp only [decide_eq_true_eq, decide_eq_false_iff_not, Bool.not_eq_true', Bool.not_eq_false', Bool.and_eq_true, Bool.or_eq_true, Bool.and_eq_false_iff, Bool.or_eq_false_iff, Bool.not_true, Bool.not_false] at h2
    refine s_exit_to rfl ?_
    refine s_seq ?_
    refine s_region ?_
    refine o_p (p_pure rfl) rfl ?_
    refine o_nil ?_
    exact s_retv (rs := [.tmp 4]) rfl (.tmp rfl (.nil)) (fun w' h' => ⟨by rw [hi2, List.drop_of_length_le (by omega)]; rfl, h'.below⟩)

end Go.Proofs

namespace Go.Proofs
open Go Go.RowKit Gx
set_option linter.unusedVariables false
set_option linter.unusedSimpArgs false
attribute [local irreducible] Go.Calls Gx.S Gx.O Gx.D Gx.OpP Gx.OpQ Gx.OpH

theorem fn_22 : isFn Try.prog 22 = true := by kernel_rfl
theorem fn_98 : isFn Try.prog 98 = true := by kernel_rfl
theorem fn_23 : isFn Try.prog 23 = true := by kernel_rfl
theorem fn_99 : isFn Try.prog 99 = true := by kernel_rfl


theorem hdl_l {next : Int} {known : List Int} {ops : List LOpn} {k : Nat} (hk : k < ops.length) : hdlE next known (plo ops) k = if ¬ (1 ≤ (nth ops k).hd ∧ (nth ops k).hd ≤ next - 1) then 2 else if ¬ openE (nth ops k).ac (nth ops k).sh = 0 then openE (nth ops k).ac (nth ops k).sh else if ¬ (k = 0 ∨ (nth ops (k - 1)).hd < (nth ops k).hd) then 9 else if ¬ lksE (nth ops k).lk = 0 then lksE (nth ops k).lk else if (nth ops k).hd ∈ known then 23 else if ((plo ops).take k).any (cfl (nth ops k).pl) = true then 28 else lockedE (((plo ops).take k).flatMap Opn.lk) (nth ops k).lk := by
  rw [hdl_r, nth_plo hk, nth_plo (show k - 1 < ops.length by omega)]
  rfl
theorem hdl_okl {next : Int} {known : List Int} {ops : List LOpn} {k : Nat} (hk : k < ops.length) (h : hdlE next known (plo ops) k = 0) : openE (nth ops k).ac (nth ops k).sh = 0 ∧ (nth ops k).lk.length ≤ 16 ∧ okL (nth ops k).lk := by
  have h9 := hdl_ok h
  rw [nth_plo hk] at h9
  exact h9

set_option maxRecDepth 20000 in
set_option maxHeartbeats 1000000 in
theorem c61 (w : World) (next : Int) (a : Option Addr) (cap : Nat) (L : List LFil) (i k : Nat) (hs : Ft w [] a L) (hm : L.length ≤ 1000) (hmo : ∀ f ∈ L, f.op.length ≤ 1000) (hi : i < L.length) (hk : k < (nth L i).op.length) (hn : 1 ≤ next ∧ next ≤ 2147483647) (hv : ∀ j, j < k → hdlE next (hds ((pls L).take i)) (plo (nth L i).op) j = 0) : Calls Try.prog 61 #[.agg #[.int .i64 next, .slice a L.length cap], .int .i64 (i : Int), .int .i64 (k : Int)] w fun en w' => en = .returned (.int .i64 (hdlE next (hds ((pls L).take i)) (plo (nth L i).op) k)) ∧ Below w.heap.size w w' := by
  have hoi := hmo _ (mem_nth hi)
  refine enter (args := [_, _, _]) Try.func61 Try.ntmps61 rfl rfl (HS.refl w []) ?_
  refine s_seq ?_
  refine s_region ?_
  refine o_h (h_box rfl rfl) rfl (fun b1 _ => ?_)
  refine o_p (p_pure rfl) rfl ?_
  refine o_nil ?_
  refine s_seq ?_
  refine s_region ?_
  refine o_p (p_fieldAddr rfl rfl fd_26_1 sz_24 rfl) rfl ?_
  refine o_q (q_load rfl rfl sz_24 aPk rfl) rfl ?_
  refine o_p (p_pure rfl) rfl ?_
  refine o_p (p_indexAddr rfl rfl rfl sl_24 (i) (by omega) (by omega) (Rw.some hs.1 (by omega))) rfl ?_
  refine o_q (q_load_oldn _ rfl rfl sz_77 rfl (Rw.rd hs.1 hi)) rfl ?_
  refine o_h (h_alloc rfl zr_77) rfl (fun b2 _ => ?_)
  refine o_h0 (h_store rfl rfl rfl sz_77 rfl aPt (by simp only [setMany_length, List.length_set, List.length_cons, List.length_nil, List.length_map]; omega) rfl) (fun _ _ => ?_)
  refine o_nil ?_
  refine s_seq ?_
  refine s_region ?_
  refine o_p (p_fieldAddr rfl rfl fd_77_2 sz_75 rfl) rfl ?_
  refine o_q (q_load rfl rfl sz_75 aPk rfl) rfl ?_
  refine o_p (p_pure rfl) rfl ?_
  refine o_p (p_indexAddr rfl rfl rfl sl_75 (k) (by omega) (by omega) (Rw.some (hs.at hi).1 (by omega))) rfl ?_
  refine o_q (q_load_oldn _ rfl rfl sz_48 rfl (Rw.rd (hs.at hi).1 hk)) rfl ?_
  refine o_h (h_alloc rfl zr_48) rfl (fun b3 _ => ?_)
  refine o_h0 (h_store rfl rfl rfl sz_48 rfl aPt (by simp only [setMany_length, List.length_set, List.length_cons, List.length_nil, List.length_map]; omega) rfl) (fun _ _ => ?_)
  refine o_nil ?_
  refine s_seq ?_
  refine s_seq ?_
  refine s_region ?_
  refine o_p (p_fieldAddr rfl rfl fd_48_0 sz_3 rfl) rfl ?_
  refine o_q (q_load rfl rfl sz_3 aPk rfl) rfl ?_
  refine o_p (p_fieldAddr rfl rfl fd_26_0 sz_3 rfl) rfl ?_
  refine o_q (q_load rfl rfl sz_3 aPk rfl) rfl ?_
  refine o_p (p_pure rfl) rfl ?_
  try (refine o_slot (i64w (by omega) (by omega)) ?_)
  refine o_q (q_call rfl fn_16 rfl (fun w1 h1 => c16 w1 _ _ _)) rfl ?_
  refine o_p (p_pure rfl) rfl ?_
  refine o_nil ?_
  refine s_cond rfl (fun h4 => ?_) (fun h4 => ?_)
  · try simp only [decide_eq_true_eq, decide_eq_false_iff_not, Bool.not_eq_true', Bool.not_eq_false', Bool.and_eq_true, Bool.or_eq_true, Bool.and_eq_false_iff, Bool.or_eq_false_iff, Bool.not_true, Bool.not_false] at h4
    have hA : ¬ (1 ≤ (nth (nth L i).op k).hd ∧ (nth (nth L i).op k).hd ≤ next - 1) := by have hq := h4; (try simp at hq); omega
    refine s_seq ?_
    refine s_region ?_
    refine o_p (p_pure rfl) rfl ?_
    refine o_nil ?_
    exact s_retv (rs := [.tmp 6]) rfl (.tmp rfl (.nil)) (fun w' h' => ⟨by rw [hdl_l hk, if_pos hA]; rfl, h'.below⟩)
  · try simp only [decide_eq_true_eq, decide_eq_false_iff_not, Bool.not_eq_true', Bool.not_eq_false', Bool.and_eq_true, Bool.or_eq_true, Bool.and_eq_false_iff, Bool.or_eq_false_iff, Bool.not_true, Bool.not_false] at h4
    have hA : 1 ≤ (nth (nth L i).op k).hd ∧ (nth (nth L i).op k).hd ≤ next - 1 := by have hq := h4; (try simp at hq); omega
    refine s_skip ?_
    refine s_seq ?_
    refine s_seq ?_
    refine s_region ?_
    refine o_q (q_loadn rfl rfl sz_48 aPk rfl) rfl ?_
    refine o_q (q_call rfl fn_22 rfl (fun w1 h1 => c22 w1 (nth (nth L i).op k))) rfl ?_
    refine o_p (p_pure rfl) rfl ?_
    refine o_nil ?_
    refine s_seq ?_
    refine s_region ?_
    refine o_p (p_pure rfl) rfl ?_
    refine o_p (p_pure rfl) rfl ?_
    refine o_nil ?_
    refine s_cond rfl (fun h5 => ?_) (fun h5 => ?_)
    · try simp only [decide_eq_true_eq, decide_eq_false_iff_not, Bool.not_eq_true', Bool.not_eq_false', Bool.and_eq_true, Bool.or_eq_true, Bool.and_eq_false_iff, Bool.or_eq_false_iff, Bool.not_true, Bool.not_false] at h5
      have hB : ¬ openE (nth (nth L i).op k).ac (nth (nth L i).op k).sh = 0 := h5
      refine s_seq ?_
      refine s_region ?_
      refine o_p (p_pure rfl) rfl ?_
      refine o_p (p_pure rfl) rfl ?_
      refine o_nil ?_
      exact s_retv (rs := [.tmp 6]) rfl (.tmp rfl (.nil)) (fun w' h' => ⟨by rw [hdl_l hk, if_neg (not_not_intro hA), if_pos hB]; rfl, h'.below⟩)
    · try simp only [decide_eq_true_eq, decide_eq_false_iff_not, Bool.not_eq_true', Bool.not_eq_false', Bool.and_eq_true, Bool.or_eq_true, Bool.and_eq_false_iff, Bool.or_eq_false_iff, Bool.not_true, Bool.not_false] at h5
      have hB : openE (nth (nth L i).op k).ac (nth (nth L i).op k).sh = 0 := h5
      refine s_skip ?_
      refine s_seq ?_
      refine s_seq ?_
      refine s_weaken (L' := [(1, _), (2, _), (3, _), (6, _), (7, _), (8, _)]) aSx (fun _ h => h) ?_
      refine s_cutI (α := Unit) [36, 37, 38, 39, 40, 41, 42, 43, 44, 45, 46, 47, 48, 49] (fun _ => [(49, .bool (decide (¬ (k = 0 ∨ (nth (nth L i).op (k - 1)).hd < (nth (nth L i).op k).hd))))]) (fun _ => HS w [] [.blk b1 26 2 [.int .i64 next, .slice a L.length cap], .blk b2 77 4 (nth L i).vals, .blk b3 48 5 (nth (nth L i).op k).vals]) (fun _ => True) ?_ ?_
      · skip
        refine s_draw [] mixed ?_
        refine d_p 0 rfl (p_pure rfl) (by kernel_rfl) rfl rfl ?_
        refine d_p 1 rfl (p_pure rfl) (by kernel_rfl) rfl rfl ?_
        refine d_p 2 rfl (p_pure rfl) (by kernel_rfl) rfl rfl ?_
        apply d_split 38
        · exact rfl
        · intro hg6
          have hs7 := hg6; try simp only [decide_eq_true_eq, decide_eq_false_iff_not, Bool.not_eq_true', Bool.not_eq_false', Bool.and_eq_true, Bool.or_eq_true, Bool.and_eq_false_iff, Bool.or_eq_false_iff, Bool.not_true, Bool.not_false] at hs7
          refine d_pon 3 38 rfl rfl rfl hg6 (p_fieldAddr rfl rfl fd_48_0 sz_3 rfl) (by kernel_rfl) rfl rfl ?_
          refine d_qon 4 38 [] rfl rfl rfl hg6 (q_load rfl rfl sz_3 aPk rfl) (by kernel_rfl) (by kernel_rfl) (by kernel_rfl) rfl ?_
          refine d_pon 5 38 rfl rfl rfl hg6 (p_fieldAddr rfl rfl fd_77_2 sz_75 rfl) (by kernel_rfl) rfl rfl ?_
          refine d_qon 6 38 [] rfl rfl rfl hg6 (q_load rfl rfl sz_75 aPk rfl) (by kernel_rfl) (by kernel_rfl) (by kernel_rfl) rfl ?_
          refine d_pon 7 38 rfl rfl rfl hg6 (p_pure rfl) (by kernel_rfl) rfl rfl ?_
          refine d_pon 8 38 rfl rfl rfl hg6 (p_pure rfl) (by kernel_rfl) rfl rfl ?_
          try (refine d_slot (i64w (by omega) (by omega)) ?_)
          refine d_pon 9 38 rfl rfl rfl hg6 (p_indexAddr rfl rfl rfl sl_75 ((k - 1)) (by omega) (by omega) (Rw.some (hs.at hi).1 (by omega))) (by kernel_rfl) rfl rfl ?_
          refine d_pon 10 38 rfl rfl rfl hg6 (p_fieldAddr rfl rfl fd_48_0 sz_3 rfl) (by kernel_rfl) rfl rfl ?_
          refine d_qon 11 38 [] rfl rfl rfl hg6 (q_load_old rfl rfl sz_3 (((hs.at hi).1.rdj 0 (show k - 1 < (nth L i).op.length by omega) rfl))) (by kernel_rfl) (by kernel_rfl) (by kernel_rfl) rfl ?_
          refine d_pon 12 38 rfl rfl rfl hg6 (p_pure rfl) (by kernel_rfl) rfl rfl ?_
          refine d_p 13 rfl (p_pickt rfl rfl hg6 rfl) (by kernel_rfl) rfl rfl ?_
          refine d_nil (by kernel_rfl) (fun w h => h.ent aEt) ?_
          exact s_joinI () trivial (sl_c (congrArg (fun e => some (Value.bool e)) (by have hq := hg6; simp at hq; first | (rw [decide_eq_decide]; omega) | (subst hq; simp; done) | (have h0 : k = 0 := by omega); simp [h0])) aSx) (fun w h => h.ent aEt)
        · intro hg8
          have hs9 := hg8; try simp only [decide_eq_true_eq, decide_eq_false_iff_not, Bool.not_eq_true', Bool.not_eq_false', Bool.and_eq_true, Bool.or_eq_true, Bool.and_eq_false_iff, Bool.or_eq_false_iff, Bool.not_true, Bool.not_false] at hs9
          refine d_off 3 38 rfl rfl rfl hg8 (by kernel_rfl) rfl rfl ?_
          refine d_off 4 38 rfl rfl rfl hg8 (by kernel_rfl) rfl rfl ?_
          refine d_off 5 38 rfl rfl rfl hg8 (by kernel_rfl) rfl rfl ?_
          refine d_off 6 38 rfl rfl rfl hg8 (by kernel_rfl) rfl rfl ?_
          refine d_off 7 38 rfl rfl rfl hg8 (by kernel_rfl) rfl rfl ?_
          refine d_off 8 38 rfl rfl rfl hg8 (by kernel_rfl) rfl rfl ?_
          refine d_off 9 38 rfl rfl rfl hg8 (by kernel_rfl) rfl rfl ?_
          refine d_off 10 38 rfl rfl rfl hg8 (by kernel_rfl) rfl rfl ?_
          refine d_off 11 38 rfl rfl rfl hg8 (by kernel_rfl) rfl rfl ?_
          refine d_off 12 38 rfl rfl rfl hg8 (by kernel_rfl) rfl rfl ?_
          refine d_p 13 rfl (p_pickf rfl rfl hg8 rfl) (by kernel_rfl) rfl rfl ?_
          refine d_nil (by kernel_rfl) (fun w h => h.ent aEt) ?_
          exact s_joinI () trivial (sl_c (congrArg (fun e => some (Value.bool e)) (by have hq := hg8; simp at hq; first | (rw [decide_eq_decide]; omega) | (subst hq; simp; done) | (have h0 : k = 0 := by omega); simp [h0])) aSx) (fun w h => h.ent aEt)
      · intro _ _
        refine s_cond rfl (fun h10 => ?_) (fun h10 => ?_)
        · try simp only [decide_eq_true_eq, decide_eq_false_iff_not, Bool.not_eq_true', Bool.not_eq_false', Bool.and_eq_true, Bool.or_eq_true, Bool.and_eq_false_iff, Bool.or_eq_false_iff, Bool.not_true, Bool.not_false] at h10
          have hC : ¬ (k = 0 ∨ (nth (nth L i).op (k - 1)).hd < (nth (nth L i).op k).hd) := by have hq := h10; simpa using hq
          refine s_seq ?_
          refine s_region ?_
          refine o_p (p_pure rfl) rfl ?_
          refine o_nil ?_
          exact s_retv (rs := [.tmp 6]) rfl (.tmp rfl (.nil)) (fun w' h' => ⟨by rw [hdl_l hk, if_neg (not_not_intro hA), if_neg (not_not_intro hB), if_pos hC]; rfl, h'.below⟩)
        · try simp only [decide_eq_true_eq, decide_eq_false_iff_not, Bool.not_eq_true', Bool.not_eq_false', Bool.and_eq_true, Bool.or_eq_true, Bool.and_eq_false_iff, Bool.or_eq_false_iff, Bool.not_true, Bool.not_false] at h10
          have hC : k = 0 ∨ (nth (nth L i).op (k - 1)).hd < (nth (nth L i).op k).hd := by have hq := h10; (try simp at hq); omega
          refine s_skip ?_
          refine s_seq ?_
          refine s_seq ?_
          refine s_region ?_
          refine o_q (q_loadn rfl rfl sz_48 aPk rfl) rfl ?_
          refine o_q (q_call rfl fn_98 rfl (fun w1 h1 => c98 w1 (nth (nth L i).op k) (((hs.at hi).at hk).later h1))) rfl ?_
          refine o_p (p_pure rfl) rfl ?_
          refine o_nil ?_
          refine s_seq ?_
          refine s_region ?_
          refine o_p (p_pure rfl) rfl ?_
          refine o_p (p_pure rfl) rfl ?_
          refine o_nil ?_
          refine s_cond rfl (fun h11 => ?_) (fun h11 => ?_)
          · try simp only [decide_eq_true_eq, decide_eq_false_iff_not, Bool.not_eq_true', Bool.not_eq_false', Bool.and_eq_true, Bool.or_eq_true, Bool.and_eq_false_iff, Bool.or_eq_false_iff, Bool.not_true, Bool.not_false] at h11
            have hD : ¬ lksE (nth (nth L i).op k).lk = 0 := h11
            refine s_seq ?_
            refine s_region ?_
            refine o_p (p_pure rfl) rfl ?_
            refine o_p (p_pure rfl) rfl ?_
            refine o_nil ?_
            exact s_retv (rs := [.tmp 6]) rfl (.tmp rfl (.nil)) (fun w' h' => ⟨by rw [hdl_l hk, if_neg (not_not_intro hA), if_neg (not_not_intro hB), if_neg (not_not_intro hC), if_pos hD]; rfl, h'.below⟩)
          · try simp only [decide_eq_true_eq, decide_eq_false_iff_not, Bool.not_eq_true', Bool.not_eq_false', Bool.and_eq_true, Bool.or_eq_true, Bool.and_eq_false_iff, Bool.or_eq_false_iff, Bool.not_true, Bool.not_false] at h11
            have hD : lksE (nth (nth L i).op k).lk = 0 := h11
            have hD2 := lksE_0 hD
            refine s_skip ?_
            refine s_seq ?_
            refine s_seq ?_
            refine s_region ?_
            refine o_p (p_pure rfl) rfl ?_
            refine o_nil ?_
            refine s_block ?_
            refine s_loopI (α := Nat) [6, 11, 12, 55, 56, 57, 58, 59, 60, 61, 62, 63, 64, 65, 66, 67, 68, 69, 70, 71, 72, 73, 74, 75, 76, 77, 78, 79, 80, 81, 82, 83] (fun n => [(11, .int .i64 (n : Int))]) (fun _ => HS w [] [.blk b1 26 2 [.int .i64 next, .slice a L.length cap], .blk b2 77 4 (nth L i).vals, .blk b3 48 5 (nth (nth L i).op k).vals]) (fun n => n ≤ i ∧ ∀ n2, n2 < n → ∀ m2, m2 < (nth L n2).op.length → (nth (nth L n2).op m2).hd ≠ (nth (nth L i).op k).hd) (fun n => i - n) 0 ⟨Nat.zero_le _, fun n2 h => absurd h (Nat.not_lt_zero n2)⟩ aSx (fun w h => h.ent aEt) (fun n hy => ?_)
            obtain ⟨hn1, hn2⟩ := hy
            refine s_seq ?_
            refine s_seq ?_
            refine s_region ?_
            refine o_p (p_pure rfl) rfl ?_
            refine o_p (p_pure rfl) rfl ?_
            refine o_p (p_pure rfl) rfl ?_
            refine o_nil ?_
            refine s_cond rfl (fun h12 => ?_) (fun h12 => ?_)
            · try simp only [decide_eq_true_eq, decide_eq_false_iff_not, Bool.not_eq_true', Bool.not_eq_false', Bool.and_eq_true, Bool.or_eq_true, Bool.and_eq_false_iff, Bool.or_eq_false_iff, Bool.not_true, Bool.not_false] at h12
              have hni : n < i := by omega
              have hnl : n < L.length := by omega
              have hon := hmo _ (mem_nth hnl)
              refine s_skip ?_
              refine s_seq ?_
              refine s_block ?_
              refine s_seq ?_
              refine s_region ?_
              refine o_p (p_pure rfl) rfl ?_
              refine o_nil ?_
              refine s_block ?_
              refine s_loopI (α := Nat) [6, 12, 60, 61, 62, 63, 64, 65, 66, 67, 68, 69, 70, 71, 72, 73, 74, 75, 76, 77, 78, 79, 80, 81, 82, 83] (fun m => [(12, .int .i64 (m : Int))]) (fun _ => HS w [] [.blk b1 26 2 [.int .i64 next, .slice a L.length cap], .blk b2 77 4 (nth L i).vals, .blk b3 48 5 (nth (nth L i).op k).vals]) (fun m => m ≤ (nth L n).op.length ∧ ∀ m2, m2 < m → (nth (nth L n).op m2).hd ≠ (nth (nth L i).op k).hd) (fun m => (nth L n).op.length - m) 0 ⟨Nat.zero_le _, fun n2 h => absurd h (Nat.not_lt_zero n2)⟩ aSx (fun w h => h.ent aEt) (fun m hy => ?_)
              obtain ⟨hm1, hm2⟩ := hy
              refine s_seq ?_
              refine s_seq ?_
              refine s_region ?_
              refine o_p (p_pure rfl) rfl ?_
              refine o_p (p_fieldAddr rfl rfl fd_26_1 sz_24 rfl) rfl ?_
              refine o_q (q_load rfl rfl sz_24 aPk rfl) rfl ?_
              refine o_p (p_pure rfl) rfl ?_
              refine o_p (p_indexAddr rfl rfl rfl sl_24 (n) (by omega) (by omega) (Rw.some hs.1 (by omega))) rfl ?_
              refine o_p (p_fieldAddr rfl rfl fd_77_2 sz_75 rfl) rfl ?_
              refine o_q (q_load_old rfl rfl sz_75 ((hs.1.rdj 3 hnl rfl))) rfl ?_
              refine o_p (p_len_slice rfl rfl Try.underlying75) rfl ?_
              refine o_p (p_pure rfl) rfl ?_
              refine o_nil ?_
              refine s_cond rfl (fun h13 => ?_) (fun h13 => ?_)
              · try simp only [decide_eq_true_eq, decide_eq_false_iff_not, Bool.not_eq_true', Bool.not_eq_false', Bool.and_eq_true, Bool.or_eq_true, Bool.and_eq_false_iff, Bool.or_eq_false_iff, Bool.not_true, Bool.not_false] at h13
                have hml : m < (nth L n).op.length := by omega
                refine s_skip ?_
                refine s_seq ?_
                refine s_block ?_
                refine s_seq ?_
                refine s_draw [] mixed ?_
                refine d_p 0 rfl (p_fieldAddr rfl rfl fd_26_1 sz_24 rfl) (by kernel_rfl) rfl rfl ?_
                refine d_q 1 [] rfl (q_load rfl rfl sz_24 aPk rfl) (by kernel_rfl) (by kernel_rfl) (by kernel_rfl) rfl ?_
                refine d_p 2 rfl (p_pure rfl) (by kernel_rfl) rfl rfl ?_
                refine d_p 3 rfl (p_indexAddr rfl rfl rfl sl_24 (n) (by omega) (by omega) (Rw.some hs.1 (by omega))) (by kernel_rfl) rfl rfl ?_
                refine d_p 4 rfl (p_fieldAddr rfl rfl fd_77_2 sz_75 rfl) (by kernel_rfl) rfl rfl ?_
                refine d_q 5 [] rfl (q_load_old rfl rfl sz_75 ((hs.1.rdj 3 hnl rfl))) (by kernel_rfl) (by kernel_rfl) (by kernel_rfl) rfl ?_
                refine d_p 6 rfl (p_pure rfl) (by kernel_rfl) rfl rfl ?_
                refine d_p 7 rfl (p_indexAddr rfl rfl rfl sl_75 (m) (by omega) (by omega) (Rw.some (hs.at hnl).1 (by omega))) (by kernel_rfl) rfl rfl ?_
                refine d_p 8 rfl (p_fieldAddr rfl rfl fd_48_0 sz_3 rfl) (by kernel_rfl) rfl rfl ?_
                refine d_q 9 [] rfl (q_load_old rfl rfl sz_3 (((hs.at hnl).1.rdj 0 hml rfl))) (by kernel_rfl) (by kernel_rfl) (by kernel_rfl) rfl ?_
                refine d_p 10 rfl (p_fieldAddr rfl rfl fd_48_0 sz_3 rfl) (by kernel_rfl) rfl rfl ?_
                refine d_q 11 [] rfl (q_load rfl rfl sz_3 aPk rfl) (by kernel_rfl) (by kernel_rfl) (by kernel_rfl) rfl ?_
                refine d_p 12 rfl (p_pure rfl) (by kernel_rfl) rfl rfl ?_
                refine d_nil (by kernel_rfl) (fun w h => h.ent aEt) ?_
                refine s_cond rfl (fun h14 => ?_) (fun h14 => ?_)
                · try simp only [decide_eq_true_eq, decide_eq_false_iff_not, Bool.not_eq_true', Bool.not_eq_false', Bool.and_eq_true, Bool.or_eq_true, Bool.and_eq_false_iff, Bool.or_eq_false_iff, Bool.not_true, Bool.not_false] at h14
                  have hyes : (nth (nth L i).op k).hd ∈ (hds ((pls L).take i)) := hds_mem.2 ⟨n, m, hni, hnl, hml, h14⟩
                  refine s_seq ?_
                  refine s_weaken (L' := [(1, _), (2, _), (3, _), (7, _), (8, _), (10, _), (11, _), (12, _), (49, _), (50, _), (51, _), (52, _), (53, _), (55, _), (56, _), (57, _)]) aSx (fun _ h => h) ?_
                  refine s_region ?_
                  refine o_p (p_pure rfl) rfl ?_
                  refine o_nil ?_
                  exact s_retv (rs := [.tmp 6]) rfl (.tmp rfl (.nil)) (fun w' h' => ⟨by rw [hdl_l hk, if_neg (not_not_intro hA), if_neg (not_not_intro hB), if_neg (not_not_intro hC), if_neg (not_not_intro hD), if_pos hyes]; rfl, h'.below⟩)
                · try simp only [decide_eq_true_eq, decide_eq_false_iff_not, Bool.not_eq_true', Bool.not_eq_false', Bool.and_eq_true, Bool.or_eq_true, Bool.and_eq_false_iff, Bool.or_eq_false_iff, Bool.not_true, Bool.not_false] at h14
                  refine s_skip ?_
                  refine s_blk ?_
                  refine s_weaken (L' := [(1, _), (2, _), (3, _), (7, _), (8, _), (10, _), (11, _), (12, _), (49, _), (50, _), (51, _), (52, _), (53, _), (55, _), (56, _), (57, _)]) aSx (fun _ h => h) ?_
                  refine s_region ?_
                  refine o_p (p_pure rfl) rfl ?_
                  refine o_p (p_pure rfl) rfl ?_
                  try (refine o_slot (i64w (by omega) (by omega)) ?_)
                  refine o_p (p_pure rfl) rfl ?_
                  refine o_nil ?_
                  exact s_backI (m + 1) (by omega) ⟨by omega, fun m2 p1 => (Nat.lt_or_ge m2 m).elim (hm2 m2) (fun p3 => by have e9 : m2 = m := (by omega); rw [e9]; exact h14)⟩ aSx (fun w h => h.ent aEt)
              · try simp only [decide_eq_true_eq, decide_eq_false_iff_not, Bool.not_eq_true', Bool.not_eq_false', Bool.and_eq_true, Bool.or_eq_true, Bool.and_eq_false_iff, Bool.or_eq_false_iff, Bool.not_true, Bool.not_false] at h13
                refine s_exit_to rfl ?_
                refine s_blk ?_
                refine s_region ?_
                refine o_p (p_pure rfl) rfl ?_
                refine o_p (p_pure rfl) rfl ?_
                try (refine o_slot (i64w (by omega) (by omega)) ?_)
                refine o_p (p_pure rfl) rfl ?_
                refine o_nil ?_
                exact s_backI (n + 1) (by omega) ⟨by omega, fun n2 p1 m2 p2 => (Nat.lt_or_ge n2 n).elim (fun p3 => hn2 n2 p3 m2 p2) (fun p3 => by have e9 : n2 = n := (by omega); rw [e9] at p2 ⊢; exact hm2 m2 (by omega))⟩ aSx (fun w h => h.ent aEt)
            · try simp only [decide_eq_true_eq, decide_eq_false_iff_not, Bool.not_eq_true', Bool.not_eq_false', Bool.and_eq_true, Bool.or_eq_true, Bool.and_eq_false_iff, Bool.or_eq_false_iff, Bool.not_true, Bool.not_false] at h12
              have hno : (nth (nth L i).op k).hd ∉ (hds ((pls L).take i)) := by rw [hds_mem]; rintro ⟨n2, m2, p1, p2, p3, p4⟩; exact hn2 n2 (by omega) m2 p3 p4
              refine s_exit_to rfl ?_
              refine s_seq ?_
              refine s_seq ?_
              refine s_region ?_
              refine o_p (p_pure rfl) rfl ?_
              refine o_nil ?_
              refine s_block ?_
              refine s_loopI (α := Nat) [6, 13, 84, 85, 86, 87, 88, 89, 90, 91, 92, 93, 94, 95] (fun m => [(13, .int .i64 (m : Int))]) (fun _ => HS w [] [.blk b1 26 2 [.int .i64 next, .slice a L.length cap], .blk b2 77 4 (nth L i).vals, .blk b3 48 5 (nth (nth L i).op k).vals]) (fun m => m ≤ k ∧ ∀ m2, m2 < m → cfl (nth (nth L i).op m2).pl (nth (nth L i).op k).pl = false) (fun m => k - m) 0 ⟨Nat.zero_le _, fun n2 h => absurd h (Nat.not_lt_zero n2)⟩ aSx (fun w h => h.ent aEt) (fun p hy => ?_)
              obtain ⟨hp1, hp2⟩ := hy
              refine s_seq ?_
              refine s_seq ?_
              refine s_region ?_
              refine o_p (p_pure rfl) rfl ?_
              refine o_p (p_pure rfl) rfl ?_
              refine o_p (p_pure rfl) rfl ?_
              refine o_nil ?_
              refine s_cond rfl (fun h15 => ?_) (fun h15 => ?_)
              · try simp only [decide_eq_true_eq, decide_eq_false_iff_not, Bool.not_eq_true', Bool.not_eq_false', Bool.and_eq_true, Bool.or_eq_true, Bool.and_eq_false_iff, Bool.or_eq_false_iff, Bool.not_true, Bool.not_false] at h15
                have hpk : p < k := by omega
                have hpl : p < (nth L i).op.length := by omega
                refine s_skip ?_
                refine s_seq ?_
                refine s_block ?_
                refine s_seq ?_
                refine s_draw [] mixed ?_
                refine d_p 0 rfl (p_fieldAddr rfl rfl fd_77_2 sz_75 rfl) (by kernel_rfl) rfl rfl ?_
                refine d_q 1 [] rfl (q_load rfl rfl sz_75 aPk rfl) (by kernel_rfl) (by kernel_rfl) (by kernel_rfl) rfl ?_
                refine d_p 2 rfl (p_pure rfl) (by kernel_rfl) rfl rfl ?_
                refine d_p 3 rfl (p_indexAddr rfl rfl rfl sl_75 (p) (by omega) (by omega) (Rw.some (hs.at hi).1 (by omega))) (by kernel_rfl) rfl rfl ?_
                refine d_q 4 [] rfl (q_load_oldn _ rfl rfl sz_48 rfl (Rw.rd (hs.at hi).1 hpl)) (by kernel_rfl) (by kernel_rfl) (by kernel_rfl) rfl ?_
                refine d_q 5 [] rfl (q_loadn rfl rfl sz_48 aPk rfl) (by kernel_rfl) (by kernel_rfl) (by kernel_rfl) rfl ?_
                refine d_q 6 [] rfl (q_call rfl fn_23 rfl (fun w1 h1 => c23 w1 (nth (nth L i).op p) (nth (nth L i).op k) (hdl_okl hpl (hv p hpk)).1 hB)) (by kernel_rfl) (by kernel_rfl) (by kernel_rfl) rfl ?_
                refine d_nil (by kernel_rfl) (fun w h => h.ent aEt) ?_
                refine s_cond rfl (fun h16 => ?_) (fun h16 => ?_)
                · try simp only [decide_eq_true_eq, decide_eq_false_iff_not, Bool.not_eq_true', Bool.not_eq_false', Bool.and_eq_true, Bool.or_eq_true, Bool.and_eq_false_iff, Bool.or_eq_false_iff, Bool.not_true, Bool.not_false] at h16
                  have hyc : ((plo (nth L i).op).take k).any (cfl (nth (nth L i).op k).pl) = true := (any_take (by omega)).2 ⟨p, hpk, by rw [cfl_comm]; exact h16⟩
                  refine s_seq ?_
                  refine s_region ?_
                  refine o_p (p_pure rfl) rfl ?_
                  refine o_nil ?_
                  exact s_retv (rs := [.tmp 6]) rfl (.tmp rfl (.nil)) (fun w' h' => ⟨by rw [hdl_l hk, if_neg (not_not_intro hA), if_neg (not_not_intro hB), if_neg (not_not_intro hC), if_neg (not_not_intro hD), if_neg hno, if_pos hyc]; rfl, h'.below⟩)
                · try simp only [decide_eq_true_eq, decide_eq_false_iff_not, Bool.not_eq_true', Bool.not_eq_false', Bool.and_eq_true, Bool.or_eq_true, Bool.and_eq_false_iff, Bool.or_eq_false_iff, Bool.not_true, Bool.not_false] at h16
                  have hmiss : cfl (nth (nth L i).op p).pl (nth (nth L i).op k).pl = false := by have hq := h16; simpa using hq
                  refine s_skip ?_
                  refine s_blk ?_
                  refine s_region ?_
                  refine o_p (p_pure rfl) rfl ?_
                  refine o_p (p_pure rfl) rfl ?_
                  try (refine o_slot (i64w (by omega) (by omega)) ?_)
                  refine o_p (p_pure rfl) rfl ?_
                  refine o_nil ?_
                  exact s_backI (p + 1) (by omega) ⟨by omega, fun m2 p1 => (Nat.lt_or_ge m2 p).elim (hp2 m2) (fun p3 => by have e9 : m2 = p := (by omega); rw [e9]; exact hmiss)⟩ aSx (fun w h => h.ent aEt)
              · try simp only [decide_eq_true_eq, decide_eq_false_iff_not, Bool.not_eq_true', Bool.not_eq_false', Bool.and_eq_true, Bool.or_eq_true, Bool.and_eq_false_iff, Bool.or_eq_false_iff, Bool.not_true, Bool.not_false] at h15
                have hnc : ¬ ((plo (nth L i).op).take k).any (cfl (nth (nth L i).op k).pl) = true := by rw [any_take (by omega)]; rintro ⟨m2, p1, p2⟩; rw [cfl_comm, hp2 m2 (by omega)] at p2; cases p2
                refine s_exit_to rfl ?_
                refine s_seq ?_
                refine s_region ?_
                refine o_q (q_loadn rfl rfl sz_77 aPk rfl) rfl ?_
                refine o_p (p_pure rfl) rfl ?_
                refine o_q (q_call rfl fn_99 rfl (fun w1 h1 => c99 w1 (nth L i) k ((hs.at hi).later h1) hk hoi (fun n p1 => (Nat.lt_or_ge n k).elim (fun p2 => (hdl_okl (by omega) (hv n p2)).2.symm) (fun p2 => by have e9 : n = k := (by omega); rw [e9]; exact hD2.symm)))) rfl ?_
                refine o_p (p_pure rfl) rfl ?_
                refine o_nil ?_
                exact s_retv (rs := [.tmp 6]) rfl (.tmp rfl (.nil)) (fun w' h' => ⟨by rw [hdl_l hk, if_neg (not_not_intro hA), if_neg (not_not_intro hB), if_neg (not_not_intro hC), if_neg (not_not_intro hD), if_neg hno, if_neg hnc]; rfl, h'.below⟩)

end Go.Proofs

namespace Go.Proofs
open Go Go.RowKit Gx
set_option linter.unusedVariables false
set_option linter.unusedSimpArgs false
attribute [local irreducible] Go.Calls Gx.S Gx.O Gx.D Gx.OpP Gx.OpQ Gx.OpH

theorem fn_34 : isFn Try.prog 34 = true := by kernel_rfl
theorem fn_32 : isFn Try.prog 32 = true := by kernel_rfl
theorem fn_60 : isFn Try.prog 60 = true := by kernel_rfl
theorem fn_61 : isFn Try.prog 61 = true := by kernel_rfl
theorem fn_20 : isFn Try.prog 20 = true := by kernel_rfl


theorem hdlEs_len {next : Int} {ks : List Int} {ops : List LOpn} : (hdlEs next ks (plo ops)).length = ops.length := by simp [hdlEs]
theorem filEs_len {next : Int} {L : List LFil} : (filEs next (pls L)).length = L.length := by simp [filEs]
theorem filEs_getl {next : Int} {L : List LFil} {k : Nat} (h : k < L.length) : (filEs next (pls L)).getD k 0 = filE next (pls L) k := filEs_get (by simpa using h)
theorem hdlEs_getl {next : Int} {ks : List Int} {ops : List LOpn} {k : Nat} (h : k < ops.length) : (hdlEs next ks (plo ops)).getD k 0 = hdlE next ks (plo ops) k := hdlEs_get (by simpa using h)
theorem chk_r {next : Int} {L : List LFil} (h1 : 1 ≤ next ∧ next ≤ 2147483647) (h2 : L.length ≤ 32 ∧ cntT (pls L) ≤ 32) : chkT next (pls L) = eachF (filEs next (pls L)) 0 := by
  unfold chkT filEs
  rw [if_pos h1, if_pos (by simpa using h2)]
theorem chk_1 {next : Int} {L : List LFil} (h1 : ¬ (1 ≤ next ∧ next ≤ 2147483647)) : chkT next (pls L) = (0, 2) := by
  unfold chkT
  rw [if_neg h1]
theorem chk_2 {next : Int} {L : List LFil} (h1 : 1 ≤ next ∧ next ≤ 2147483647) (h2 : ¬ (L.length ≤ 32 ∧ cntT (pls L) ≤ 32)) : chkT next (pls L) = (0, 8) := by
  unfold chkT
  rw [if_pos h1, if_neg (by simpa using h2)]
theorem chk_at {next : Int} {L : List LFil} {i : Nat} (h1 : 1 ≤ next ∧ next ≤ 2147483647) (h2 : L.length ≤ 32 ∧ cntT (pls L) ≤ 32) (h3 : eachF (filEs next (pls L)) 0 = eachF ((filEs next (pls L)).drop i) i) (hi : i < L.length) (h4 : ¬ filE next (pls L) i = 0) : chkT next (pls L) = ((i : Int), filE next (pls L) i) := by
  rw [chk_r h1 h2, h3, eachF_drop (by rw [filEs_len]; exact hi), filEs_getl hi, if_neg h4]

set_option maxRecDepth 20000 in
set_option maxHeartbeats 1000000 in
theorem c20 (w : World) (next : Int) (a : Option Addr) (cap : Nat) (L : List LFil) (hs : Ft w [] a L) (hm : L.length ≤ 1000) (hmo : ∀ f ∈ L, f.op.length ≤ 1000) : Calls Try.prog 20 #[.agg #[.int .i64 next, .slice a L.length cap]] w fun en w' => en = .returned (.tuple #[.int .i64 (chkT next (pls L)).1, .int .i64 (chkT next (pls L)).2]) ∧ Below w.heap.size w w' := by
  have hfl := filEs_len (next := next) (L := L)
  refine enter (args := [_]) Try.func20 Try.ntmps20 rfl rfl (HS.refl w []) ?_
  refine s_seq ?_
  refine s_region ?_
  refine o_h (h_box rfl rfl) rfl (fun b1 _ => ?_)
  refine o_p (p_pure rfl) rfl ?_
  refine o_p (p_pure rfl) rfl ?_
  refine o_nil ?_
  refine s_seq ?_
  refine s_seq ?_
  refine s_region ?_
  refine o_p (p_fieldAddr rfl rfl fd_26_0 sz_3 rfl) rfl ?_
  refine o_q (q_load rfl rfl sz_3 aPk rfl) rfl ?_
  refine o_q (q_call rfl fn_16 rfl (fun w1 h1 => c16 w1 _ _ _)) rfl ?_
  refine o_p (p_pure rfl) rfl ?_
  refine o_nil ?_
  refine s_cond rfl (fun h2 => ?_) (fun h2 => ?_)
  · try simp only [decide_eq_true_eq, decide_eq_false_iff_not, Bool.not_eq_true', Bool.not_eq_false', Bool.and_eq_true, Bool.or_eq_true, Bool.and_eq_false_iff, Bool.or_eq_false_iff, Bool.not_true, Bool.not_false] at h2
    have hn : ¬ (1 ≤ next ∧ next ≤ 2147483647) := by have hq := h2; (try simp at hq); omega
    refine s_seq ?_
    refine s_region ?_
    refine o_p (p_pure rfl) rfl ?_
    refine o_p (p_pure rfl) rfl ?_
    refine o_nil ?_
    exact s_retv (rs := [.tmp 2, .tmp 3]) rfl (.tmp rfl (.tmp rfl (.nil))) (fun w' h' => ⟨by rw [chk_1 hn]; rfl, h'.below⟩)
  · try simp only [decide_eq_true_eq, decide_eq_false_iff_not, Bool.not_eq_true', Bool.not_eq_false', Bool.and_eq_true, Bool.or_eq_true, Bool.and_eq_false_iff, Bool.or_eq_false_iff, Bool.not_true, Bool.not_false] at h2
    have hn : 1 ≤ next ∧ next ≤ 2147483647 := by have hq := h2; (try simp at hq); omega
    refine s_skip ?_
    refine s_seq ?_
    refine s_seq ?_
    refine s_region ?_
    refine o_p (p_fieldAddr rfl rfl fd_26_1 sz_24 rfl) rfl ?_
    refine o_q (q_load rfl rfl sz_24 aPk rfl) rfl ?_
    refine o_p (p_len_slice rfl rfl Try.underlying24) rfl ?_
    refine o_p (p_pure rfl) rfl ?_
    refine o_p (p_pure rfl) rfl ?_
    refine o_or 4 17 21 _ _ rfl
      (by
        intro hg3
        have hs4 := hg3; try simp only [decide_eq_true_eq, decide_eq_false_iff_not, Bool.not_eq_true', Bool.not_eq_false', Bool.and_eq_true, Bool.or_eq_true, Bool.and_eq_false_iff, Bool.or_eq_false_iff, Bool.not_true, Bool.not_false] at hs4
        refine o_on 17 _ rfl rfl hg3 ?_
        refine o_q (q_loadn rfl rfl sz_26 aPk rfl) rfl ?_
        refine o_on 17 _ rfl rfl hg3 ?_
        refine o_q (q_call rfl fn_34 rfl (fun w1 h1 => c34 w1 next a cap L (hs.later h1) hm hmo)) rfl ?_
        refine o_on 17 _ rfl rfl hg3 ?_
        refine o_p (p_pure rfl) rfl ?_
        refine o_p (p_pickf rfl rfl hg3 rfl) rfl ?_
        refine o_nil ?_
        exact s_joinN 4 21 _ rfl rfl rfl (fun w h => by first | exact h | exact h.ent aEt))
      (by
        intro hg5
        have hs6 := hg5; try simp only [decide_eq_true_eq, decide_eq_false_iff_not, Bool.not_eq_true', Bool.not_eq_false', Bool.and_eq_true, Bool.or_eq_true, Bool.and_eq_false_iff, Bool.or_eq_false_iff, Bool.not_true, Bool.not_false] at hs6
        refine o_off 17 _ rfl rfl hg5 rfl ?_
        refine o_off 17 _ rfl rfl hg5 rfl ?_
        refine o_off 17 _ rfl rfl hg5 rfl ?_
        refine o_p (p_pickt rfl rfl hg5 rfl) rfl ?_
        refine o_nil ?_
        exact s_joinN 4 21 _ rfl rfl rfl (fun w h => by first | exact h | exact h.ent aEt)) ?_
    refine o_nil ?_
    refine s_cond rfl (fun h7 => ?_) (fun h7 => ?_)
    · try simp only [decide_eq_true_eq, decide_eq_false_iff_not, Bool.not_eq_true', Bool.not_eq_false', Bool.and_eq_true, Bool.or_eq_true, Bool.and_eq_false_iff, Bool.or_eq_false_iff, Bool.not_true, Bool.not_false] at h7
      have hc2 : ¬ (L.length ≤ 32 ∧ cntT (pls L) ≤ 32) := by have hq := h7; (try simp at hq); omega
      refine s_seq ?_
      refine s_region ?_
      refine o_p (p_pure rfl) rfl ?_
      refine o_p (p_pure rfl) rfl ?_
      refine o_nil ?_
      exact s_retv (rs := [.tmp 2, .tmp 3]) rfl (.tmp rfl (.tmp rfl (.nil))) (fun w' h' => ⟨by rw [chk_2 hn hc2]; rfl, h'.below⟩)
    · try simp only [decide_eq_true_eq, decide_eq_false_iff_not, Bool.not_eq_true', Bool.not_eq_false', Bool.and_eq_true, Bool.or_eq_true, Bool.and_eq_false_iff, Bool.or_eq_false_iff, Bool.not_true, Bool.not_false] at h7
      have hc2 : L.length ≤ 32 ∧ cntT (pls L) ≤ 32 := by have hq := h7; (try simp at hq); omega
      refine s_skip ?_
      refine s_seq ?_
      refine s_seq ?_
      refine s_region ?_
      refine o_p (p_pure rfl) rfl ?_
      refine o_nil ?_
      refine s_block ?_
      refine s_weaken (L' := [(1, _), (2, _), (3, _), (4, _)]) aSx (fun _ h => h) ?_
      refine s_loopI (α := Nat) [2, 3, 4, 5, 6, 7, 8, 22, 23, 24, 25, 26, 27, 28, 29, 30, 31, 32, 33, 34, 35, 36, 37, 38, 39, 40, 41, 42, 43, 44, 45, 46, 47, 48, 49, 50, 51, 52, 53, 54, 55, 56, 57, 58, 59, 60, 61, 62, 63, 64, 65, 66, 67, 68, 69, 70, 71, 72, 73, 74, 75, 76] (fun i => [(4, .int .i64 (i : Int))]) (fun _ => HS w [] [.blk b1 26 2 [.int .i64 next, .slice a L.length cap]]) (fun i => i ≤ L.length ∧ eachF (filEs next (pls L)) 0 = eachF ((filEs next (pls L)).drop i) i) (fun i => L.length - i) 0 ⟨Nat.zero_le _, rfl⟩ aSx (fun w h => h.ent aEt) (fun i hy => ?_)
      obtain ⟨hi1, hi2⟩ := hy
      refine s_seq ?_
      refine s_seq ?_
      refine s_region ?_
      refine o_p (p_pure rfl) rfl ?_
      refine o_p (p_fieldAddr rfl rfl fd_26_1 sz_24 rfl) rfl ?_
      refine o_q (q_load rfl rfl sz_24 aPk rfl) rfl ?_
      refine o_p (p_len_slice rfl rfl Try.underlying24) rfl ?_
      refine o_p (p_pure rfl) rfl ?_
      refine o_nil ?_
      refine s_cond rfl (fun h8 => ?_) (fun h8 => ?_)
      · try simp only [decide_eq_true_eq, decide_eq_false_iff_not, Bool.not_eq_true', Bool.not_eq_false', Bool.and_eq_true, Bool.or_eq_true, Bool.and_eq_false_iff, Bool.or_eq_false_iff, Bool.not_true, Bool.not_false] at h8
        have hil : i < L.length := by omega
        have hoi := hmo _ (mem_nth hil)
        refine s_skip ?_
        refine s_seq ?_
        refine s_block ?_
        refine s_seq ?_
        refine s_region ?_
        refine o_p (p_fieldAddr rfl rfl fd_26_1 sz_24 rfl) rfl ?_
        refine o_q (q_load rfl rfl sz_24 aPk rfl) rfl ?_
        refine o_p (p_pure rfl) rfl ?_
        refine o_p (p_indexAddr rfl rfl rfl sl_24 (i) (by omega) (by omega) (Rw.some hs.1 (by omega))) rfl ?_
        refine o_q (q_load_oldn _ rfl rfl sz_77 rfl (Rw.rd hs.1 hil)) rfl ?_
        refine o_h (h_alloc rfl zr_77) rfl (fun b9 _ => ?_)
        refine o_h0 (h_store rfl rfl rfl sz_77 rfl aPt (by simp only [setMany_length, List.length_set, List.length_cons, List.length_nil, List.length_map]; omega) rfl) (fun _ _ => ?_)
        refine o_nil ?_
        refine s_seq ?_
        refine s_seq ?_
        refine s_region ?_
        refine o_p (p_fieldAddr rfl rfl fd_77_0 sz_42 rfl) rfl ?_
        refine o_q (q_loadn rfl rfl sz_42 aPk rfl) rfl ?_
        refine o_q (q_call rfl fn_32 rfl (fun w1 h1 => c32 w1 _ _)) rfl ?_
        refine o_p (p_pure rfl) rfl ?_
        refine o_nil ?_
        refine s_seq ?_
        refine s_region ?_
        refine o_p (p_pure rfl) rfl ?_
        refine o_p (p_pure rfl) rfl ?_
        refine o_nil ?_
        refine s_cond rfl (fun h10 => ?_) (fun h10 => ?_)
        · try simp only [decide_eq_true_eq, decide_eq_false_iff_not, Bool.not_eq_true', Bool.not_eq_false', Bool.and_eq_true, Bool.or_eq_true, Bool.and_eq_false_iff, Bool.or_eq_false_iff, Bool.not_true, Bool.not_false] at h10
          have hA : ¬ refE (nth L i).rc (nth L i).sq = 0 := h10
          refine s_seq ?_
          refine s_region ?_
          refine o_p (p_pure rfl) rfl ?_
          refine o_p (p_pure rfl) rfl ?_
          refine o_p (p_pure rfl) rfl ?_
          refine o_p (p_pure rfl) rfl ?_
          refine o_nil ?_
          exact s_retv (rs := [.tmp 2, .tmp 3]) rfl (.tmp rfl (.tmp rfl (.nil))) (fun w' h' => ⟨by have hfe : filE next (pls L) i = refE (nth L i).rc (nth L i).sq := (by rw [fil_r hil]; rw [if_pos hA]); rw [chk_at hn hc2 hi2 hil (by rw [hfe]; exact hA), hfe]; rfl, h'.below⟩)
        · try simp only [decide_eq_true_eq, decide_eq_false_iff_not, Bool.not_eq_true', Bool.not_eq_false', Bool.and_eq_true, Bool.or_eq_true, Bool.and_eq_false_iff, Bool.or_eq_false_iff, Bool.not_true, Bool.not_false] at h10
          have hA : refE (nth L i).rc (nth L i).sq = 0 := h10
          refine s_skip ?_
          refine s_seq ?_
          refine s_seq ?_
          refine s_weaken (L' := [(1, _), (4, _), (5, _)]) aSx (fun _ h => h) ?_
          refine s_cutI (α := Unit) [41, 42, 43, 44, 45, 46, 47, 48, 49, 50, 51, 52, 53, 54, 55] (fun _ => [(55, .bool (decide (¬ (i = 0 ∨ refLt ((nth L (i - 1)).rc, (nth L (i - 1)).sq) ((nth L i).rc, (nth L i).sq) = true))))]) (fun _ => HS w [] [.blk b1 26 2 [.int .i64 next, .slice a L.length cap], .blk b9 77 4 (nth L i).vals]) (fun _ => True) ?_ ?_
          · skip
            refine s_draw [] mixed ?_
            refine d_p 0 rfl (p_pure rfl) (by kernel_rfl) rfl rfl ?_
            refine d_p 1 rfl (p_pure rfl) (by kernel_rfl) rfl rfl ?_
            refine d_p 2 rfl (p_pure rfl) (by kernel_rfl) rfl rfl ?_
            apply d_split 43
            · exact rfl
            · intro hg11
              have hs12 := hg11; try simp only [decide_eq_true_eq, decide_eq_false_iff_not, Bool.not_eq_true', Bool.not_eq_false', Bool.and_eq_true, Bool.or_eq_true, Bool.and_eq_false_iff, Bool.or_eq_false_iff, Bool.not_true, Bool.not_false] at hs12
              refine d_pon 3 43 rfl rfl rfl hg11 (p_fieldAddr rfl rfl fd_26_1 sz_24 rfl) (by kernel_rfl) rfl rfl ?_
              refine d_qon 4 43 [] rfl rfl rfl hg11 (q_load rfl rfl sz_24 aPk rfl) (by kernel_rfl) (by kernel_rfl) (by kernel_rfl) rfl ?_
              refine d_pon 5 43 rfl rfl rfl hg11 (p_pure rfl) (by kernel_rfl) rfl rfl ?_
              refine d_pon 6 43 rfl rfl rfl hg11 (p_pure rfl) (by kernel_rfl) rfl rfl ?_
              try (refine d_slot (i64w (by omega) (by omega)) ?_)
              refine d_pon 7 43 rfl rfl rfl hg11 (p_indexAddr rfl rfl rfl sl_24 ((i - 1)) (by omega) (by omega) (Rw.some hs.1 (by omega))) (by kernel_rfl) rfl rfl ?_
              refine d_pon 8 43 rfl rfl rfl hg11 (p_fieldAddr rfl rfl fd_77_0 sz_42 rfl) (by kernel_rfl) rfl rfl ?_
              refine d_qon 9 43 [] rfl rfl rfl hg11 (q_load_oldn [.int .i64 (nth L (i - 1)).rc, .int .i64 (nth L (i - 1)).sq] rfl rfl sz_42 rfl (fun j v hv => Rw.rd hs.1 (i := i - 1) (by omega) j v (by rcases j with _ | _ | j <;> first | exact hv | (simp at hv)))) (by kernel_rfl) (by kernel_rfl) (by kernel_rfl) rfl ?_
              refine d_pon 10 43 rfl rfl rfl hg11 (p_fieldAddr rfl rfl fd_77_0 sz_42 rfl) (by kernel_rfl) rfl rfl ?_
              refine d_qon 11 43 [] rfl rfl rfl hg11 (q_loadn rfl rfl sz_42 aPk rfl) (by kernel_rfl) (by kernel_rfl) (by kernel_rfl) rfl ?_
              refine d_qon 12 43 [] rfl rfl rfl hg11 (q_call rfl fn_60 rfl (fun w1 h1 => c60 w1 _ _ _ _)) (by kernel_rfl) (by kernel_rfl) (by kernel_rfl) rfl ?_
              refine d_pon 13 43 rfl rfl rfl hg11 (p_pure rfl) (by kernel_rfl) rfl rfl ?_
              refine d_p 14 rfl (p_pickt rfl rfl hg11 rfl) (by kernel_rfl) rfl rfl ?_
              refine d_nil (by kernel_rfl) (fun w h => h.ent aEt) ?_
              exact s_joinI () trivial (sl_c (congrArg (fun e => some (Value.bool e)) (by have hq := hg11; simp at hq; first | (have h0 : i ≠ 0 := by omega); simp [h0] | (have h0 : i = 0 := by omega); simp [h0])) aSx) (fun w h => h.ent aEt)
            · intro hg13
              have hs14 := hg13; try simp only [decide_eq_true_eq, decide_eq_false_iff_not, Bool.not_eq_true', Bool.not_eq_false', Bool.and_eq_true, Bool.or_eq_true, Bool.and_eq_false_iff, Bool.or_eq_false_iff, Bool.not_true, Bool.not_false] at hs14
              refine d_off 3 43 rfl rfl rfl hg13 (by kernel_rfl) rfl rfl ?_
              refine d_off 4 43 rfl rfl rfl hg13 (by kernel_rfl) rfl rfl ?_
              refine d_off 5 43 rfl rfl rfl hg13 (by kernel_rfl) rfl rfl ?_
              refine d_off 6 43 rfl rfl rfl hg13 (by kernel_rfl) rfl rfl ?_
              refine d_off 7 43 rfl rfl rfl hg13 (by kernel_rfl) rfl rfl ?_
              refine d_off 8 43 rfl rfl rfl hg13 (by kernel_rfl) rfl rfl ?_
              refine d_off 9 43 rfl rfl rfl hg13 (by kernel_rfl) rfl rfl ?_
              refine d_off 10 43 rfl rfl rfl hg13 (by kernel_rfl) rfl rfl ?_
              refine d_off 11 43 rfl rfl rfl hg13 (by kernel_rfl) rfl rfl ?_
              refine d_off 12 43 rfl rfl rfl hg13 (by kernel_rfl) rfl rfl ?_
              refine d_off 13 43 rfl rfl rfl hg13 (by kernel_rfl) rfl rfl ?_
              refine d_p 14 rfl (p_pickf rfl rfl hg13 rfl) (by kernel_rfl) rfl rfl ?_
              refine d_nil (by kernel_rfl) (fun w h => h.ent aEt) ?_
              exact s_joinI () trivial (sl_c (congrArg (fun e => some (Value.bool e)) (by have hq := hg13; simp at hq; first | (have h0 : i ≠ 0 := by omega); simp [h0] | (have h0 : i = 0 := by omega); simp [h0])) aSx) (fun w h => h.ent aEt)
          · intro _ _
            refine s_cond rfl (fun h15 => ?_) (fun h15 => ?_)
            · try simp only [decide_eq_true_eq, decide_eq_false_iff_not, Bool.not_eq_true', Bool.not_eq_false', Bool.and_eq_true, Bool.or_eq_true, Bool.and_eq_false_iff, Bool.or_eq_false_iff, Bool.not_true, Bool.not_false] at h15
              have hB : ¬ (i = 0 ∨ refLt ((nth L (i - 1)).rc, (nth L (i - 1)).sq) ((nth L i).rc, (nth L i).sq) = true) := by have hq := h15; simpa using hq
              refine s_seq ?_
              refine s_region ?_
              refine o_p (p_pure rfl) rfl ?_
              refine o_p (p_pure rfl) rfl ?_
              refine o_p (p_pure rfl) rfl ?_
              refine o_nil ?_
              exact s_retv (rs := [.tmp 2, .tmp 3]) rfl (.tmp rfl (.tmp rfl (.nil))) (fun w' h' => ⟨by have hfe : filE next (pls L) i = 9 := (by rw [fil_r hil]; rw [if_neg (not_not_intro hA), if_pos hB]); rw [chk_at hn hc2 hi2 hil (by rw [hfe]; decide), hfe]; rfl, h'.below⟩)
            · try simp only [decide_eq_true_eq, decide_eq_false_iff_not, Bool.not_eq_true', Bool.not_eq_false', Bool.and_eq_true, Bool.or_eq_true, Bool.and_eq_false_iff, Bool.or_eq_false_iff, Bool.not_true, Bool.not_false] at h15
              have hB : i = 0 ∨ refLt ((nth L (i - 1)).rc, (nth L (i - 1)).sq) ((nth L i).rc, (nth L i).sq) = true := by have hq := h15; (try simp only [Bool.not_eq_true, decide_eq_false_iff_not, Decidable.not_not] at hq); first | exact hq | (by_cases h0 : i = 0 <;> simp_all)
              refine s_skip ?_
              refine s_seq ?_
              refine s_seq ?_
              refine s_region ?_
              refine o_p (p_fieldAddr rfl rfl fd_77_2 sz_75 rfl) rfl ?_
              refine o_q (q_load rfl rfl sz_75 aPk rfl) rfl ?_
              refine o_p (p_len_slice rfl rfl Try.underlying75) rfl ?_
              refine o_p (p_pure rfl) rfl ?_
              refine o_nil ?_
              refine s_cond rfl (fun h16 => ?_) (fun h16 => ?_)
              · try simp only [decide_eq_true_eq, decide_eq_false_iff_not, Bool.not_eq_true', Bool.not_eq_false', Bool.and_eq_true, Bool.or_eq_true, Bool.and_eq_false_iff, Bool.or_eq_false_iff, Bool.not_true, Bool.not_false] at h16
                have hC : (nth L i).op.length = 0 := by have hq := h16; omega
                refine s_seq ?_
                refine s_region ?_
                refine o_p (p_pure rfl) rfl ?_
                refine o_p (p_pure rfl) rfl ?_
                refine o_p (p_pure rfl) rfl ?_
                refine o_nil ?_
                exact s_retv (rs := [.tmp 2, .tmp 3]) rfl (.tmp rfl (.tmp rfl (.nil))) (fun w' h' => ⟨by have hfe : filE next (pls L) i = 17 := (by rw [fil_r hil]; rw [if_neg (not_not_intro hA), if_neg (not_not_intro hB), if_pos hC]); rw [chk_at hn hc2 hi2 hil (by rw [hfe]; decide), hfe]; rfl, h'.below⟩)
              · try simp only [decide_eq_true_eq, decide_eq_false_iff_not, Bool.not_eq_true', Bool.not_eq_false', Bool.and_eq_true, Bool.or_eq_true, Bool.and_eq_false_iff, Bool.or_eq_false_iff, Bool.not_true, Bool.not_false] at h16
                have hC : ¬ (nth L i).op.length = 0 := by have hq := h16; omega
                have hfi : filE next (pls L) i = hdlsE next (hds ((pls L).take i)) (plo (nth L i).op) := by rw [fil_r hil, if_neg (not_not_intro hA), if_neg (not_not_intro hB), if_neg hC]
                refine s_skip ?_
                refine s_seq ?_
                refine s_region ?_
                refine o_p (p_pure rfl) rfl ?_
                refine o_nil ?_
                refine s_block ?_
                refine s_loopI (α := Nat) [2, 3, 7, 8, 62, 63, 64, 65, 66, 67, 68, 69, 70, 71, 72, 73, 74, 75, 76] (fun k => [(7, .int .i64 (k : Int))]) (fun _ => HS w [] [.blk b1 26 2 [.int .i64 next, .slice a L.length cap], .blk b9 77 4 (nth L i).vals]) (fun k => k ≤ (nth L i).op.length ∧ eachF (hdlEs next (hds ((pls L).take i)) (plo (nth L i).op)) 0 = eachF ((hdlEs next (hds ((pls L).take i)) (plo (nth L i).op)).drop k) k ∧ ∀ j, j < k → hdlE next (hds ((pls L).take i)) (plo (nth L i).op) j = 0) (fun k => (nth L i).op.length - k) 0 ⟨Nat.zero_le _, rfl, fun j h => absurd h (Nat.not_lt_zero j)⟩ aSx (fun w h => h.ent aEt) (fun k hy => ?_)
                obtain ⟨hk1, hk2, hk3⟩ := hy
                refine s_seq ?_
                refine s_seq ?_
                refine s_region ?_
                refine o_p (p_pure rfl) rfl ?_
                refine o_p (p_fieldAddr rfl rfl fd_77_2 sz_75 rfl) rfl ?_
                refine o_q (q_load rfl rfl sz_75 aPk rfl) rfl ?_
                refine o_p (p_len_slice rfl rfl Try.underlying75) rfl ?_
                refine o_p (p_pure rfl) rfl ?_
                refine o_nil ?_
                refine s_cond rfl (fun h17 => ?_) (fun h17 => ?_)
                · try simp only [decide_eq_true_eq, decide_eq_false_iff_not, Bool.not_eq_true', Bool.not_eq_false', Bool.and_eq_true, Bool.or_eq_true, Bool.and_eq_false_iff, Bool.or_eq_false_iff, Bool.not_true, Bool.not_false] at h17
                  have hkl : k < (nth L i).op.length := by omega
                  refine s_skip ?_
                  refine s_seq ?_
                  refine s_block ?_
                  refine s_seq ?_
                  refine s_region ?_
                  refine o_q (q_loadn rfl rfl sz_26 aPk rfl) rfl ?_
                  refine o_p (p_pure rfl) rfl ?_
                  refine o_p (p_pure rfl) rfl ?_
                  refine o_q (q_call rfl fn_61 rfl (fun w1 h1 => c61 w1 next a cap L i k (hs.later h1) hm hmo hil hkl hn hk3)) rfl ?_
                  refine o_p (p_pure rfl) rfl ?_
                  refine o_nil ?_
                  refine s_seq ?_
                  refine s_region ?_
                  refine o_p (p_pure rfl) rfl ?_
                  refine o_p (p_pure rfl) rfl ?_
                  refine o_nil ?_
                  refine s_cond rfl (fun h18 => ?_) (fun h18 => ?_)
                  · try simp only [decide_eq_true_eq, decide_eq_false_iff_not, Bool.not_eq_true', Bool.not_eq_false', Bool.and_eq_true, Bool.or_eq_true, Bool.and_eq_false_iff, Bool.or_eq_false_iff, Bool.not_true, Bool.not_false] at h18
                    have hke : ¬ hdlE next (hds ((pls L).take i)) (plo (nth L i).op) k = 0 := h18
                    have hfe : filE next (pls L) i = hdlE next (hds ((pls L).take i)) (plo (nth L i).op) k := by rw [hfi]; show (eachF (hdlEs next (hds ((pls L).take i)) (plo (nth L i).op)) 0).2 = _; rw [hk2, eachF_drop (by rw [hdlEs_len]; exact hkl), hdlEs_getl hkl, if_neg hke]
                    refine s_seq ?_
                    refine s_region ?_
                    refine o_p (p_pure rfl) rfl ?_
                    refine o_p (p_pure rfl) rfl ?_
                    refine o_p (p_pure rfl) rfl ?_
                    refine o_p (p_pure rfl) rfl ?_
                    refine o_nil ?_
                    exact s_retv (rs := [.tmp 2, .tmp 3]) rfl (.tmp rfl (.tmp rfl (.nil))) (fun w' h' => ⟨by rw [chk_at hn hc2 hi2 hil (by rw [hfe]; exact hke), hfe]; rfl, h'.below⟩)
                  · try simp only [decide_eq_true_eq, decide_eq_false_iff_not, Bool.not_eq_true', Bool.not_eq_false', Bool.and_eq_true, Bool.or_eq_true, Bool.and_eq_false_iff, Bool.or_eq_false_iff, Bool.not_true, Bool.not_false] at h18
                    have hkz : hdlE next (hds ((pls L).take i)) (plo (nth L i).op) k = 0 := by have hq := h18; simpa using hq
                    refine s_skip ?_
                    refine s_blk ?_
                    refine s_region ?_
                    refine o_p (p_pure rfl) rfl ?_
                    refine o_p (p_pure rfl) rfl ?_
                    try (refine o_slot (i64w (by omega) (by omega)) ?_)
                    refine o_p (p_pure rfl) rfl ?_
                    refine o_nil ?_
                    exact s_backI (k + 1) (by omega) ⟨by omega, by rw [hk2, eachF_drop (by rw [hdlEs_len]; exact hkl), hdlEs_getl hkl, if_pos hkz], fun j hj => (Nat.lt_or_ge j k).elim (hk3 j) (fun p3 => by have e9 : j = k := (by omega); rw [e9]; exact hkz)⟩ aSx (fun w h => h.ent aEt)
                · try simp only [decide_eq_true_eq, decide_eq_false_iff_not, Bool.not_eq_true', Bool.not_eq_false', Bool.and_eq_true, Bool.or_eq_true, Bool.and_eq_false_iff, Bool.or_eq_false_iff, Bool.not_true, Bool.not_false] at h17
                  have hfz : filE next (pls L) i = 0 := by rw [hfi]; show (eachF (hdlEs next (hds ((pls L).take i)) (plo (nth L i).op)) 0).2 = 0; rw [hk2, eachF_end (by rw [hdlEs_len]; omega)]
                  refine s_exit_to rfl ?_
                  refine s_blk ?_
                  refine s_region ?_
                  refine o_p (p_pure rfl) rfl ?_
                  refine o_p (p_pure rfl) rfl ?_
                  try (refine o_slot (i64w (by omega) (by omega)) ?_)
                  refine o_p (p_pure rfl) rfl ?_
                  refine o_nil ?_
                  exact s_backI (i + 1) (by omega) ⟨by omega, by rw [hi2, eachF_drop (by omega), filEs_getl hil, if_pos hfz]⟩ aSx (fun w h => h.ent aEt)
      · try simp only [decide_eq_true_eq, decide_eq_false_iff_not, Bool.not_eq_true', Bool.not_eq_false', Bool.and_eq_true, Bool.or_eq_true, Bool.and_eq_false_iff, Bool.or_eq_false_iff, Bool.not_true, Bool.not_false] at h8
        refine s_exit_to rfl ?_
        refine s_seq ?_
        refine s_region ?_
        refine o_p (p_pure rfl) rfl ?_
        refine o_p (p_pure rfl) rfl ?_
        refine o_nil ?_
        exact s_retv (rs := [.tmp 2, .tmp 3]) rfl (.tmp rfl (.tmp rfl (.nil))) (fun w' h' => ⟨by rw [chk_r hn hc2, hi2, eachF_end (by omega)]; rfl, h'.below⟩)

set_option maxRecDepth 20000 in
theorem c31 (w : World) (next : Int) (a : Option Addr) (cap : Nat) (L : List LFil) (hs : Ft w [] a L) (hm : L.length ≤ 1000) (hmo : ∀ f ∈ L, f.op.length ≤ 1000) : Calls Try.prog 31 #[.agg #[.int .i64 next, .slice a L.length cap]] w fun en w' => en = .returned (.int .i64 (chkT next (pls L)).2) ∧ Below w.heap.size w w' := by
  refine enter (args := [_]) Try.func31 Try.ntmps31 rfl rfl (HS.refl w []) ?_
  refine s_seq ?_
  refine s_region ?_
  refine o_h (h_box rfl rfl) rfl (fun b1 _ => ?_)
  refine o_p (p_pure rfl) rfl ?_
  refine o_nil ?_
  refine s_seq ?_
  refine s_region ?_
  refine o_q (q_loadn rfl rfl sz_26 aPk rfl) rfl ?_
  refine o_q (q_call rfl fn_20 rfl (fun w1 h1 => c20 w1 next a cap L (hs.later h1) hm hmo)) rfl ?_
  refine o_p (p_pure rfl) rfl ?_
  refine o_p (p_pure rfl) rfl ?_
  refine o_p (p_pure rfl) rfl ?_
  refine o_p (p_pure rfl) rfl ?_
  refine o_p (p_pure rfl) rfl ?_
  refine o_nil ?_
  refine s_seq ?_
  refine s_region ?_
  refine o_p (p_pure rfl) rfl ?_
  refine o_p (p_pure rfl) rfl ?_
  refine o_nil ?_
  exact s_retv (rs := [.tmp 2]) rfl (.tmp rfl (.nil)) (fun w' h' => ⟨rfl, h'.below⟩)

end Go.Proofs

namespace Go.Proofs
open Go Go.RowKit Gx
set_option linter.unusedVariables false
set_option linter.unusedSimpArgs false
attribute [local irreducible] Go.Calls Gx.S Gx.O Gx.D Gx.OpP Gx.OpQ Gx.OpH

theorem fn_31 : isFn Try.prog 31 = true := by kernel_rfl
theorem fn_33 : isFn Try.prog 33 = true := by kernel_rfl


def hErr (next : Int) (L : List Fil) (h : Int) : Int := if (chkT next L).2 = 0 then (findF L h 0).2.2 else (chkT next L).2
def fErr (next : Int) (L : List Fil) (rc sq : Int) : Int := if (chkT next L).2 = 0 then if refE rc sq = 0 then if ixI (atB L rc sq) < 0 then 6 else 0 else refE rc sq else (chkT next L).2
section
variable {w0 w : World} {M : List Nat} {As As' : List HA} {a : Option Addr} {cap : Nat}
theorem HS.files_more {l : List LFil} {f : LFil} {n : Nat} {xs : List Value} (h : HS w0 M (.own (.slice a n cap) 77 4 n xs :: .star (l.map subF) :: subF f :: As) w) (hn : n = (l ++ [f]).length) (hx : xs = (l ++ [f]).flatMap LFil.vals) : HS w0 M (.files a cap (l ++ [f]) :: As) w := by
  have h1 : HS w0 M (subF f :: .star (l.map subF) :: .own (.slice a n cap) 77 4 n xs :: As) w := h.perm ((List.Perm.swap ..).trans ((List.Perm.cons _ (List.Perm.swap ..)).trans (List.Perm.swap ..)))
  exact HS.row_shut (h1.sub_app.perm (List.Perm.swap ..)) hn hx
end
theorem app_len1 {α : Type} {l : List α} {x : α} : (l ++ [x]).length = l.length + 1 := by simp
theorem app_flat1 {α : Type} {vals : α → List Value} {l : List α} {x : α} : (l ++ [x]).flatMap vals = l.flatMap vals ++ vals x := by simp
theorem pls_app1 {l : List LFil} {x : LFil} : pls (l ++ [x]) = pls l ++ [x.pl] := by simp [pls]
theorem plo_app1 {l : List LOpn} {x : LOpn} : plo (l ++ [x]) = plo l ++ [x.pl] := by simp [plo]

set_option maxRecDepth 20000 in
theorem c43 (w : World) (next : Int) (a : Option Addr) (cap : Nat) (L : List LFil) (rc sq : Int) (hs : Ft w [] a L) (hm : L.length ≤ 1000) (hmo : ∀ f ∈ L, f.op.length ≤ 1000) : Calls Try.prog 43 #[.agg #[.int .i64 next, .slice a L.length cap], .agg #[.int .i64 rc, .int .i64 sq]] w fun en w' => en = .returned (.int .i64 (fErr next (pls L) rc sq)) ∧ Below w.heap.size w w' := by
  refine enter (args := [_, _]) Try.func43 Try.ntmps43 rfl rfl (HS.refl w []) ?_
  refine s_seq ?_
  refine s_region ?_
  refine o_h (h_box rfl rfl) rfl (fun b1 _ => ?_)
  refine o_h (h_box rfl rfl) rfl (fun b2 _ => ?_)
  refine o_p (p_pure rfl) rfl ?_
  refine o_nil ?_
  refine s_seq ?_
  refine s_seq ?_
  refine s_region ?_
  refine o_q (q_loadn rfl rfl sz_26 aPk rfl) rfl ?_
  refine o_q (q_call rfl fn_31 rfl (fun w1 h1 => c31 w1 next a cap L (hs.later h1) hm hmo)) rfl ?_
  refine o_p (p_pure rfl) rfl ?_
  refine o_nil ?_
  refine s_seq ?_
  refine s_region ?_
  refine o_p (p_pure rfl) rfl ?_
  refine o_p (p_pure rfl) rfl ?_
  refine o_nil ?_
  refine s_cond rfl (fun h3 => ?_) (fun h3 => ?_)
  · try simp only [decide_eq_true_eq, decide_eq_false_iff_not, Bool.not_eq_true', Bool.not_eq_false', Bool.and_eq_true, Bool.or_eq_true, Bool.and_eq_false_iff, Bool.or_eq_false_iff, Bool.not_true, Bool.not_false] at h3
    have h0 : ¬ (chkT next (pls L)).2 = 0 := h3
    refine s_seq ?_
    refine s_region ?_
    refine o_p (p_pure rfl) rfl ?_
    refine o_p (p_pure rfl) rfl ?_
    refine o_nil ?_
    exact s_retv (rs := [.tmp 4]) rfl (.tmp rfl (.nil)) (fun w' h' => ⟨by rw [fErr, if_neg h0]; rfl, h'.below⟩)
  · try simp only [decide_eq_true_eq, decide_eq_false_iff_not, Bool.not_eq_true', Bool.not_eq_false', Bool.and_eq_true, Bool.or_eq_true, Bool.and_eq_false_iff, Bool.or_eq_false_iff, Bool.not_true, Bool.not_false] at h3
    have h0 : (chkT next (pls L)).2 = 0 := h3
    refine s_skip ?_
    refine s_seq ?_
    refine s_seq ?_
    refine s_region ?_
    refine o_q (q_loadn rfl rfl sz_42 aPk rfl) rfl ?_
    refine o_q (q_call rfl fn_32 rfl (fun w1 h1 => c32 w1 rc sq)) rfl ?_
    refine o_p (p_pure rfl) rfl ?_
    refine o_nil ?_
    refine s_seq ?_
    refine s_region ?_
    refine o_p (p_pure rfl) rfl ?_
    refine o_p (p_pure rfl) rfl ?_
    refine o_nil ?_
    refine s_cond rfl (fun h4 => ?_) (fun h4 => ?_)
    · try simp only [decide_eq_true_eq, decide_eq_false_iff_not, Bool.not_eq_true', Bool.not_eq_false', Bool.and_eq_true, Bool.or_eq_true, Bool.and_eq_false_iff, Bool.or_eq_false_iff, Bool.not_true, Bool.not_false] at h4
      have h01 : ¬ refE rc sq = 0 := h4
      refine s_seq ?_
      refine s_region ?_
      refine o_p (p_pure rfl) rfl ?_
      refine o_p (p_pure rfl) rfl ?_
      refine o_nil ?_
      exact s_retv (rs := [.tmp 4]) rfl (.tmp rfl (.nil)) (fun w' h' => ⟨by rw [fErr, if_pos h0, if_neg h01]; rfl, h'.below⟩)
    · try simp only [decide_eq_true_eq, decide_eq_false_iff_not, Bool.not_eq_true', Bool.not_eq_false', Bool.and_eq_true, Bool.or_eq_true, Bool.and_eq_false_iff, Bool.or_eq_false_iff, Bool.not_true, Bool.not_false] at h4
      have h01 : refE rc sq = 0 := h4
      refine s_skip ?_
      refine s_seq ?_
      refine s_seq ?_
      refine s_region ?_
      refine o_q (q_loadn rfl rfl sz_26 aPk rfl) rfl ?_
      refine o_q (q_loadn rfl rfl sz_42 aPk rfl) rfl ?_
      refine o_q (q_call rfl fn_33 rfl (fun w1 h1 => c33 w1 next a cap L rc sq (hs.later h1) hm hmo)) rfl ?_
      refine o_p (p_pure rfl) rfl ?_
      refine o_nil ?_
      refine s_cond rfl (fun h5 => ?_) (fun h5 => ?_)
      · try simp only [decide_eq_true_eq, decide_eq_false_iff_not, Bool.not_eq_true', Bool.not_eq_false', Bool.and_eq_true, Bool.or_eq_true, Bool.and_eq_false_iff, Bool.or_eq_false_iff, Bool.not_true, Bool.not_false] at h5
        refine s_seq ?_
        refine s_region ?_
        refine o_p (p_pure rfl) rfl ?_
        refine o_nil ?_
        exact s_retv (rs := [.tmp 4]) rfl (.tmp rfl (.nil)) (fun w' h' => ⟨by rw [fErr, if_pos h0, if_pos h01, if_pos h5]; rfl, h'.below⟩)
      · try simp only [decide_eq_true_eq, decide_eq_false_iff_not, Bool.not_eq_true', Bool.not_eq_false', Bool.and_eq_true, Bool.or_eq_true, Bool.and_eq_false_iff, Bool.or_eq_false_iff, Bool.not_true, Bool.not_false] at h5
        refine s_skip ?_
        refine s_seq ?_
        refine s_region ?_
        refine o_p (p_pure rfl) rfl ?_
        refine o_nil ?_
        exact s_retv (rs := [.tmp 4]) rfl (.tmp rfl (.nil)) (fun w' h' => ⟨by rw [fErr, if_pos h0, if_pos h01, if_neg h5]; rfl, h'.below⟩)

set_option maxRecDepth 20000 in
set_option maxHeartbeats 1000000 in
theorem c19 (w : World) (next : Int) (a : Option Addr) (cap : Nat) (L : List LFil) (hs : Ft w [] a L) (hm : L.length ≤ 1000) (hmo : ∀ f ∈ L, f.op.length ≤ 1000) (hml : ∀ f ∈ L, ∀ o ∈ f.op, o.lk.length ≤ 1000) : Calls Try.prog 19 #[.agg #[.int .i64 next, .slice a L.length cap]] w fun en w' => ∃ g : (Option Addr × Nat) × List LFil, en = .returned (.agg #[.int .i64 next, .slice g.1.1 g.2.length g.1.2]) ∧ pls g.2 = pls L ∧ HS w [] [.files g.1.1 g.1.2 g.2] w' := by
  have hpl : (pls L).length = L.length := by simp
  refine enter (args := [_]) Try.func19 Try.ntmps19 rfl rfl (HS.refl w []) ?_
  refine s_seq ?_
  refine s_region ?_
  refine o_h (h_box rfl rfl) rfl (fun b1 _ => ?_)
  refine o_h (h_alloc rfl zr_26) rfl (fun b2 _ => ?_)
  refine o_nil ?_
  refine s_seq ?_
  refine s_region ?_
  refine o_p (p_fieldAddr rfl rfl fd_26_0 sz_3 rfl) rfl ?_
  refine o_q (q_load rfl rfl sz_3 aPk rfl) rfl ?_
  refine o_p (p_build (cs := [_, _]) rfl rfl pl_26 zr_26 rfl) rfl ?_
  refine o_h (h_alloc rfl zr_26) rfl (fun b3 _ => ?_)
  refine o_h0 (h_store rfl rfl rfl sz_26 rfl aPt (by simp only [setMany_length, List.length_set, List.length_cons, List.length_nil, List.length_map]; omega) rfl) (fun _ _ => ?_)
  refine o_nil ?_
  refine s_seq ?_
  refine s_seq ?_
  refine s_region ?_
  refine o_p (p_pure rfl) rfl ?_
  refine o_nil ?_
  refine s_block ?_
  refine s_loopI (α := Nat × (Option Addr × Nat) × List LFil) [4, 5, 6, 7, 11, 12, 13, 14, 15, 16, 17, 18, 19, 20, 21, 22, 23, 24, 25, 26, 27, 28, 29, 30, 31, 32, 33, 34, 35, 36, 37, 38, 39, 40, 41, 42, 43, 44, 45, 46, 47, 48, 49, 50, 51, 52, 53, 54, 55, 56, 57, 58, 59, 60, 61, 62, 63, 64, 65, 66, 67] (fun y => [(4, .int .i64 (y.1 : Int))]) (fun y => HS w [] [.blk b3 26 2 [.int .i64 next, .slice y.2.1.1 y.2.2.length y.2.1.2], .files y.2.1.1 y.2.1.2 y.2.2, .blk b1 26 2 [.int .i64 next, .slice a L.length cap], .blk b2 26 2 [.int .i64 0, .slice none 0 0]]) (fun y => y.1 ≤ L.length ∧ pls y.2.2 = (pls L).take y.1) (fun y => L.length - y.1) (0, (none, 0), []) ⟨Nat.zero_le _, rfl⟩ aSx (fun w h => (HS.files_none h).ent aEt) (fun ⟨i, x, M⟩ hy => ?_)
  dsimp only at hy ⊢
  obtain ⟨hi1, hi2⟩ := hy
  refine s_seq ?_
  refine s_seq ?_
  refine s_region ?_
  refine o_p (p_pure rfl) rfl ?_
  refine o_p (p_fieldAddr rfl rfl fd_26_1 sz_24 rfl) rfl ?_
  refine o_q (q_load rfl rfl sz_24 aPk rfl) rfl ?_
  refine o_p (p_len_slice rfl rfl Try.underlying24) rfl ?_
  refine o_p (p_pure rfl) rfl ?_
  refine o_nil ?_
  refine s_cond rfl (fun h4 => ?_) (fun h4 => ?_)
  · try simp only [decide_eq_true_eq, decide_eq_false_iff_not, Bool.not_eq_true', Bool.not_eq_false', Bool.and_eq_true, Bool.or_eq_true, Bool.and_eq_false_iff, Bool.or_eq_false_iff, Bool.not_true, Bool.not_false] at h4
    have hil : i < L.length := by omega
    have hoi := hmo _ (mem_nth hil)
    have hMl : M.length = i := by have h9 := congrArg List.length hi2; simp at h9; omega
    refine s_skip ?_
    refine s_seq ?_
    refine s_block ?_
    refine s_seq ?_
    refine s_draw [14] mixed ?_
    refine d_p 0 rfl (p_fieldAddr rfl rfl fd_26_1 sz_24 rfl) (by kernel_rfl) rfl rfl ?_
    refine d_q 1 [[]] rfl (q_load rfl rfl sz_24 aPk rfl) (by kernel_rfl) (by kernel_rfl) (by kernel_rfl) rfl ?_
    refine d_p 2 rfl (p_pure rfl) (by kernel_rfl) rfl rfl ?_
    refine d_p 3 rfl (p_indexAddr rfl rfl rfl sl_24 (i) (by omega) (by omega) (Rw.some hs.1 (by omega))) (by kernel_rfl) rfl rfl ?_
    refine d_p 4 rfl (p_fieldAddr rfl rfl fd_77_0 sz_42 rfl) (by kernel_rfl) rfl rfl ?_
    refine d_q 5 [[]] rfl (q_load_oldn [.int .i64 (nth L i).rc, .int .i64 (nth L i).sq] rfl rfl sz_42 rfl (fun j v hv => Rw.rd hs.1 (i := i) hil j v (by rcases j with _ | _ | j <;> first | exact hv | (simp at hv)))) (by kernel_rfl) (by kernel_rfl) (by kernel_rfl) rfl ?_
    refine d_p 6 rfl (p_fieldAddr rfl rfl fd_26_1 sz_24 rfl) (by kernel_rfl) rfl rfl ?_
    refine d_q 7 [[]] rfl (q_load rfl rfl sz_24 aPk rfl) (by kernel_rfl) (by kernel_rfl) (by kernel_rfl) rfl ?_
    refine d_p 8 rfl (p_pure rfl) (by kernel_rfl) rfl rfl ?_
    refine d_p 9 rfl (p_indexAddr rfl rfl rfl sl_24 (i) (by omega) (by omega) (Rw.some hs.1 (by omega))) (by kernel_rfl) rfl rfl ?_
    refine d_p 10 rfl (p_fieldAddr rfl rfl fd_77_1 sz_4 rfl) (by kernel_rfl) rfl rfl ?_
    refine d_q 11 [[]] rfl (q_load_old rfl rfl sz_4 ((hs.1.rdj 2 hil rfl))) (by kernel_rfl) (by kernel_rfl) (by kernel_rfl) rfl ?_
    refine d_p 12 rfl (p_build (cs := [_, _, _, _]) rfl rfl pl_77 zr_77 rfl) (by kernel_rfl) rfl rfl ?_
    refine d_h 13 rfl (h_alloc rfl zr_77) (by kernel_rfl) (fun w h => h.ent aEt) rfl (fun b5 _ => ?_)
    refine d_base (fun w h => h.ent aEt) ?_
    refine d_h0 14 rfl (h_store rfl rfl rfl sz_77 rfl aPt (by simp only [setMany_length, List.length_set, List.length_cons, List.length_nil, List.length_map]; omega) rfl) (by kernel_rfl) (fun w h => h.ent aEt) (fun _ _ => ?_)
    refine d_turn [] (by kernel_rfl) ?_
    refine d_nil (by kernel_rfl) (fun w h => h.ent aEt) ?_
    refine s_seq ?_
    refine s_seq ?_
    refine s_region ?_
    refine o_p (p_pure rfl) rfl ?_
    refine o_nil ?_
    refine s_block ?_
    refine s_weaken (L' := [(0, _), (1, _), (2, _), (3, _), (4, _), (5, _), (6, _), (8, _), (9, _), (10, _)]) aSx (fun _ h => h) ?_
    refine s_loopI (α := Nat × (Option Addr × Nat) × List LOpn) [6, 7, 31, 32, 33, 34, 35, 36, 37, 38, 39, 40, 41, 42, 43, 44, 45, 46, 47, 48, 49, 50, 51, 52, 53, 54, 55, 56, 57, 58, 59, 60, 61] (fun z => [(6, .int .i64 (z.1 : Int))]) (fun z => HS w [] [.blk b5 77 4 [.int .i64 (nth L i).rc, .int .i64 (nth L i).sq, .bool (nth L i).pd, .slice z.2.1.1 z.2.2.length z.2.1.2], .opens z.2.1.1 z.2.1.2 z.2.2, .blk b3 26 2 [.int .i64 next, .slice x.1 M.length x.2], .files x.1 x.2 M, .blk b1 26 2 [.int .i64 next, .slice a L.length cap], .blk b2 26 2 [.int .i64 0, .slice none 0 0]]) (fun z => z.1 ≤ (nth L i).op.length ∧ plo z.2.2 = (plo (nth L i).op).take z.1) (fun z => (nth L i).op.length - z.1) (0, (none, 0), []) ⟨Nat.zero_le _, rfl⟩ aSx (fun w h => (HS.opens_none h).ent aEt) (fun ⟨k, o, N⟩ hz => ?_)
    dsimp only at hz ⊢
    obtain ⟨hk1, hk2⟩ := hz
    refine s_seq ?_
    refine s_seq ?_
    refine s_region ?_
    refine o_p (p_pure rfl) rfl ?_
    refine o_p (p_fieldAddr rfl rfl fd_26_1 sz_24 rfl) rfl ?_
    refine o_q (q_load rfl rfl sz_24 aPk rfl) rfl ?_
    refine o_p (p_pure rfl) rfl ?_
    refine o_p (p_indexAddr rfl rfl rfl sl_24 (i) (by omega) (by omega) (Rw.some hs.1 (by omega))) rfl ?_
    refine o_p (p_fieldAddr rfl rfl fd_77_2 sz_75 rfl) rfl ?_
    refine o_q (q_load_old rfl rfl sz_75 ((hs.1.rdj 3 hil rfl))) rfl ?_
    refine o_p (p_len_slice rfl rfl Try.underlying75) rfl ?_
    refine o_p (p_pure rfl) rfl ?_
    refine o_nil ?_
    refine s_cond rfl (fun h6 => ?_) (fun h6 => ?_)
    · try simp only [decide_eq_true_eq, decide_eq_false_iff_not, Bool.not_eq_true', Bool.not_eq_false', Bool.and_eq_true, Bool.or_eq_true, Bool.and_eq_false_iff, Bool.or_eq_false_iff, Bool.not_true, Bool.not_false] at h6
      have hkl : k < (nth L i).op.length := by omega
      have hki := hml _ (mem_nth hil) _ (mem_nth hkl)
      have hNl : N.length = k := by have h9 := congrArg List.length hk2; simp at h9; omega
      refine s_skip ?_
      refine s_seq ?_
      refine s_block ?_
      refine s_seq ?_
      refine s_region ?_
      refine o_p (p_fieldAddr rfl rfl fd_26_1 sz_24 rfl) rfl ?_
      refine o_q (q_load rfl rfl sz_24 aPk rfl) rfl ?_
      refine o_p (p_pure rfl) rfl ?_
      refine o_p (p_indexAddr rfl rfl rfl sl_24 (i) (by omega) (by omega) (Rw.some hs.1 (by omega))) rfl ?_
      refine o_p (p_fieldAddr rfl rfl fd_77_2 sz_75 rfl) rfl ?_
      refine o_q (q_load_old rfl rfl sz_75 ((hs.1.rdj 3 hil rfl))) rfl ?_
      refine o_p (p_pure rfl) rfl ?_
      refine o_p (p_indexAddr rfl rfl rfl sl_75 (k) (by omega) (by omega) (Rw.some (hs.at hil).1 (by omega))) rfl ?_
      refine o_q (q_load_oldn _ rfl rfl sz_48 rfl (Rw.rd (hs.at hil).1 hkl)) rfl ?_
      refine o_h (h_alloc rfl zr_48) rfl (fun b7 _ => ?_)
      refine o_h0 (h_store rfl rfl rfl sz_48 rfl aPt (by simp only [setMany_length, List.length_set, List.length_cons, List.length_nil, List.length_map]; omega) rfl) (fun _ _ => ?_)
      refine o_nil ?_
      refine s_seq ?_
      refine s_region ?_
      refine o_h (h_buildSlice0 rfl sl_46) rfl (fun b8 _ => ?_)
      refine o_p (p_fieldAddr rfl rfl fd_48_4 sz_46 rfl) rfl ?_
      refine o_q (q_load rfl rfl sz_46 aPk rfl) rfl ?_
      refine o_h (h_appendS (n := 0) ((nth (nth L i).op k).lk.flatMap Lock.vals) rfl rfl rfl sl_46 Try.underlying46 zr_62 rfl aPk (fun w h => Rw.src lv3 ((hs.at hil).at hkl) h) (flat_length lv3 _) (flat_one lv1 _) (by omega) (by simp only [maxLen]; omega)) rfl (fun b9 _ => ?_)
      simp only [Nat.zero_add, List.nil_append]
      refine o_p (p_fieldAddr rfl rfl fd_48_4 sz_46 rfl) rfl ?_
      refine o_h0 (h_store rfl rfl rfl sz_46 rfl aPt (by simp only [setMany_length, List.length_set, List.length_cons, List.length_nil, List.length_map]; omega) rfl) (fun _ _ => ?_)
      refine o_nil ?_
      refine s_weaken (L' := [(0, _), (1, _), (2, _), (3, _), (4, _), (5, _), (6, _), (7, _), (8, _), (9, _), (10, _)]) aSx (fun _ h => h) ?_
      refine s_region ?_
      refine o_p (p_fieldAddr rfl rfl fd_77_2 sz_75 rfl) rfl ?_
      refine o_q (q_load rfl rfl sz_75 aPk rfl) rfl ?_
      refine o_class (fun w h => HS.opens_split (a := o.1) (cap := o.2) (l := N) h aPk) ?_
      refine o_q (q_loadn rfl rfl sz_48 aPk rfl) rfl ?_
      refine o_h (h_buildSlice (cs := [_, _, _, _, _]) rfl rfl sl_75 zr_48 rfl rfl rfl) rfl (fun b10 _ => ?_)
      refine o_h (h_appendS (n := N.length) ({ (nth (nth L i).op k) with la := b9.1, lc := b9.2 } : LOpn).vals rfl rfl rfl sl_75 Try.underlying75 zr_48 rfl aPk (src_blk aPk) rfl (ov1 ({ (nth (nth L i).op k) with la := b9.1, lc := b9.2 } : LOpn)) (by omega) (by simp only [maxLen]; omega)) rfl (fun b11 _ => ?_)
      refine o_p (p_fieldAddr rfl rfl fd_77_2 sz_75 rfl) rfl ?_
      refine o_h0 (h_store rfl rfl rfl sz_75 rfl aPt (by simp only [setMany_length, List.length_set, List.length_cons, List.length_nil, List.length_map]; omega) rfl) (fun _ _ => ?_)
      refine o_nil ?_
      refine s_blk ?_
      refine s_region ?_
      refine o_p (p_pure rfl) rfl ?_
      refine o_p (p_pure rfl) rfl ?_
      try (refine o_slot (i64w (by omega) (by omega)) ?_)
      refine o_p (p_pure rfl) rfl ?_
      refine o_nil ?_
      exact s_backI (k + 1, b11, N ++ [({ (nth (nth L i).op k) with la := b9.1, lc := b9.2 } : LOpn)]) (by show (nth L i).op.length - (k + 1) < (nth L i).op.length - k; omega) ⟨by show k + 1 ≤ (nth L i).op.length; omega, by show plo (N ++ [({ (nth (nth L i).op k) with la := b9.1, lc := b9.2 } : LOpn)]) = (plo (nth L i).op).take (k + 1); rw [plo_app1, hk2, take_succ_nth (by simpa using hkl), nth_plo hkl]; rfl⟩ aSx (fun w h => by have h2 := HS.opens_more (o := ({ (nth (nth L i).op k) with la := b9.1, lc := b9.2 } : LOpn)) (l := N) (h.ent (Bs := [.own (.slice b11.1 (N.length + 1) b11.2) 48 5 (N.length + 1) _, .star (N.map subO), subO ({ (nth (nth L i).op k) with la := b9.1, lc := b9.2 } : LOpn), .blk b5 77 4 [.int .i64 (nth L i).rc, .int .i64 (nth L i).sq, .bool (nth L i).pd, .slice b11.1 (N.length + 1) b11.2], .blk b3 26 2 [.int .i64 next, .slice x.1 M.length x.2], .files x.1 x.2 M, .blk b1 26 2 [.int .i64 next, .slice a L.length cap], .blk b2 26 2 [.int .i64 0, .slice none 0 0]]) aEt) app_len1.symm app_flat1.symm; dsimp only; rw [app_len1]; exact h2.ent aEt)
    · try simp only [decide_eq_true_eq, decide_eq_false_iff_not, Bool.not_eq_true', Bool.not_eq_false', Bool.and_eq_true, Bool.or_eq_true, Bool.and_eq_false_iff, Bool.or_eq_false_iff, Bool.not_true, Bool.not_false] at h6
      refine s_exit_to rfl ?_
      refine s_region ?_
      refine o_p (p_fieldAddr rfl rfl fd_26_1 sz_24 rfl) rfl ?_
      refine o_q (q_load rfl rfl sz_24 aPk rfl) rfl ?_
      refine o_class (fun w h => HS.files_open (a := x.1) (cap := x.2) (l := M) h aPk) ?_
      refine o_q (q_loadn rfl rfl sz_77 aPk rfl) rfl ?_
      refine o_h (h_buildSlice (cs := [_, _, _, _]) rfl rfl sl_24 zr_77 rfl rfl rfl) rfl (fun b12 _ => ?_)
      refine o_h (h_appendS (n := M.length) ({ nth L i with oa := o.1, oc := o.2, op := N } : LFil).vals rfl rfl rfl sl_24 Try.underlying24 zr_77 rfl aPk (src_blk aPk) rfl (fv1 ({ nth L i with oa := o.1, oc := o.2, op := N } : LFil)) (by omega) (by simp only [maxLen]; omega)) rfl (fun b13 _ => ?_)
      refine o_p (p_fieldAddr rfl rfl fd_26_1 sz_24 rfl) rfl ?_
      refine o_h0 (h_store rfl rfl rfl sz_24 rfl aPt (by simp only [setMany_length, List.length_set, List.length_cons, List.length_nil, List.length_map]; omega) rfl) (fun _ _ => ?_)
      refine o_nil ?_
      refine s_blk ?_
      refine s_region ?_
      refine o_p (p_pure rfl) rfl ?_
      refine o_p (p_pure rfl) rfl ?_
      try (refine o_slot (i64w (by omega) (by omega)) ?_)
      refine o_p (p_pure rfl) rfl ?_
      refine o_nil ?_
      exact s_backI (i + 1, b13, M ++ [({ nth L i with oa := o.1, oc := o.2, op := N } : LFil)]) (by show L.length - (i + 1) < L.length - i; omega) ⟨by show i + 1 ≤ L.length; omega, by show pls (M ++ [({ nth L i with oa := o.1, oc := o.2, op := N } : LFil)]) = (pls L).take (i + 1); rw [pls_app1, hi2, take_succ_nth (by omega), nth_pls hil]; have e8 : k = (nth L i).op.length := (by omega); rw [e8, List.take_of_length_le (by simp)] at hk2; simp only [LFil.pl]; rw [show List.map LOpn.pl N = List.map LOpn.pl (nth L i).op from hk2]⟩ aSx (fun w h => by have h2 := HS.files_more (f := ({ nth L i with oa := o.1, oc := o.2, op := N } : LFil)) (l := M) (h.ent (Bs := [.own (.slice b13.1 (M.length + 1) b13.2) 77 4 (M.length + 1) _, .star (M.map subF), subF ({ nth L i with oa := o.1, oc := o.2, op := N } : LFil), .blk b3 26 2 [.int .i64 next, .slice b13.1 (M.length + 1) b13.2], .blk b1 26 2 [.int .i64 next, .slice a L.length cap], .blk b2 26 2 [.int .i64 0, .slice none 0 0]]) aEt) app_len1.symm app_flat1.symm; dsimp only; rw [app_len1]; exact h2.ent aEt)
  · try simp only [decide_eq_true_eq, decide_eq_false_iff_not, Bool.not_eq_true', Bool.not_eq_false', Bool.and_eq_true, Bool.or_eq_true, Bool.and_eq_false_iff, Bool.or_eq_false_iff, Bool.not_true, Bool.not_false] at h4
    refine s_exit_to rfl ?_
    refine s_seq ?_
    refine s_region ?_
    refine o_q (q_loadn rfl rfl sz_26 aPk rfl) rfl ?_
    refine o_h0 (h_store rfl rfl rfl sz_26 rfl aPt (by simp only [setMany_length, List.length_set, List.length_cons, List.length_nil, List.length_map]; omega) rfl) (fun _ _ => ?_)
    refine o_nil ?_
    exact s_retv (rs := [.cell 2 26]) rfl (.cell rfl sz_26 aPk rfl (.nil)) (fun w' h' => ⟨(x, M), rfl, by show pls M = pls L; rw [hi2, List.take_of_length_le (by omega)], h'.ent aEt⟩)

end Go.Proofs

/- Chapter 25, plain: the check accepts exactly the valid tables. -/
namespace Go.Proofs
open Go Go.RowKit Gx
set_option linter.unusedVariables false
set_option linter.unusedSimpArgs false

theorem lksE_iff {l : List Lock} : lksE l = 0 ↔ l.length ≤ 16 ∧ okL l := by
  constructor
  · exact lksE_0
  · rintro ⟨h1, h2⟩
    rw [lksE, if_neg (by omega)]
    unfold rngsE
    rw [eachF_0]
    intro e he
    obtain ⟨k, hk, rfl⟩ := List.mem_map.1 he
    exact h2 k hk
theorem lockedE_iff : ∀ {ks held : List Lock}, lockedE held ks = 0 ↔ (∀ h ∈ held, ∀ k ∈ ks, clsh h k = false) ∧ ks.Pairwise fun a b => clsh a b = false
  | [], held => by simp [lockedE]
  | k :: ks, held => by
    rw [lockedE]
    split
    · rename_i h
      constructor
      · intro h9; exact absurd h9 (by decide)
      · rintro ⟨h1, _⟩
        obtain ⟨x, hx, e⟩ := List.any_eq_true.1 h
        rw [h1 x hx k List.mem_cons_self] at e
        cases e
    · rename_i h
      rw [Bool.not_eq_true, List.any_eq_false] at h
      rw [lockedE_iff, List.pairwise_cons]
      constructor
      · rintro ⟨h1, h2⟩
        refine ⟨fun x hx y hy => ?_, fun y hy => h1 k (by simp) y hy, h2⟩
        rcases List.mem_cons.1 hy with rfl | hy
        · simpa using h x hx
        · exact h1 x (List.mem_append_left _ hx) y hy
      · rintro ⟨h1, h2, h3⟩
        refine ⟨fun x hx y hy => ?_, h3⟩
        rcases List.mem_append.1 hx with hx | hx
        · exact h1 x hx y (List.mem_cons_of_mem _ hy)
        · rw [List.mem_singleton.1 hx]; exact h2 y hy
theorem hdl_iff {next : Int} {known : List Int} {ops : List Opn} {k : Nat} : hdlE next known ops k = 0 ↔ (1 ≤ (nth ops k).hd ∧ (nth ops k).hd ≤ next - 1) ∧ openE (nth ops k).ac (nth ops k).sh = 0 ∧ (k = 0 ∨ (nth ops (k - 1)).hd < (nth ops k).hd) ∧ lksE (nth ops k).lk = 0 ∧ (nth ops k).hd ∉ known ∧ (ops.take k).any (cfl (nth ops k)) = false ∧ lockedE ((ops.take k).flatMap Opn.lk) (nth ops k).lk = 0 := by
  rw [hdl_r]
  grind
theorem fil_iff {next : Int} {L : List Fil} {i : Nat} : filE next L i = 0 ↔ refE (nth L i).rc (nth L i).sq = 0 ∧ (i = 0 ∨ refLt ((nth L (i - 1)).rc, (nth L (i - 1)).sq) ((nth L i).rc, (nth L i).sq) = true) ∧ 0 < (nth L i).op.length ∧ ∀ k, k < (nth L i).op.length → hdlE next (hds (L.take i)) (nth L i).op k = 0 := by
  have e : hdlsE next (hds (L.take i)) (nth L i).op = 0 ↔ ∀ k, k < (nth L i).op.length → hdlE next (hds (L.take i)) (nth L i).op k = 0 := by
    unfold hdlsE
    rw [eachF_0]
    simp
  rw [← e]
  unfold filE
  simp only []
  grind
theorem chk_iff {next : Int} {L : List Fil} : (chkT next L).2 = 0 ↔ (1 ≤ next ∧ next ≤ 2147483647) ∧ (L.length ≤ 32 ∧ cntT L ≤ 32) ∧ ∀ i, i < L.length → filE next L i = 0 := by
  have e : (eachF ((List.range L.length).map (filE next L)) 0).2 = 0 ↔ ∀ i, i < L.length → filE next L i = 0 := by
    rw [eachF_0]
    simp
  rw [← e]
  unfold chkT
  split
  · split
    · rename_i h1 h2; simp [h1, h2]
    · rename_i h1 h2; simp [h1, h2]
  · rename_i h1; simp [h1]
theorem pw_chain {α : Type} [Inhabited α] {R : α → α → Prop} {l : List α} (ht : ∀ a b c, R a b → R b c → R a c) (h : ∀ i, i < l.length → i = 0 ∨ R (nth l (i - 1)) (nth l i)) : l.Pairwise R := by
  have key : ∀ d i, i + d + 1 < l.length → R (nth l i) (nth l (i + d + 1)) := by
    intro d
    induction d with
    | zero =>
      intro i hi
      rcases h (i + 1) (by omega) with h1 | h1
      · omega
      · exact h1
    | succ d ih =>
      intro i hi
      rcases h (i + (d + 1) + 1) (by omega) with h1 | h1
      · omega
      · exact ht _ _ _ (ih i (by omega)) h1
  rw [List.pairwise_iff_getElem]
  intro i j hi hj hij
  have h1 := key (j - i - 1) i (by omega)
  rw [show i + (j - i - 1) + 1 = j by omega] at h1
  rw [nth_eq (List.getElem?_eq_getElem hi), nth_eq (List.getElem?_eq_getElem hj)] at h1
  exact h1
theorem pw_nth {α : Type} [Inhabited α] {R : α → α → Prop} {l : List α} : l.Pairwise R ↔ ∀ i j, i < j → j < l.length → R (nth l i) (nth l j) := by
  rw [List.pairwise_iff_getElem]
  constructor
  · intro h i j hij hj
    rw [nth_eq (List.getElem?_eq_getElem (show i < l.length by omega)), nth_eq (List.getElem?_eq_getElem hj)]
    exact h i j (by omega) hj hij
  · intro h i j hi hj hij
    have := h i j hij hj
    rwa [nth_eq (List.getElem?_eq_getElem hi), nth_eq (List.getElem?_eq_getElem hj)] at this
theorem mem_nth_ex {α : Type} [Inhabited α] {l : List α} {x : α} (h : x ∈ l) : ∃ i, i < l.length ∧ nth l i = x := by
  obtain ⟨i, hi, e⟩ := List.getElem_of_mem h
  exact ⟨i, hi, nth_eq (by rw [List.getElem?_eq_getElem hi, e])⟩
theorem mem_take_of {α : Type} [Inhabited α] {l : List α} {i j : Nat} (h : i < j) (hl : i < l.length) : nth l i ∈ l.take j := by
  have e : nth (l.take j) i = nth l i := nth_take h
  rw [← e]
  exact mem_nth (by rw [List.length_take]; omega)
theorem flat_pw {ops : List Opn} : (∀ k, k < ops.length → lockedE ((ops.take k).flatMap Opn.lk) (nth ops k).lk = 0) ↔ (ops.flatMap Opn.lk).Pairwise fun a b => clsh a b = false := by
  constructor
  · intro h
    have key : ∀ k, k ≤ ops.length → ((ops.take k).flatMap Opn.lk).Pairwise fun a b => clsh a b = false := by
      intro k
      induction k with
      | zero => intro _; simp
      | succ k ih =>
        intro hk
        rw [take_succ_nth (by omega), List.flatMap_append, List.pairwise_append]
        have h1 := lockedE_iff.1 (h k (by omega))
        exact ⟨ih (by omega), by simpa using h1.2, fun a ha b hb => h1.1 a ha b (by simpa using hb)⟩
    have := key ops.length (Nat.le_refl _)
    rwa [List.take_length] at this
  · intro h k hk
    rw [← List.take_append_drop k ops, List.flatMap_append, List.pairwise_append, drop_nth hk, List.flatMap_cons] at h
    rw [lockedE_iff]
    refine ⟨fun x hx y hy => h.2.2 x hx y (List.mem_append_left _ hy), ?_⟩
    exact (List.pairwise_append.1 h.2.1).1
theorem any_cf {ops : List Opn} : (∀ k, k < ops.length → (ops.take k).any (cfl (nth ops k)) = false) ↔ ops.Pairwise fun a b => cfl a b = false := by
  rw [pw_nth]
  constructor
  · intro h i j hij hj
    have h1 := h j hj
    rw [List.any_eq_false] at h1
    have h2 := h1 _ (mem_take_of (l := ops) hij (by omega))
    rw [cfl_comm]
    simpa using h2
  · intro h k hk
    rw [List.any_eq_false]
    intro o ho
    obtain ⟨m, h1, h2, rfl⟩ := nth_mem_take ho
    rw [cfl_comm, h m k h1 hk]
    decide
theorem hds_in {L : List Fil} {i j : Nat} {o : Opn} (h : i < j) (hi : i < L.length) (ho : o ∈ (nth L i).op) : o.hd ∈ hds (L.take j) := by
  unfold hds
  exact List.mem_flatMap.2 ⟨_, mem_take_of h hi, List.mem_map.2 ⟨o, ho, rfl⟩⟩
theorem chk_ok {next : Int} {L : List Fil} (h : (chkT next L).2 = 0) : Ok next L := by
  obtain ⟨h1, h2, h3⟩ := chk_iff.1 h
  have hf : ∀ i, i < L.length → FOk next (nth L i) := by
    intro i hi
    obtain ⟨f1, f2, f3, f4⟩ := fil_iff.1 (h3 i hi)
    have hk := fun k hk => hdl_iff.1 (f4 k hk)
    refine ⟨f1, f3, fun o ho => ?_, fun o ho => ?_, pw_chain (fun a b c p q => (by omega)) fun k hk9 => (hk k hk9).2.2.1, any_cf.1 fun k hk9 => (hk k hk9).2.2.2.2.2.1, flat_pw.1 fun k hk9 => (hk k hk9).2.2.2.2.2.2⟩
    · obtain ⟨k, hk9, rfl⟩ := mem_nth_ex ho
      exact (hk k hk9).1
    · obtain ⟨k, hk9, rfl⟩ := mem_nth_ex ho
      have h9 := lksE_iff.1 (hk k hk9).2.2.2.1
      exact ⟨(hk k hk9).2.1, h9.2, h9.1⟩
  refine ⟨h1, h2.2, fun f hf9 => ?_, pw_chain (fun a b c => refLt_tr) fun i hi => (fil_iff.1 (h3 i hi)).2.1, ?_⟩
  · obtain ⟨i, hi, rfl⟩ := mem_nth_ex hf9
    exact hf i hi
  · rw [pw_nth]
    intro i j hij hj o ho p hp he
    obtain ⟨k, hk9, rfl⟩ := mem_nth_ex hp
    have h9 := (hdl_iff.1 ((fil_iff.1 (h3 j hj)).2.2.2 k hk9)).2.2.2.2.1
    exact h9 (by rw [← he]; exact hds_in hij (by omega) ho)
end Go.Proofs

namespace Go.Proofs
open Go Go.RowKit Gx
set_option linter.unusedVariables false
set_option linter.unusedSimpArgs false
attribute [local irreducible] Go.Calls Gx.S Gx.O Gx.D Gx.OpP Gx.OpQ Gx.OpH

theorem fn_19 : isFn Try.prog 19 = true := by kernel_rfl


/-- A table after something was done to it, or the error of the table, or of what was done. -/
def afT (next : Int) (L : List Fil) (r : List Fil × Int) : (List Fil × Int) × Int := if (chkT next L).2 = 0 then if r.2 = 0 then ((r.1, next), 0) else (([], 0), r.2) else (([], 0), (chkT next L).2)
theorem same_nth {N L : List LFil} {i : Nat} (h : pls N = pls L) (hi : i < L.length) : i < N.length ∧ (nth N i).pl = (nth L i).pl := by
  have hl : N.length = L.length := by
    have h9 := congrArg List.length h
    simpa using h9
  refine ⟨by omega, ?_⟩
  rw [← nth_pls (show i < N.length by omega), h, nth_pls hi]
end Go.Proofs

namespace Go.Proofs
open Go Go.RowKit Gx
set_option linter.unusedVariables false
set_option linter.unusedSimpArgs false
attribute [local irreducible] Go.Calls Gx.S Gx.O Gx.D Gx.OpP Gx.OpQ Gx.OpH



def kpW (w ex oth : Bool) : Bool := (ex && oth) || (!ex && w)
def mayR (next : Int) (L : List Fil) (h fr cnt : Int) (w : Bool) : Int := if (chkT next L).2 = 0 then mayT L h ⟨fr, cnt, false⟩ (bif w then 2 else 1) (kpW w) else (chkT next L).2
end Go.Proofs

namespace Go.Proofs
open Go Go.RowKit Gx
set_option linter.unusedVariables false
set_option linter.unusedSimpArgs false
attribute [local irreducible] Go.Calls Gx.S Gx.O Gx.D Gx.OpP Gx.OpQ Gx.OpH



theorem same_op {f f' : LFil} {k : Nat} (h : f'.pl = f.pl) (hk : k < f.op.length) : k < f'.op.length ∧ f'.op.length = f.op.length ∧ (nth f'.op k).pl = (nth f.op k).pl := by
  have h1 : plo f'.op = plo f.op := congrArg Fil.op h
  have hl : f'.op.length = f.op.length := by
    have h9 := congrArg List.length h1
    simpa using h9
  refine ⟨by omega, hl, ?_⟩
  rw [← nth_plo (show k < f'.op.length by omega), h1, nth_plo hk]

end Go.Proofs

namespace Go.Proofs
open Go Go.RowKit Gx
set_option linter.unusedVariables false
set_option linter.unusedSimpArgs false
attribute [local irreducible] Go.Calls Gx.S Gx.O Gx.D Gx.OpP Gx.OpQ Gx.OpH



end Go.Proofs

namespace Go.Proofs
open Go Go.RowKit Gx
set_option linter.unusedVariables false
set_option linter.unusedSimpArgs false
attribute [local irreducible] Go.Calls Gx.S Gx.O Gx.D Gx.OpP Gx.OpQ Gx.OpH

theorem same_len {L L2 : List LFil} (h : pls L2 = pls L) : L2.length = L.length := by
  have h9 := congrArg List.length h
  simpa using h9

end Go.Proofs

namespace Go.Proofs
open Go Go.RowKit Gx
set_option linter.unusedVariables false
set_option linter.unusedSimpArgs false
attribute [local irreducible] Go.Calls Gx.S Gx.O Gx.D Gx.OpP Gx.OpQ Gx.OpH



/-- Whether two handles conflict, or the error. -/
def cflT (a b : Opn) : Bool × Int := if openE a.ac a.sh = 0 then if openE b.ac b.sh = 0 then (cfl a b, 0) else (false, openE b.ac b.sh) else (false, openE a.ac a.sh)
end Go.Proofs

namespace Go.Proofs
open Go Go.RowKit Gx
set_option linter.unusedVariables false
set_option linter.unusedSimpArgs false
attribute [local irreducible] Go.Calls Gx.S Gx.O Gx.D Gx.OpP Gx.OpQ Gx.OpH



def fewF (f : LFil) : Bool := decide (f.op.length ≤ 40) && f.op.all fun o => decide (o.lk.length ≤ 20)
/-- Few files, handles and locks. -/
def fewT (L : List LFil) : Bool := decide (L.length ≤ 40) && L.all fewF
theorem fewT_l {L : List LFil} (h : 40 < L.length) : fewT L = false := by
  unfold fewT
  simp
  omega
theorem fewT_f {L : List LFil} {i : Nat} (hi : i < L.length) (h : fewF (nth L i) = false) : fewT L = false := by
  unfold fewT
  rw [Bool.and_eq_false_iff]
  right
  rw [List.all_eq_false]
  exact ⟨_, mem_nth hi, by rw [h]; decide⟩
theorem fewF_l {f : LFil} (h : 40 < f.op.length) : fewF f = false := by
  unfold fewF
  simp
  omega
theorem fewF_k {f : LFil} {k : Nat} (hk : k < f.op.length) (h : 20 < (nth f.op k).lk.length) : fewF f = false := by
  unfold fewF
  rw [Bool.and_eq_false_iff]
  right
  rw [List.all_eq_false]
  exact ⟨_, mem_nth hk, by simp; omega⟩
theorem fewT_1 {L : List LFil} (hl : L.length ≤ 40) (h : ∀ m, m < L.length → fewF (nth L m) = true) : fewT L = true := by
  unfold fewT
  rw [Bool.and_eq_true, List.all_eq_true]
  refine ⟨by simpa using hl, fun f hf => ?_⟩
  obtain ⟨m, hm, rfl⟩ := mem_nth_ex hf
  exact h m hm
theorem fewF_1 {f : LFil} (hl : f.op.length ≤ 40) (h : ∀ m, m < f.op.length → (nth f.op m).lk.length ≤ 20) : fewF f = true := by
  unfold fewF
  rw [Bool.and_eq_true, List.all_eq_true]
  refine ⟨by simpa using hl, fun o ho => ?_⟩
  obtain ⟨m, hm, rfl⟩ := mem_nth_ex ho
  simpa using h m hm
theorem fewT_r {L : List LFil} (h : fewT L = true) : L.length ≤ 40 ∧ (∀ f ∈ L, f.op.length ≤ 40) ∧ ∀ f ∈ L, ∀ o ∈ f.op, o.lk.length ≤ 20 := by
  unfold fewT fewF at h
  simp only [Bool.and_eq_true, decide_eq_true_eq, List.all_eq_true] at h
  exact ⟨h.1, fun f hf => (h.2 f hf).1, fun f hf o ho => (h.2 f hf).2 o ho⟩
/-- What a table of few permits: the bounds that the contracts ask. -/
theorem fewT_b {L : List LFil} (h : fewT L = true) : L.length ≤ 1000 ∧ (∀ f ∈ L, f.op.length ≤ 1000) ∧ ∀ f ∈ L, ∀ o ∈ f.op, o.lk.length ≤ 1000 := by
  obtain ⟨h1, h2, h3⟩ := fewT_r h
  exact ⟨by omega, fun f hf => by have := h2 f hf; omega, fun f hf o ho => by have := h3 f hf o ho; omega⟩
theorem same_b {L N : List LFil} (h : pls N = pls L) (hb : L.length ≤ 1000 ∧ (∀ f ∈ L, f.op.length ≤ 1000) ∧ ∀ f ∈ L, ∀ o ∈ f.op, o.lk.length ≤ 1000) : N.length ≤ 1000 ∧ (∀ f ∈ N, f.op.length ≤ 1000) ∧ ∀ f ∈ N, ∀ o ∈ f.op, o.lk.length ≤ 1000 := by
  have e : N.length = L.length := same_len h
  refine ⟨by omega, fun f hf => ?_, fun f hf o ho => ?_⟩
  · obtain ⟨i, hi, rfl⟩ := mem_nth_ex hf
    have h1 := (same_nth h.symm hi).2
    have h2 : (nth L i).op.length = (nth N i).op.length := by
      have h9 := congrArg (fun f : Fil => f.op.length) h1
      simpa [LFil.pl] using h9
    rw [← h2]
    exact hb.2.1 _ (mem_nth (by omega))
  · obtain ⟨i, hi, rfl⟩ := mem_nth_ex hf
    obtain ⟨k, hk, rfl⟩ := mem_nth_ex ho
    have h1 := (same_nth h.symm hi).2
    obtain ⟨h2, _, h3⟩ := same_op h1 hk
    have h4 : (nth (nth L i).op k).lk = (nth (nth N i).op k).lk := congrArg Opn.lk h3
    rw [← h4]
    exact hb.2.2 _ (mem_nth (by omega)) _ (mem_nth h2)
set_option maxRecDepth 20000 in
theorem c17 (w : World) (next : Int) (a : Option Addr) (cap : Nat) (L : List LFil) (hs : Ft w [] a L) : Calls Try.prog 17 #[.agg #[.int .i64 next, .slice a L.length cap]] w fun en w' => en = .returned (.bool (fewT L)) ∧ Below w.heap.size w w' := by
  refine enter (args := [_]) Try.func17 Try.ntmps17 rfl rfl (HS.refl w []) ?_
  refine s_seq ?_
  refine s_region ?_
  refine o_h (h_box rfl rfl) rfl (fun b1 _ => ?_)
  refine o_p (p_pure rfl) rfl ?_
  refine o_nil ?_
  refine s_seq ?_
  refine s_seq ?_
  refine s_region ?_
  refine o_p (p_fieldAddr rfl rfl fd_26_1 sz_24 rfl) rfl ?_
  refine o_q (q_load rfl rfl sz_24 aPk rfl) rfl ?_
  refine o_p (p_len_slice rfl rfl Try.underlying24) rfl ?_
  refine o_p (p_pure rfl) rfl ?_
  refine o_nil ?_
  refine s_cond rfl (fun h2 => ?_) (fun h2 => ?_)
  · try simp only [decide_eq_true_eq, decide_eq_false_iff_not, Bool.not_eq_true', Bool.not_eq_false', Bool.and_eq_true, Bool.or_eq_true, Bool.and_eq_false_iff, Bool.or_eq_false_iff, Bool.not_true, Bool.not_false] at h2
    refine s_seq ?_
    refine s_region ?_
    refine o_p (p_pure rfl) rfl ?_
    refine o_nil ?_
    exact s_retv (rs := [.tmp 2]) rfl (.tmp rfl (.nil)) (fun w' h' => ⟨by rw [fewT_l (by have hq := h2; omega)]; rfl, h'.below⟩)
  · try simp only [decide_eq_true_eq, decide_eq_false_iff_not, Bool.not_eq_true', Bool.not_eq_false', Bool.and_eq_true, Bool.or_eq_true, Bool.and_eq_false_iff, Bool.or_eq_false_iff, Bool.not_true, Bool.not_false] at h2
    have hl40 : L.length ≤ 40 := by have hq := h2; omega
    refine s_skip ?_
    refine s_seq ?_
    refine s_seq ?_
    refine s_region ?_
    refine o_p (p_pure rfl) rfl ?_
    refine o_nil ?_
    refine s_block ?_
    refine s_loopI (α := Nat) [2, 3, 4, 9, 10, 11, 12, 13, 14, 15, 16, 17, 18, 19, 20, 21, 22, 23, 24, 25, 26, 27, 28, 29, 30, 31, 32, 33, 34, 35, 36, 37, 38, 39, 40, 41, 42, 43, 44, 45, 46] (fun i => [(3, .int .i64 (i : Int))]) (fun _ => HS w [] [.blk b1 26 2 [.int .i64 next, .slice a L.length cap]]) (fun i => i ≤ L.length ∧ ∀ m, m < i → fewF (nth L m) = true) (fun i => L.length - i) 0 ⟨Nat.zero_le _, fun m h => absurd h (Nat.not_lt_zero m)⟩ aSx (fun w h => h.ent aEt) (fun i hy => ?_)
    obtain ⟨hi1, hi2⟩ := hy
    refine s_seq ?_
    refine s_seq ?_
    refine s_region ?_
    refine o_p (p_pure rfl) rfl ?_
    refine o_p (p_fieldAddr rfl rfl fd_26_1 sz_24 rfl) rfl ?_
    refine o_q (q_load rfl rfl sz_24 aPk rfl) rfl ?_
    refine o_p (p_len_slice rfl rfl Try.underlying24) rfl ?_
    refine o_p (p_pure rfl) rfl ?_
    refine o_nil ?_
    refine s_cond rfl (fun h3 => ?_) (fun h3 => ?_)
    · try simp only [decide_eq_true_eq, decide_eq_false_iff_not, Bool.not_eq_true', Bool.not_eq_false', Bool.and_eq_true, Bool.or_eq_true, Bool.and_eq_false_iff, Bool.or_eq_false_iff, Bool.not_true, Bool.not_false] at h3
      have hil : i < L.length := by omega
      refine s_skip ?_
      refine s_seq ?_
      refine s_block ?_
      refine s_seq ?_
      refine s_seq ?_
      refine s_region ?_
      refine o_p (p_fieldAddr rfl rfl fd_26_1 sz_24 rfl) rfl ?_
      refine o_q (q_load rfl rfl sz_24 aPk rfl) rfl ?_
      refine o_p (p_pure rfl) rfl ?_
      refine o_p (p_indexAddr rfl rfl rfl sl_24 (i) (by omega) (by omega) (Rw.some hs.1 (by omega))) rfl ?_
      refine o_p (p_fieldAddr rfl rfl fd_77_2 sz_75 rfl) rfl ?_
      refine o_q (q_load_old rfl rfl sz_75 ((hs.1.rdj 3 hil rfl))) rfl ?_
      refine o_p (p_len_slice rfl rfl Try.underlying75) rfl ?_
      refine o_p (p_pure rfl) rfl ?_
      refine o_nil ?_
      refine s_cond rfl (fun h4 => ?_) (fun h4 => ?_)
      · try simp only [decide_eq_true_eq, decide_eq_false_iff_not, Bool.not_eq_true', Bool.not_eq_false', Bool.and_eq_true, Bool.or_eq_true, Bool.and_eq_false_iff, Bool.or_eq_false_iff, Bool.not_true, Bool.not_false] at h4
        refine s_seq ?_
        refine s_region ?_
        refine o_p (p_pure rfl) rfl ?_
        refine o_nil ?_
        exact s_retv (rs := [.tmp 2]) rfl (.tmp rfl (.nil)) (fun w' h' => ⟨by rw [fewT_f hil (fewF_l (by have hq := h4; omega))]; rfl, h'.below⟩)
      · try simp only [decide_eq_true_eq, decide_eq_false_iff_not, Bool.not_eq_true', Bool.not_eq_false', Bool.and_eq_true, Bool.or_eq_true, Bool.and_eq_false_iff, Bool.or_eq_false_iff, Bool.not_true, Bool.not_false] at h4
        have ho40 : (nth L i).op.length ≤ 40 := by have hq := h4; omega
        refine s_skip ?_
        refine s_seq ?_
        refine s_region ?_
        refine o_p (p_pure rfl) rfl ?_
        refine o_nil ?_
        refine s_block ?_
        refine s_weaken (L' := [(0, _), (1, _), (3, _), (4, _), (5, _), (6, _), (7, _), (8, _)]) aSx (fun _ h => h) ?_
        refine s_loopI (α := Nat) [2, 4, 24, 25, 26, 27, 28, 29, 30, 31, 32, 33, 34, 35, 36, 37, 38, 39, 40, 41, 42, 43, 44, 45, 46] (fun k => [(4, .int .i64 (k : Int))]) (fun _ => HS w [] [.blk b1 26 2 [.int .i64 next, .slice a L.length cap]]) (fun k => k ≤ (nth L i).op.length ∧ ∀ m, m < k → (nth (nth L i).op m).lk.length ≤ 20) (fun k => (nth L i).op.length - k) 0 ⟨Nat.zero_le _, fun m h => absurd h (Nat.not_lt_zero m)⟩ aSx (fun w h => h.ent aEt) (fun k hy => ?_)
        obtain ⟨hk1, hk2⟩ := hy
        refine s_seq ?_
        refine s_seq ?_
        refine s_region ?_
        refine o_p (p_pure rfl) rfl ?_
        refine o_p (p_fieldAddr rfl rfl fd_26_1 sz_24 rfl) rfl ?_
        refine o_q (q_load rfl rfl sz_24 aPk rfl) rfl ?_
        refine o_p (p_pure rfl) rfl ?_
        refine o_p (p_indexAddr rfl rfl rfl sl_24 (i) (by omega) (by omega) (Rw.some hs.1 (by omega))) rfl ?_
        refine o_p (p_fieldAddr rfl rfl fd_77_2 sz_75 rfl) rfl ?_
        refine o_q (q_load_old rfl rfl sz_75 ((hs.1.rdj 3 hil rfl))) rfl ?_
        refine o_p (p_len_slice rfl rfl Try.underlying75) rfl ?_
        refine o_p (p_pure rfl) rfl ?_
        refine o_nil ?_
        refine s_cond rfl (fun h5 => ?_) (fun h5 => ?_)
        · try simp only [decide_eq_true_eq, decide_eq_false_iff_not, Bool.not_eq_true', Bool.not_eq_false', Bool.and_eq_true, Bool.or_eq_true, Bool.and_eq_false_iff, Bool.or_eq_false_iff, Bool.not_true, Bool.not_false] at h5
          have hkl : k < (nth L i).op.length := by omega
          refine s_skip ?_
          refine s_seq ?_
          refine s_block ?_
          refine s_seq ?_
          refine s_region ?_
          refine o_p (p_fieldAddr rfl rfl fd_26_1 sz_24 rfl) rfl ?_
          refine o_q (q_load rfl rfl sz_24 aPk rfl) rfl ?_
          refine o_p (p_pure rfl) rfl ?_
          refine o_p (p_indexAddr rfl rfl rfl sl_24 (i) (by omega) (by omega) (Rw.some hs.1 (by omega))) rfl ?_
          refine o_p (p_fieldAddr rfl rfl fd_77_2 sz_75 rfl) rfl ?_
          refine o_q (q_load_old rfl rfl sz_75 ((hs.1.rdj 3 hil rfl))) rfl ?_
          refine o_p (p_pure rfl) rfl ?_
          refine o_p (p_indexAddr rfl rfl rfl sl_75 (k) (by omega) (by omega) (Rw.some (hs.at hil).1 (by omega))) rfl ?_
          refine o_p (p_fieldAddr rfl rfl fd_48_4 sz_46 rfl) rfl ?_
          refine o_q (q_load_old rfl rfl sz_46 (((hs.at hil).1.rdj 4 hkl rfl))) rfl ?_
          refine o_p (p_len_slice rfl rfl Try.underlying46) rfl ?_
          refine o_p (p_pure rfl) rfl ?_
          refine o_nil ?_
          refine s_cond rfl (fun h6 => ?_) (fun h6 => ?_)
          · try simp only [decide_eq_true_eq, decide_eq_false_iff_not, Bool.not_eq_true', Bool.not_eq_false', Bool.and_eq_true, Bool.or_eq_true, Bool.and_eq_false_iff, Bool.or_eq_false_iff, Bool.not_true, Bool.not_false] at h6
            refine s_seq ?_
            refine s_region ?_
            refine o_p (p_pure rfl) rfl ?_
            refine o_nil ?_
            exact s_retv (rs := [.tmp 2]) rfl (.tmp rfl (.nil)) (fun w' h' => ⟨by rw [fewT_f hil (fewF_k hkl (by have hq := h6; omega))]; rfl, h'.below⟩)
          · try simp only [decide_eq_true_eq, decide_eq_false_iff_not, Bool.not_eq_true', Bool.not_eq_false', Bool.and_eq_true, Bool.or_eq_true, Bool.and_eq_false_iff, Bool.or_eq_false_iff, Bool.not_true, Bool.not_false] at h6
            refine s_skip ?_
            refine s_blk ?_
            refine s_region ?_
            refine o_p (p_pure rfl) rfl ?_
            refine o_p (p_pure rfl) rfl ?_
            try (refine o_slot (i64w (by omega) (by omega)) ?_)
            refine o_p (p_pure rfl) rfl ?_
            refine o_nil ?_
            exact s_backI (k + 1) (by omega) ⟨by omega, fun m hm => (Nat.lt_or_ge m k).elim (hk2 m) (fun h9 => by have e9 : m = k := (by omega); rw [e9]; have hq := h6; omega)⟩ aSx (fun w h => h.ent aEt)
        · try simp only [decide_eq_true_eq, decide_eq_false_iff_not, Bool.not_eq_true', Bool.not_eq_false', Bool.and_eq_true, Bool.or_eq_true, Bool.and_eq_false_iff, Bool.or_eq_false_iff, Bool.not_true, Bool.not_false] at h5
          refine s_exit_to rfl ?_
          refine s_blk ?_
          refine s_region ?_
          refine o_p (p_pure rfl) rfl ?_
          refine o_p (p_pure rfl) rfl ?_
          try (refine o_slot (i64w (by omega) (by omega)) ?_)
          refine o_p (p_pure rfl) rfl ?_
          refine o_nil ?_
          exact s_backI (i + 1) (by omega) ⟨by omega, fun m hm => (Nat.lt_or_ge m i).elim (hi2 m) (fun h9 => by have e9 : m = i := (by omega); rw [e9]; exact fewF_1 ho40 (fun q hq => hk2 q (by omega)))⟩ aSx (fun w h => h.ent aEt)
    · try simp only [decide_eq_true_eq, decide_eq_false_iff_not, Bool.not_eq_true', Bool.not_eq_false', Bool.and_eq_true, Bool.or_eq_true, Bool.and_eq_false_iff, Bool.or_eq_false_iff, Bool.not_true, Bool.not_false] at h3
      refine s_exit_to rfl ?_
      refine s_seq ?_
      refine s_region ?_
      refine o_p (p_pure rfl) rfl ?_
      refine o_nil ?_
      exact s_retv (rs := [.tmp 2]) rfl (.tmp rfl (.nil)) (fun w' h' => ⟨by rw [fewT_1 hl40 (fun m hm => hi2 m (by omega))]; rfl, h'.below⟩)

end Go.Proofs

namespace Go.Proofs
open Go Go.RowKit Gx
set_option linter.unusedVariables false
set_option linter.unusedSimpArgs false
attribute [local irreducible] Go.Calls Gx.S Gx.O Gx.D Gx.OpP Gx.OpQ Gx.OpH

theorem fn_11 : isFn Try.prog 11 = true := by kernel_rfl
theorem fn_17 : isFn Try.prog 17 = true := by kernel_rfl
theorem fn_18 : isFn Try.prog 18 = true := by kernel_rfl
end Go.Proofs

namespace Go.Proofs
open Go Go.RowKit Gx
set_option linter.unusedVariables false
set_option linter.unusedSimpArgs false
attribute [local irreducible] Go.Calls Gx.S Gx.O Gx.D Gx.OpP Gx.OpQ Gx.OpH

theorem fn_111 : isFn Try.prog 111 = true := by kernel_rfl
theorem fn_112 : isFn Try.prog 112 = true := by kernel_rfl
theorem fn_113 : isFn Try.prog 113 = true := by kernel_rfl


/-- The first i elements of one list, then the others of another one. -/
def mix {α : Type} (M l : List α) (i : Nat) : List α := M ++ l.drop i
theorem mix_end {α : Type} {M l : List α} {i : Nat} (h : l.length ≤ i) : mix M l i = M := by rw [mix, List.drop_of_length_le h, List.append_nil]
theorem mix_len {α : Type} {M l : List α} {i : Nat} (hM : M.length = i) (hi : i ≤ l.length) : (mix M l i).length = l.length := by
  rw [mix, List.length_append, List.length_drop]
  omega
theorem mix_nth {α : Type} [Inhabited α] {M l : List α} {i : Nat} (hM : M.length = i) (hi : i < l.length) : (mix M l i)[i]? = some (nth l i) := by
  rw [mix, List.getElem?_append_right (by omega), List.getElem?_drop, hM, show i + (i - i) = i by omega, nth_get hi]
theorem mix_get {α : Type} {M l : List α} {x : α} {i : Nat} (hM : M.length = i) : (mix (M ++ [x]) l (i + 1))[i]? = some x := by
  rw [mix, List.append_assoc, List.getElem?_append_right (by omega), hM, Nat.sub_self]
  rfl
theorem mix_set {α : Type} {M l : List α} {x : α} {i : Nat} (hM : M.length = i) (hi : i < l.length) : (mix M l i).set i x = mix (M ++ [x]) l (i + 1) := by
  unfold mix
  rw [List.set_append_right _ _ (by omega), hM, Nat.sub_self, List.drop_eq_getElem_cons hi, List.set_cons_zero, List.append_assoc]
  rfl
theorem mix_store {α : Type} [Inhabited α] {vals : α → List Value} {sz : Nat} (hv : ∀ x, (vals x).length = sz) {M l : List α} {x : α} {i o : Nat} {vs : List Value} (hM : M.length = i) (hi : i < l.length) (he : vals x = setMany (vals (nth l i)) o vs) (ho : o + vs.length ≤ sz) : setMany ((mix M l i).flatMap vals) (i * sz + o) vs = (mix (M ++ [x]) l (i + 1)).flatMap vals := by
  rw [flat_set hv _ i o vs _ _ (mix_nth hM hi) he ho, mix_set hM hi]
theorem mix_same {α : Type} {vals : α → List Value} {M l : List α} {x y : α} {i : Nat} (h : vals x = vals y) : (mix (M ++ [x]) l i).flatMap vals = (mix (M ++ [y]) l i).flatMap vals := by
  unfold mix
  simp only [List.flatMap_append, List.flatMap_cons, List.flatMap_nil, h]
theorem mix_rd {α : Type} [Inhabited α] {vals : α → List Value} {sz : Nat} (hv : ∀ x, (vals x).length = sz) {M l : List α} {i b t tot : Nat} {w0 w : World} {N : List Nat} {As As' : List HA} (hM : M.length = i) (hi : i < l.length) (h : HS w0 N As w) (hp : Pick As (.blk b t tot ((mix M l i).flatMap vals)) As') : ∀ j v, (vals (nth l i))[j]? = some v → Rd w [] b (i * sz + j) v := fun j v hj => by
  have hlt : j < sz := by
    rcases Nat.lt_or_ge j (vals (nth l i)).length with h | h
    · rwa [hv] at h
    · rw [List.getElem?_eq_none h] at hj; cases hj
  exact h.rd_blk (Mc := []) hp (by rw [flat_get hv _ i j _ (mix_nth hM hi) hlt]; exact hj) (by simp)
section
variable {w0 w : World} {N : List Nat} {As As' : List HA} {a : Option Addr} {cap : Nat}
theorem own_to_blk {g t sz n : Nat} {xs : List Value} (hn : 0 < n) (h : HS w0 N As w) (hp : Pick As (.own (.slice (some ⟨g, 0, none⟩) n cap) t sz n xs) As') : HS w0 N (.blk g t (cap * sz) xs :: As') w := by
  obtain ⟨g', e, _, _, _, _, h2⟩ := h.own_blk hn hp
  injection e with e
  injection e with e
  subst e
  exact h2
theorem row_fill {α : Type} [Inhabited α] {sub : α → HA} {K : List α} {x : α} {g t sz n : Nat} {cs xs : List Value} (h : HS w0 N (.blk g t (cap * sz) cs :: sub x :: .star (K.map sub) :: As) w) (hc : cs = xs) (hl : xs.length = n * sz) (hn : n ≤ cap) (hm : cap ≤ maxLen) : HS w0 N (.own (.slice (some ⟨g, 0, none⟩) n cap) t sz n xs :: .star ((K ++ [x]).map sub) :: As) w := by
  subst hc
  have h1 : HS w0 N (sub x :: .star (K.map sub) :: .blk g t (cap * sz) cs :: As) w := h.perm ((List.Perm.swap ..).trans (List.Perm.cons _ (List.Perm.swap ..)))
  have h2 := h1.sub_app
  exact (h2.perm (List.Perm.swap ..)).own_shut hl hn hm
theorem opens_shut {l : List LOpn} {n : Nat} {xs : List Value} (h : HS w0 N (.own (.slice a n cap) 48 5 n xs :: .star (l.map subO) :: As) w) (hn : n = l.length) (hx : xs = l.flatMap LOpn.vals) : HS w0 N (.opens a cap l :: As) w := HS.row_shut h hn hx
end

set_option maxRecDepth 20000 in
set_option maxHeartbeats 1000000 in
theorem c80 (w : World) (next : Int) (a : Option Addr) (cap : Nat) (L : List LFil) (hs : Ft w [] a L) (hm : L.length ≤ 1000) (hmo : ∀ f ∈ L, f.op.length ≤ 1000) (hz : (chkT next (pls L)).2 = 0) : Calls Try.prog 80 #[.agg #[.int .i64 next, .slice a L.length cap]] w fun en w' => ∃ g : Nat × (Option Addr × Nat) × List LFil, en = .returned (.tuple #[.pointer (some ⟨g.1, 0, none⟩), .int .i64 0]) ∧ pls g.2.2 = pls L ∧ HS w [] [.blk g.1 106 2 [.int .i64 next, .slice g.2.1.1 g.2.2.length g.2.1.2], .files g.2.1.1 g.2.1.2 g.2.2] w' := by
  have hok := chk_ok hz
  have hV := hok.vw
  refine enter (args := [_]) Try.func80 Try.ntmps80 rfl rfl (HS.refl w []) ?_
  refine s_seq ?_
  refine s_region ?_
  refine o_h (h_box rfl rfl) rfl (fun b1 _ => ?_)
  refine o_p (p_pure rfl) rfl ?_
  refine o_p (p_pure rfl) rfl ?_
  refine o_nil ?_
  refine s_seq ?_
  refine s_seq ?_
  refine s_region ?_
  refine o_q (q_loadn rfl rfl sz_26 aPk rfl) rfl ?_
  refine o_q (q_call rfl fn_18 rfl (fun w1 h1 => c18 w1 next a cap L (hs.later h1) hm hmo)) rfl ?_
  refine o_p (p_pure rfl) rfl ?_
  refine o_p (p_pure rfl) rfl ?_
  refine o_p (p_pure rfl) rfl ?_
  refine o_p (p_pure rfl) rfl ?_
  refine o_p (p_pure rfl) rfl ?_
  refine o_nil ?_
  refine s_seq ?_
  refine s_region ?_
  refine o_p (p_pure rfl) rfl ?_
  refine o_p (p_pure rfl) rfl ?_
  refine o_nil ?_
  refine s_cond rfl (fun h2 => ?_) (fun h2 => ?_)
  · try simp only [decide_eq_true_eq, decide_eq_false_iff_not, Bool.not_eq_true', Bool.not_eq_false', Bool.and_eq_true, Bool.or_eq_true, Bool.and_eq_false_iff, Bool.or_eq_false_iff, Bool.not_true, Bool.not_false] at h2
    exfalso; exact absurd hz h2
  · try simp only [decide_eq_true_eq, decide_eq_false_iff_not, Bool.not_eq_true', Bool.not_eq_false', Bool.and_eq_true, Bool.or_eq_true, Bool.and_eq_false_iff, Bool.or_eq_false_iff, Bool.not_true, Bool.not_false] at h2
    refine s_skip ?_
    refine s_seq ?_
    refine s_region ?_
    refine o_q (q_loadn rfl rfl sz_26 aPk rfl) rfl ?_
    refine o_p (p_build (cs := [_, _]) rfl rfl pl_106 zr_106 rfl) rfl ?_
    refine o_h (h_box rfl rfl) rfl (fun b3 _ => ?_)
    refine o_p (p_pure rfl) rfl ?_
    refine o_nil ?_
    refine s_seq ?_
    refine s_region ?_
    refine o_p (p_pure rfl) rfl ?_
    refine o_p (p_fieldAddr rfl rfl fd_26_1 sz_24 rfl) rfl ?_
    refine o_q (q_load rfl rfl sz_24 aPk rfl) rfl ?_
    refine o_h (h_call rfl fn_111 rfl (fun w1 h1 => c111 w1 a cap L (Rw.later hs.1 h1) (by omega))) rfl (fun ⟨xa, xc⟩ _ => ?_)
    refine o_p (p_pure rfl) rfl ?_
    refine o_p (p_fieldAddr rfl rfl fd_106_0 sz_26 rfl) rfl ?_
    refine o_p (p_fieldAddr rfl rfl fd_26_1 sz_24 rfl) rfl ?_
    refine o_h0 (h_store rfl rfl rfl sz_24 rfl aPt (by show 1 + 1 ≤ 2; omega) rfl) (fun _ _ => ?_)
    refine o_nil ?_
    refine s_seq ?_
    refine s_seq ?_
    refine s_region ?_
    refine o_p (p_pure rfl) rfl ?_
    refine o_p (p_pure rfl) rfl ?_
    refine o_p (p_fieldAddr rfl rfl fd_106_0 sz_26 rfl) rfl ?_
    refine o_p (p_fieldAddr rfl rfl fd_26_1 sz_24 rfl) rfl ?_
    refine o_q (q_load rfl rfl sz_24 aPk rfl) rfl ?_
    refine o_p (p_len_slice rfl rfl Try.underlying24) rfl ?_
    refine o_p (p_pure rfl) rfl ?_
    refine o_nil ?_
    refine s_block ?_
    refine s_weaken (L' := [(2, _), (3, _), (6, _), (33, _), (34, _), (35, _)]) aSx (fun _ h => h) ?_
    refine s_loopI (α := Nat × List LFil) [7, 8, 9, 10, 35, 36, 37, 38, 39, 40, 41, 42, 43, 44, 45, 46, 47, 48, 49, 50, 51, 52, 53, 54, 55, 56, 57, 58, 59, 60, 61, 62, 63, 64, 65, 66, 67, 68, 69, 70, 71, 72, 73, 74, 75] (fun y => [(35, .int .i64 (y.1 : Int))]) (fun y => HS w [] [.own (.slice xa L.length xc) 77 4 L.length ((mix y.2 L y.1).flatMap LFil.vals), .star (y.2.map subF), .blk b3 106 2 [.int .i64 next, .slice xa L.length xc], .blk b1 26 2 [.int .i64 next, .slice a L.length cap]]) (fun y => y.1 ≤ L.length ∧ y.2.length = y.1 ∧ pls y.2 = (pls L).take y.1) (fun y => L.length - y.1) (0, []) ⟨Nat.zero_le _, rfl, rfl⟩ aSx (fun w h => (HS.star_nil h).ent aEt) (fun ⟨i, M⟩ hy => ?_)
    dsimp only at hy ⊢
    obtain ⟨hi1, hMl, hi2⟩ := hy
    refine s_seq ?_
    refine s_region ?_
    refine o_p (p_pure rfl) rfl ?_
    refine o_nil ?_
    refine s_seq ?_
    refine s_cond rfl (fun h4 => ?_) (fun h4 => ?_)
    · try simp only [decide_eq_true_eq, decide_eq_false_iff_not, Bool.not_eq_true', Bool.not_eq_false', Bool.and_eq_true, Bool.or_eq_true, Bool.and_eq_false_iff, Bool.or_eq_false_iff, Bool.not_true, Bool.not_false] at h4
      have hil : i < L.length := by omega
      have hoi := hmo _ (mem_nth hil)
      refine s_fact (fun w h => own_addr (a := xa) (cap := xc) (xs := (mix M L i).flatMap LFil.vals) (sz := 4) (t := 77) (n := L.length) (by omega) h aPk) (fun hga => ?_)
      obtain ⟨ga, rfl, hcap, hcm⟩ := hga
      refine s_class (fun w h => own_to_blk (g := ga) (t := 77) (sz := 4) (n := L.length) (by omega) h aPk) ?_
      refine s_skip ?_
      refine s_seq ?_
      refine s_block ?_
      refine s_seq ?_
      refine s_region ?_
      refine o_p (p_pure rfl) rfl ?_
      refine o_p (p_indexAddr rfl rfl rfl sl_24 (i) (by omega) (by omega) rfl) rfl ?_
      refine o_slot (show _ = Value.pointer (some ⟨ga, i * 4, none⟩) from by rw [Nat.zero_add]) ?_
      refine o_q (q_load_atn (nth L i).vals rfl rfl sz_77 rfl (fun w h => mix_rd fv4 hMl hil h aPk)) rfl ?_
      refine o_h (h_alloc rfl zr_77) rfl (fun b5 _ => ?_)
      refine o_p (p_pure rfl) rfl ?_
      refine o_h0 (h_store rfl rfl rfl sz_77 rfl aPt (by simp only [setMany_length, List.length_set, List.length_cons, List.length_nil, List.length_map]; omega) rfl) (fun _ _ => ?_)
      refine o_nil ?_
      refine s_seq ?_
      refine s_draw [11] mixed ?_
      refine d_p 0 rfl (p_pure rfl) (by kernel_rfl) rfl rfl ?_
      refine d_p 1 rfl (p_pure rfl) (by kernel_rfl) rfl rfl ?_
      refine d_p 2 rfl (p_fieldAddr rfl rfl fd_106_0 sz_26 rfl) (by kernel_rfl) rfl rfl ?_
      refine d_p 3 rfl (p_fieldAddr rfl rfl fd_26_1 sz_24 rfl) (by kernel_rfl) rfl rfl ?_
      refine d_q 4 [[]] rfl (q_load rfl rfl sz_24 aPk rfl) (by kernel_rfl) (by kernel_rfl) (by kernel_rfl) rfl ?_
      refine d_p 5 rfl (p_pure rfl) (by kernel_rfl) rfl rfl ?_
      refine d_p 6 rfl (p_fieldAddr rfl rfl fd_77_2 sz_75 rfl) (by kernel_rfl) rfl rfl ?_
      refine d_q 7 [[]] rfl (q_load rfl rfl sz_75 aPk rfl) (by kernel_rfl) (by kernel_rfl) (by kernel_rfl) rfl ?_
      refine d_h 8 rfl (h_call rfl fn_112 rfl (fun w1 h1 => c112 w1 _ _ (nth L i).op (Rw.later (hs.at hil).1 h1) (by omega))) (by kernel_rfl) (fun w h => h.ent aEt) rfl (fun ⟨xo, yo⟩ _ => ?_)
      refine d_base (fun w h => h.ent aEt) ?_
      refine d_p 9 rfl (p_indexAddr rfl rfl rfl sl_24 (i) (by omega) (by omega) rfl) (by kernel_rfl) rfl rfl ?_
      refine d_slot (show _ = Value.pointer (some ⟨ga, i * 4, none⟩) from by rw [Nat.zero_add]) ?_
      refine d_p 10 rfl (p_fieldAddr rfl rfl fd_77_2 sz_75 rfl) (by kernel_rfl) rfl rfl ?_
      refine d_h0 11 rfl (h_store rfl rfl rfl sz_75 rfl aPt (by rw [flat_length fv4, mix_len hMl hi1]; show i * 4 + 3 + 1 ≤ L.length * 4; omega) rfl) (by kernel_rfl) (fun w h => h.ent aEt) (fun _ _ => ?_)
      refine d_turn [] (by kernel_rfl) ?_
      refine d_nil (by kernel_rfl) (fun w h => h.ent aEt) ?_
      refine s_seq ?_
      refine s_region ?_
      refine o_p (p_fieldAddr rfl rfl fd_77_2 sz_75 rfl) rfl ?_
      refine o_q (q_load rfl rfl sz_75 aPk rfl) rfl ?_
      refine o_p (p_len_slice rfl rfl Try.underlying75) rfl ?_
      refine o_p (p_pure rfl) rfl ?_
      refine o_nil ?_
      refine s_block ?_
      refine s_weaken (L' := [(2, _), (3, _), (6, _), (7, _), (33, _), (34, _), (35, _), (52, _), (53, _), (54, _)]) aSx (fun _ h => h) ?_
      refine s_loopI (α := Nat × List LOpn) [9, 10, 54, 55, 56, 57, 58, 59, 60, 61, 62, 63, 64, 65, 66, 67, 68, 69, 70, 71, 72, 73, 74] (fun z => [(54, .int .i64 (z.1 : Int))]) (fun z => HS w [] [.own (.slice xo (nth L i).op.length yo) 48 5 (nth L i).op.length ((mix z.2 (nth L i).op z.1).flatMap LOpn.vals), .star (z.2.map subO), .blk ga 77 (xc * 4) ((mix (M ++ [({ nth L i with oa := xo, oc := yo } : LFil)]) L (i + 1)).flatMap LFil.vals), .star (M.map subF), .blk b5 77 4 (nth L i).vals, .blk b3 106 2 [.int .i64 next, .slice (some ⟨ga, 0, none⟩) L.length xc], .blk b1 26 2 [.int .i64 next, .slice a L.length cap]]) (fun z => z.1 ≤ (nth L i).op.length ∧ z.2.length = z.1 ∧ plo z.2 = (plo (nth L i).op).take z.1) (fun z => (nth L i).op.length - z.1) (0, []) ⟨Nat.zero_le _, rfl, rfl⟩ aSx (fun w h => (HS.star_nil (HS.blk_to (b := ga) h aPk (mix_store fv4 (x := ({ nth L i with oa := xo, oc := yo } : LFil)) hMl hil rfl (by show 3 + 1 ≤ 4; omega)))).ent aEt) (fun ⟨k, K⟩ hz2 => ?_)
      dsimp only at hz2 ⊢
      obtain ⟨hk1, hKl, hk2⟩ := hz2
      refine s_seq ?_
      refine s_region ?_
      refine o_p (p_pure rfl) rfl ?_
      refine o_nil ?_
      refine s_seq ?_
      refine s_cond rfl (fun h6 => ?_) (fun h6 => ?_)
      · try simp only [decide_eq_true_eq, decide_eq_false_iff_not, Bool.not_eq_true', Bool.not_eq_false', Bool.and_eq_true, Bool.or_eq_true, Bool.and_eq_false_iff, Bool.or_eq_false_iff, Bool.not_true, Bool.not_false] at h6
        have hkl : k < (nth L i).op.length := by omega
        have hv9 := VW.at hV hil hkl
        refine s_fact (fun w h => own_addr (a := xo) (cap := yo) (xs := (mix K (nth L i).op k).flatMap LOpn.vals) (sz := 5) (t := 48) (n := (nth L i).op.length) (by omega) h aPk) (fun hgo => ?_)
        obtain ⟨go, rfl, hoc, hom⟩ := hgo
        refine s_class (fun w h => own_to_blk (g := go) (t := 48) (sz := 5) (n := (nth L i).op.length) (by omega) h aPk) ?_
        refine s_skip ?_
        refine s_seq ?_
        refine s_block ?_
        refine s_seq ?_
        refine s_region ?_
        refine o_p (p_pure rfl) rfl ?_
        refine o_p (p_indexAddr rfl rfl rfl sl_75 (k) (by omega) (by omega) (Rw.some (hs.at hil).1 (by omega))) rfl ?_
        refine o_q (q_load_oldn _ rfl rfl sz_48 rfl (Rw.rd (hs.at hil).1 hkl)) rfl ?_
        refine o_h (h_alloc rfl zr_48) rfl (fun b7 _ => ?_)
        refine o_p (p_pure rfl) rfl ?_
        refine o_h0 (h_store rfl rfl rfl sz_48 rfl aPt (by simp only [setMany_length, List.length_set, List.length_cons, List.length_nil, List.length_map]; omega) rfl) (fun _ _ => ?_)
        refine o_nil ?_
        refine s_draw [15] mixed ?_
        refine d_p 0 rfl (p_pure rfl) (by kernel_rfl) rfl rfl ?_
        refine d_p 1 rfl (p_pure rfl) (by kernel_rfl) rfl rfl ?_
        refine d_p 2 rfl (p_fieldAddr rfl rfl fd_106_0 sz_26 rfl) (by kernel_rfl) rfl rfl ?_
        refine d_p 3 rfl (p_fieldAddr rfl rfl fd_26_1 sz_24 rfl) (by kernel_rfl) rfl rfl ?_
        refine d_q 4 [[]] rfl (q_load rfl rfl sz_24 aPk rfl) (by kernel_rfl) (by kernel_rfl) (by kernel_rfl) rfl ?_
        refine d_p 5 rfl (p_pure rfl) (by kernel_rfl) rfl rfl ?_
        refine d_p 6 rfl (p_indexAddr rfl rfl rfl sl_24 (i) (by omega) (by omega) rfl) (by kernel_rfl) rfl rfl ?_
        refine d_slot (show _ = Value.pointer (some ⟨ga, i * 4, none⟩) from by rw [Nat.zero_add]) ?_
        refine d_p 7 rfl (p_fieldAddr rfl rfl fd_77_2 sz_75 rfl) (by kernel_rfl) rfl rfl ?_
        refine d_q 8 [[]] rfl (q_load_at rfl rfl sz_75 (fun w h => (h.rd_blk (Mc := []) (b := ga) aPk (by rw [flat_get fv4 _ i 3 _ (mix_get hMl) (by decide)]; rfl) (by simp)))) (by kernel_rfl) (by kernel_rfl) (by kernel_rfl) rfl ?_
        refine d_p 9 rfl (p_pure rfl) (by kernel_rfl) rfl rfl ?_
        refine d_p 10 rfl (p_fieldAddr rfl rfl fd_48_4 sz_46 rfl) (by kernel_rfl) rfl rfl ?_
        refine d_q 11 [[]] rfl (q_load rfl rfl sz_46 aPk rfl) (by kernel_rfl) (by kernel_rfl) (by kernel_rfl) rfl ?_
        refine d_h 12 rfl (h_call rfl fn_113 rfl (fun w1 h1 => c113 w1 _ _ (nth (nth L i).op k).lk (Rw.later ((hs.at hil).at hkl) h1) (by have := hv9.2.2; omega))) (by kernel_rfl) (fun w h => h.ent aEt) rfl (fun ⟨xl, yl⟩ _ => ?_)
        refine d_base (fun w h => h.ent aEt) ?_
        refine d_p 13 rfl (p_indexAddr rfl rfl rfl sl_75 (k) (by omega) (by omega) rfl) (by kernel_rfl) rfl rfl ?_
        refine d_slot (show _ = Value.pointer (some ⟨go, k * 5, none⟩) from by rw [Nat.zero_add]) ?_
        refine d_p 14 rfl (p_fieldAddr rfl rfl fd_48_4 sz_46 rfl) (by kernel_rfl) rfl rfl ?_
        refine d_h0 15 rfl (h_store rfl rfl rfl sz_46 rfl aPt (by rw [flat_length ov5, mix_len hKl hk1]; show k * 5 + 4 + 1 ≤ (nth L i).op.length * 5; omega) rfl) (by kernel_rfl) (fun w h => h.ent aEt) (fun _ _ => ?_)
        refine d_turn [] (by kernel_rfl) ?_
        refine d_nil (by kernel_rfl) (fun w h => h.ent aEt) ?_
        refine s_blk ?_
        refine s_weaken (L' := [(2, _), (3, _), (6, _), (7, _), (33, _), (34, _), (35, _), (52, _), (53, _), (54, _)]) aSx (fun _ h => h) ?_
        refine s_region ?_
        refine o_p (p_pure rfl) rfl ?_
        try (refine o_slot (i64w (by omega) (by omega)) ?_)
        refine o_p (p_pure rfl) rfl ?_
        refine o_nil ?_
        exact s_backI (k + 1, K ++ [({ (nth (nth L i).op k) with la := xl, lc := yl } : LOpn)]) (by show (nth L i).op.length - (k + 1) < (nth L i).op.length - k; omega) ⟨by show k + 1 ≤ (nth L i).op.length; omega, by simp [hKl], by show plo (K ++ [({ (nth (nth L i).op k) with la := xl, lc := yl } : LOpn)]) = (plo (nth L i).op).take (k + 1); rw [plo_app1, hk2, take_succ_nth (by simpa using hkl), nth_plo hkl]; rfl⟩ aSx (fun w h => by have h3 := row_fill (sub := subO) (K := K) (x := ({ (nth (nth L i).op k) with la := xl, lc := yl } : LOpn)) (n := (nth L i).op.length) (xs := (mix (K ++ [({ (nth (nth L i).op k) with la := xl, lc := yl } : LOpn)]) (nth L i).op (k + 1)).flatMap LOpn.vals) (h.ent (Bs := [.blk go 48 (yo * 5) (setMany ((mix K (nth L i).op k).flatMap LOpn.vals) (k * 5 + 4) [.slice xl (nth (nth L i).op k).lk.length yl]), subO ({ (nth (nth L i).op k) with la := xl, lc := yl } : LOpn), .star (K.map subO), .blk ga 77 (xc * 4) ((mix (M ++ [({ nth L i with oa := some ⟨go, 0, none⟩, oc := yo } : LFil)]) L (i + 1)).flatMap LFil.vals), .star (M.map subF), .blk b5 77 4 (nth L i).vals, .blk b3 106 2 [.int .i64 next, .slice (some ⟨ga, 0, none⟩) L.length xc], .blk b1 26 2 [.int .i64 next, .slice a L.length cap]]) aEt) (mix_store ov5 hKl hkl (by simp [LOpn.vals, setMany]) (by simp)) (by rw [flat_length ov5, mix_len (by simp [hKl]) (by omega)]) hoc hom; exact h3.ent aEt)
      · try simp only [decide_eq_true_eq, decide_eq_false_iff_not, Bool.not_eq_true', Bool.not_eq_false', Bool.and_eq_true, Bool.or_eq_true, Bool.and_eq_false_iff, Bool.or_eq_false_iff, Bool.not_true, Bool.not_false] at h6
        refine s_exit_to rfl ?_
        refine s_blk ?_
        refine s_region ?_
        refine o_p (p_pure rfl) rfl ?_
        try (refine o_slot (i64w (by omega) (by omega)) ?_)
        refine o_p (p_pure rfl) rfl ?_
        refine o_nil ?_
        exact s_backI (i + 1, M ++ [({ nth L i with oa := xo, oc := yo, op := K } : LFil)]) (by show L.length - (i + 1) < L.length - i; omega) ⟨by show i + 1 ≤ L.length; omega, by simp [hMl], by show pls (M ++ [({ nth L i with oa := xo, oc := yo, op := K } : LFil)]) = (pls L).take (i + 1); rw [pls_app1, hi2, take_succ_nth (by simpa using hil), nth_pls hil]; have e8 : k = (nth L i).op.length := (by omega); rw [e8, List.take_of_length_le (by simp)] at hk2; simp only [LFil.pl]; rw [show List.map LOpn.pl K = List.map LOpn.pl (nth L i).op from hk2]⟩ aSx (fun w h => by have e8 : k = (nth L i).op.length := (by omega); have h2 := opens_shut (l := K) (h.ent (Bs := [.own (.slice xo (nth L i).op.length yo) 48 5 (nth L i).op.length ((mix K (nth L i).op k).flatMap LOpn.vals), .star (K.map subO), .blk ga 77 (xc * 4) ((mix (M ++ [({ nth L i with oa := xo, oc := yo } : LFil)]) L (i + 1)).flatMap LFil.vals), .star (M.map subF), .blk b3 106 2 [.int .i64 next, .slice (some ⟨ga, 0, none⟩) L.length xc], .blk b1 26 2 [.int .i64 next, .slice a L.length cap]]) aEt) (by omega) (by rw [mix_end (by omega)]); have h3 := row_fill (sub := subF) (K := M) (x := ({ nth L i with oa := xo, oc := yo, op := K } : LFil)) (n := L.length) (xs := (mix (M ++ [({ nth L i with oa := xo, oc := yo, op := K } : LFil)]) L (i + 1)).flatMap LFil.vals) (h2.ent (Bs := [.blk ga 77 (xc * 4) ((mix (M ++ [({ nth L i with oa := xo, oc := yo } : LFil)]) L (i + 1)).flatMap LFil.vals), subF ({ nth L i with oa := xo, oc := yo, op := K } : LFil), .star (M.map subF), .blk b3 106 2 [.int .i64 next, .slice (some ⟨ga, 0, none⟩) L.length xc], .blk b1 26 2 [.int .i64 next, .slice a L.length cap]]) aEt) (mix_same (by simp only [LFil.vals]; rw [show K.length = (nth L i).op.length by omega])) (by rw [flat_length fv4, mix_len (by simp [hMl]) (by omega)]) hcap hcm; exact h3.ent aEt)
    · try simp only [decide_eq_true_eq, decide_eq_false_iff_not, Bool.not_eq_true', Bool.not_eq_false', Bool.and_eq_true, Bool.or_eq_true, Bool.and_eq_false_iff, Bool.or_eq_false_iff, Bool.not_true, Bool.not_false] at h4
      refine s_exit_to rfl ?_
      refine s_seq ?_
      refine s_region ?_
      refine o_p (p_pure rfl) rfl ?_
      refine o_p (p_pure rfl) rfl ?_
      refine o_p (p_pure rfl) rfl ?_
      refine o_nil ?_
      exact s_retv (rs := [.tmp 2, .tmp 3]) rfl (.tmp rfl (.tmp rfl (.nil))) (fun w' h' => by have e8 : i = L.length := (by omega); exact ⟨(b3, (xa, xc), M), rfl, by show pls M = pls L; rw [hi2, List.take_of_length_le (by simp; omega)], by have h2 := HS.files_shut (l := M) (h'.ent (Bs := [.own (.slice xa L.length xc) 77 4 L.length ((mix M L i).flatMap LFil.vals), .star (M.map subF), .blk b3 106 2 [.int .i64 next, .slice xa L.length xc]]) aEt) (by omega) (by rw [mix_end (by omega)]); dsimp only; rw [show M.length = L.length by omega]; exact h2.ent aEt⟩)

set_option maxRecDepth 20000 in
theorem d80 (w : World) (next : Int) (a : Option Addr) (cap : Nat) (L : List LFil) (hs : Ft w [] a L) (hm : L.length ≤ 1000) (hmo : ∀ f ∈ L, f.op.length ≤ 1000) (hz : ¬ (chkT next (pls L)).2 = 0) : Calls Try.prog 80 #[.agg #[.int .i64 next, .slice a L.length cap]] w fun en w' => en = .returned (.tuple #[.pointer none, .int .i64 (chkT next (pls L)).2]) ∧ Below w.heap.size w w' := by
  refine enter (args := [_]) Try.func80 Try.ntmps80 rfl rfl (HS.refl w []) ?_
  refine s_seq ?_
  refine s_region ?_
  refine o_h (h_box rfl rfl) rfl (fun b1 _ => ?_)
  refine o_p (p_pure rfl) rfl ?_
  refine o_p (p_pure rfl) rfl ?_
  refine o_nil ?_
  refine s_seq ?_
  refine s_seq ?_
  refine s_region ?_
  refine o_q (q_loadn rfl rfl sz_26 aPk rfl) rfl ?_
  refine o_q (q_call rfl fn_18 rfl (fun w1 h1 => c18 w1 next a cap L (hs.later h1) hm hmo)) rfl ?_
  refine o_p (p_pure rfl) rfl ?_
  refine o_p (p_pure rfl) rfl ?_
  refine o_p (p_pure rfl) rfl ?_
  refine o_p (p_pure rfl) rfl ?_
  refine o_p (p_pure rfl) rfl ?_
  refine o_nil ?_
  refine s_seq ?_
  refine s_region ?_
  refine o_p (p_pure rfl) rfl ?_
  refine o_p (p_pure rfl) rfl ?_
  refine o_nil ?_
  refine s_cond rfl (fun h2 => ?_) (fun h2 => ?_)
  · try simp only [decide_eq_true_eq, decide_eq_false_iff_not, Bool.not_eq_true', Bool.not_eq_false', Bool.and_eq_true, Bool.or_eq_true, Bool.and_eq_false_iff, Bool.or_eq_false_iff, Bool.not_true, Bool.not_false] at h2
    refine s_seq ?_
    refine s_region ?_
    refine o_p (p_pure rfl) rfl ?_
    refine o_p (p_pure rfl) rfl ?_
    refine o_p (p_pure rfl) rfl ?_
    refine o_nil ?_
    exact s_retv (rs := [.tmp 2, .tmp 3]) rfl (.tmp rfl (.tmp rfl (.nil))) (fun w' h' => ⟨rfl, h'.below⟩)
  · try simp only [decide_eq_true_eq, decide_eq_false_iff_not, Bool.not_eq_true', Bool.not_eq_false', Bool.and_eq_true, Bool.or_eq_true, Bool.and_eq_false_iff, Bool.or_eq_false_iff, Bool.not_true, Bool.not_false] at h2
    exfalso; exact absurd h2 hz

end Go.Proofs

namespace Go.Proofs
open Go Go.RowKit Gx
set_option linter.unusedVariables false
set_option linter.unusedSimpArgs false
attribute [local irreducible] Go.Calls Gx.S Gx.O Gx.D Gx.OpP Gx.OpQ Gx.OpH

theorem fn_80 : isFn Try.prog 80 = true := by kernel_rfl
end Go.Proofs

namespace Go.Proofs
open Go Go.RowKit Gx
set_option linter.unusedVariables false
set_option linter.unusedSimpArgs false
attribute [local irreducible] Go.Calls Gx.S Gx.O Gx.D Gx.OpP Gx.OpQ Gx.OpH



def openR (next : Int) (L : List Fil) (rc sq : Int) (x : Opn) : (List Fil × Int) × Int × Int := if (chkT next L).2 = 0 then if (openT next L rc sq x).2.2.2 = 0 then (((openT next L rc sq x).1, (openT next L rc sq x).2.1), (openT next L rc sq x).2.2.1, 0) else (([], 0), 0, (openT next L rc sq x).2.2.2) else (([], 0), 0, (chkT next L).2)
def closeR (next : Int) (L : List Fil) (h : Int) : (List Fil × Int) × Bool × Int := if (chkT next L).2 = 0 then if (closeT L h).2.2 = 0 then (((closeT L h).1, next), (closeT L h).2.1, 0) else (([], 0), false, (closeT L h).2.2) else (([], 0), false, (chkT next L).2)
end Go.Proofs

/- Chapter 25, plain: where a handle of a valid table is, and what its locks keep others from. No program here. -/
namespace Go.Proofs
open Go Go.RowKit Gx
set_option linter.unusedVariables false
set_option linter.unusedSimpArgs false
end Go.Proofs

namespace Go.Proofs
open Go Go.RowKit Gx
set_option linter.unusedVariables false
set_option linter.unusedSimpArgs false
attribute [local irreducible] Go.Calls Gx.S Gx.O Gx.D Gx.OpP Gx.OpQ Gx.OpH

end Go.Proofs

namespace Go.Proofs
open Go Go.RowKit Gx
set_option linter.unusedVariables false
set_option linter.unusedSimpArgs false
attribute [local irreducible] Go.Calls Gx.S Gx.O Gx.D Gx.OpP Gx.OpQ Gx.OpH



end Go.Proofs

namespace Go.Proofs
open Go Go.RowKit Gx
set_option linter.unusedVariables false
set_option linter.unusedSimpArgs false
attribute [local irreducible] Go.Calls Gx.S Gx.O Gx.D Gx.OpP Gx.OpQ Gx.OpH

end Go.Proofs

namespace Go.Proofs
open Go Go.RowKit Gx
set_option linter.unusedVariables false
set_option linter.unusedSimpArgs false
attribute [local irreducible] Go.Calls Gx.S Gx.O Gx.D Gx.OpP Gx.OpQ Gx.OpH



theorem row_rd {α : Type} [Inhabited α] {vals : α → List Value} {sz : Nat} (hv : ∀ x, (vals x).length = sz) {l : List α} {i b t tot : Nat} {w0 w : World} {N : List Nat} {As As' : List HA} (hi : i < l.length) (h : HS w0 N As w) (hp : Pick As (.blk b t tot (l.flatMap vals)) As') : ∀ j v, (vals (nth l i))[j]? = some v → Rd w [] b (i * sz + j) v := fun j v hj => by
  have hlt : j < sz := by
    rcases Nat.lt_or_ge j (vals (nth l i)).length with h | h
    · rwa [hv] at h
    · rw [List.getElem?_eq_none h] at hj; cases hj
  exact h.rd_blk (Mc := []) hp (by rw [flat_get hv _ i j _ (nth_get hi) hlt]; exact hj) (by simp)
end Go.Proofs

namespace Go.Proofs
open Go Go.RowKit Gx
set_option linter.unusedVariables false
set_option linter.unusedSimpArgs false
attribute [local irreducible] Go.Calls Gx.S Gx.O Gx.D Gx.OpP Gx.OpQ Gx.OpH



theorem ixB_at : ∀ {l : List Bool}, ixB l < l.length → l.getD (ixB l) false = true
  | [], h => absurd h (Nat.not_lt_zero _)
  | b :: l, h => by
    unfold ixB at h ⊢
    cases b
    · simp only [Bool.false_eq_true, if_false, List.length_cons] at h ⊢
      have h9 := ixB_at (l := l) (by omega)
      simpa using h9
    · simp
theorem bs_hit {next : Int} {L : List Fil} {rc sq : Int} (h : Ok next L) {i : Nat} (hi : i < L.length) (he : ((nth L i).rc, (nth L i).sq) = (rc, sq)) : bsF' (cmps L rc sq) = true ∧ bsL (cmps L rc sq) = i := by
  obtain ⟨p1, p2, p3⟩ := place_spec (rc := rc) (sq := sq) h
  have irr : refLt (rc, sq) (rc, sq) = false := by simp [refLt]
  have e : bsL (cmps L rc sq) = i := by
    rcases Nat.lt_trichotomy i (bsL (cmps L rc sq)) with h1 | h1 | h1
    · have := p2 i h1
      rw [he, irr] at this
      cases this
    · exact h1.symm
    · have h4 := (pw_nth.1 h.sr) _ _ h1 hi
      rw [he] at h4
      rw [p3 _ (Nat.le_refl _) (by omega)] at h4
      cases h4
  exact ⟨(bsF_iff h).2 ⟨by omega, by rw [e]; exact he⟩, e⟩
theorem at_hit {next : Int} {L : List LFil} {rc sq : Int} (h : Ok next (pls L)) (hp : 0 ≤ ixI (atB (pls L) rc sq)) : ∃ i : Nat, ixI (atB (pls L) rc sq) = (i : Int) ∧ i < L.length ∧ bsF' (cmps (pls L) rc sq) = true ∧ bsL (cmps (pls L) rc sq) = i := by
  unfold ixI at hp ⊢
  split at hp
  · rename_i h1
    have h2 := ixB_at h1
    have hl : ixB (atB (pls L) rc sq) < L.length := by simpa [atB] using h1
    rw [atB_get hl] at h2
    simp only [Bool.and_eq_true, decide_eq_true_eq] at h2
    have hl2 : ixB (atB (pls L) rc sq) < (pls L).length := by simpa using hl
    obtain ⟨h3, h4⟩ := bs_hit (rc := rc) (sq := sq) h hl2 (by rw [nth_pls hl]; exact Prod.ext h2.1 h2.2)
    exact ⟨_, if_pos h1, hl, h3, h4⟩
  · exact absurd hp (by omega)
theorem at_miss {next : Int} {L : List LFil} {rc sq : Int} (h : Ok next (pls L)) (hp : ¬ 0 ≤ ixI (atB (pls L) rc sq)) : ¬ bsF' (cmps (pls L) rc sq) = true := by
  intro hb
  obtain ⟨h1, h2⟩ := (bsF_iff h).1 hb
  have hl : bsL (cmps (pls L) rc sq) < L.length := by simpa using h1
  have h3 : (atB (pls L) rc sq).any id = true := by
    rw [List.any_eq_true]
    refine ⟨true, ?_, rfl⟩
    rw [atB, List.mem_map]
    refine ⟨_, mem_nth h1, ?_⟩
    have e1 := congrArg Prod.fst h2
    have e2 := congrArg Prod.snd h2
    simp only [] at e1 e2
    rw [e1, e2]
    simp
  rw [ixB_any, decide_eq_true_eq] at h3
  unfold ixI at hp
  rw [if_pos h3] at hp
  omega
/-- The files laid so far: with the new one where its place was passed. -/
def dC (N : List LFil) (p : Nat) (f : LFil) (i : Nat) (b : Bool) : List LFil := if b then insAt (N.take i) p f else N.take i
section
variable {w0 w : World} {M : List Nat} {As As' : List HA} {a : Option Addr} {cap : Nat}
end

end Go.Proofs

namespace Go.Proofs
open Go Go.RowKit Gx
set_option linter.unusedVariables false
set_option linter.unusedSimpArgs false
attribute [local irreducible] Go.Calls Gx.S Gx.O Gx.D Gx.OpP Gx.OpQ Gx.OpH

end Go.Proofs

namespace Go.Proofs
open Go Go.RowKit Gx
set_option linter.unusedVariables false
set_option linter.unusedSimpArgs false
attribute [local irreducible] Go.Calls Gx.S Gx.O Gx.D Gx.OpP Gx.OpQ Gx.OpH

theorem fn_89 : isFn Try.prog 89 = true := by kernel_rfl
end Go.Proofs

namespace Go.Proofs
open Go Go.RowKit Gx
set_option linter.unusedVariables false
set_option linter.unusedSimpArgs false
attribute [local irreducible] Go.Calls Gx.S Gx.O Gx.D Gx.OpP Gx.OpQ Gx.OpH

end Go.Proofs

/- Chapter 25, plain: a count of which handles are open, beside a run of acts. No program here. -/
namespace Go.Proofs
open Go Go.RowKit Gx
set_option linter.unusedVariables false
set_option linter.unusedSimpArgs false

/-- The count: files, whether marked; of each handle its file, whether it deletes on close, whether it is closed. -/
structure DS where
  fl : List (Int × Int)
  ow : List Bool
  of : List Nat
  on : List Bool
  gn : List Bool
def ky (f : Fil) : Int × Int := (f.rc, f.sq)
structure DI (next : Int) (L : List Fil) (D : DS) : Prop where
  nx : next = (D.of.length : Int) + 1
  l1 : D.on.length = D.of.length
  l2 : D.gn.length = D.of.length
  l3 : D.ow.length = D.fl.length
  lt : ∀ h, h < D.of.length → nth D.of h < D.fl.length
  a : ∀ h, h < D.of.length → nth D.gn h = false → ∃ f ∈ L, ∃ o ∈ f.op, o.hd = (h : Int) + 1 ∧ o.dl = nth D.on h ∧ ky f = nth D.fl (nth D.of h)
  b : ∀ f ∈ L, ∀ o ∈ f.op, ∀ h, h < D.of.length → o.hd = (h : Int) + 1 → nth D.gn h = false
  c : ∀ f ∈ L, ∃ j, j < D.fl.length ∧ nth D.fl j = ky f ∧ nth D.ow j = f.pd
  e : ∀ j, j < D.fl.length → nth D.ow j = true → ∃ f ∈ L, ky f = nth D.fl j
  nd : ∀ i j, i < D.fl.length → j < D.fl.length → nth D.fl i = nth D.fl j → i = j
theorem DI.nil : DI 1 [] ⟨[], [], [], [], []⟩ :=
  ⟨rfl, rfl, rfl, rfl, fun h hh => absurd hh (Nat.not_lt_zero h), fun h hh => absurd hh (Nat.not_lt_zero h), fun f hf => (by cases hf), fun f hf => (by cases hf), fun h hh => absurd hh (Nat.not_lt_zero h), fun h _ hh => absurd hh (Nat.not_lt_zero h)⟩
theorem nth_app1 {α : Type} [Inhabited α] {l : List α} {x : α} {i : Nat} (h : i < l.length) : nth (l ++ [x]) i = nth l i := by
  simp only [nth, List.getD_eq_getElem?_getD, List.getElem?_append_left h]
theorem nth_app2 {α : Type} [Inhabited α] {l : List α} {x : α} {i : Nat} (h : i = l.length) : nth (l ++ [x]) i = x := by
  subst h
  simp only [nth, List.getD_eq_getElem?_getD, List.getElem?_concat_length, Option.getD_some]
theorem nth_set1 {α : Type} [Inhabited α] {l : List α} {x : α} {i : Nat} (h : i < l.length) : nth (l.set i x) i = x := by
  simp only [nth, List.getD_eq_getElem?_getD, List.getElem?_set_self h, Option.getD_some]
theorem nth_set2 {α : Type} [Inhabited α] {l : List α} {x : α} {i j : Nat} (h : i ≠ j) : nth (l.set i x) j = nth l j := by
  simp only [nth, List.getD_eq_getElem?_getD, List.getElem?_set_ne h]
theorem ky_lt_irr (a : Int × Int) : refLt a a = false := by simp [refLt]
/-- Files of a valid table with one name are one file. -/
theorem ky_eq {next : Int} {L : List Fil} (h : Ok next L) {i j : Nat} (hi : i < L.length) (hj : j < L.length) (he : ky (nth L i) = ky (nth L j)) : i = j := by
  have p := pw_nth.1 h.sr
  have irr := ky_lt_irr (ky (nth L j))
  rcases Nat.lt_trichotomy i j with h1 | h1 | h1
  · have h2 := p i j h1 hj
    rw [show ((nth L i).rc, (nth L i).sq) = ky (nth L j) from he] at h2
    rw [show ((nth L j).rc, (nth L j).sq) = ky (nth L j) from rfl, irr] at h2
    cases h2
  · exact h1
  · have h2 := p j i h1 hi
    rw [show ((nth L i).rc, (nth L i).sq) = ky (nth L j) from he] at h2
    rw [show ((nth L j).rc, (nth L j).sq) = ky (nth L j) from rfl, irr] at h2
    cases h2
/-- A handle of a valid table is in one file alone. -/
theorem hd_eq {next : Int} {L : List Fil} (h : Ok next L) {i j : Nat} (hi : i < L.length) (hj : j < L.length) {o p : Opn} (ho : o ∈ (nth L i).op) (hp : p ∈ (nth L j).op) (he : o.hd = p.hd) : i = j := by
  have q := pw_nth.1 h.ds
  rcases Nat.lt_trichotomy i j with h1 | h1 | h1
  · exact absurd he (q i j h1 hj o ho p hp)
  · exact h1
  · exact absurd he.symm (q j i h1 hi p hp o ho)
theorem hd_in {next : Int} {f : Fil} (h : FOk next f) {i j : Nat} (hi : i < f.op.length) (hj : j < f.op.length) (he : (nth f.op i).hd = (nth f.op j).hd) : i = j := by
  have q := pw_nth.1 h.hs
  rcases Nat.lt_trichotomy i j with h1 | h1 | h1
  · have := q i j h1 hj; omega
  · exact h1
  · have := q j i h1 hi; omega
theorem ky_eqm {next : Int} {L : List Fil} (h : Ok next L) {f g : Fil} (hf : f ∈ L) (hg : g ∈ L) (he : ky f = ky g) : f = g := by
  obtain ⟨i, hi, rfl⟩ := mem_nth_ex hf
  obtain ⟨j, hj, rfl⟩ := mem_nth_ex hg
  rw [ky_eq h hi hj he]
theorem hd_eqm {next : Int} {L : List Fil} (h : Ok next L) {f g : Fil} (hf : f ∈ L) (hg : g ∈ L) {o p : Opn} (ho : o ∈ f.op) (hp : p ∈ g.op) (he : o.hd = p.hd) : f = g ∧ o = p := by
  obtain ⟨i, hi, rfl⟩ := mem_nth_ex hf
  obtain ⟨j, hj, rfl⟩ := mem_nth_ex hg
  obtain rfl := hd_eq h hi hj ho hp he
  refine ⟨rfl, ?_⟩
  obtain ⟨k, hk, rfl⟩ := mem_nth_ex ho
  obtain ⟨m, hm, rfl⟩ := mem_nth_ex hp
  rw [hd_in (nth_Ok h hi) hk hm he]
/-- What is found. -/
theorem found {next : Int} {L : List Fil} (h : Ok next L) {hd : Int} (he : (findF L hd 0).2.2 = 0) : ∃ i k, findF L hd 0 = (i, k, 0) ∧ i < L.length ∧ k < (nth L i).op.length ∧ (nth (nth L i).op k).hd = hd := by
  obtain ⟨i, k, h1, h2, h3, h4⟩ := findF_spec he
  refine ⟨i, k, by simpa using h1, h2, h3, ?_⟩
  have h5 : ixB ((nth L i).op.map fun o => decide (o.hd = hd)) < ((nth L i).op.map fun o => decide (o.hd = hd)).length := by
    rw [List.length_map]; unfold ixO at h4; omega
  have h6 := ixB_at h5
  unfold ixO at h4
  rw [← h4, map_getD_nthB h3] at h6
  simpa using h6
theorem mem_set_ky {next : Int} {L : List Fil} (h : Ok next L) {i : Nat} (hi : i < L.length) {x : Fil} (g : Fil) : g ∈ L.set i x ↔ g = x ∨ (g ∈ L ∧ ky g ≠ ky (nth L i)) := by
  constructor
  · intro hg
    obtain ⟨j, hj, rfl⟩ := mem_nth_ex hg
    rw [List.length_set] at hj
    by_cases e : i = j
    · subst e; exact .inl (nth_set1 hi)
    · right
      rw [nth_set2 e]
      exact ⟨mem_nth hj, fun he => e (ky_eq h hj hi he).symm⟩
  · rintro (rfl | ⟨hg, hne⟩)
    · have : nth (L.set i g) i ∈ L.set i g := mem_nth (by rw [List.length_set]; exact hi)
      rwa [nth_set1 hi] at this
    · obtain ⟨j, hj, rfl⟩ := mem_nth_ex hg
      have e : i ≠ j := fun e => hne (by rw [e])
      have : nth (L.set i x) j ∈ L.set i x := mem_nth (by rw [List.length_set]; exact hj)
      rwa [nth_set2 e] at this
theorem mem_others {α : Type} [Inhabited α] {l : List α} {i : Nat} {y : α} : y ∈ others l i ↔ ∃ j, j < l.length ∧ j ≠ i ∧ nth l j = y := by
  unfold others
  rw [List.mem_append]
  constructor
  · rintro (h | h)
    · obtain ⟨j, h1, h2, h3⟩ := nth_mem_take h
      exact ⟨j, h2, by omega, h3⟩
    · obtain ⟨j, h1, h2, h3⟩ := nth_mem_drop h
      exact ⟨j, h2, by omega, h3⟩
  · rintro ⟨j, h1, h2, rfl⟩
    rcases Nat.lt_or_ge j i with h3 | h3
    · exact .inl (mem_take_of h3 h1)
    · right
      refine List.mem_iff_getElem?.2 ⟨j - (i + 1), ?_⟩
      rw [List.getElem?_drop, show i + 1 + (j - (i + 1)) = j by omega, nth_get h1]
theorem mem_others_ky {next : Int} {L : List Fil} (h : Ok next L) {i : Nat} (hi : i < L.length) (g : Fil) : g ∈ others L i ↔ (g ∈ L ∧ ky g ≠ ky (nth L i)) := by
  rw [mem_others]
  constructor
  · rintro ⟨j, hj, e, rfl⟩
    exact ⟨mem_nth hj, fun he => e (ky_eq h hj hi he)⟩
  · rintro ⟨hg, hne⟩
    obtain ⟨j, hj, rfl⟩ := mem_nth_ex hg
    exact ⟨j, hj, fun e => hne (by rw [e]), rfl⟩
theorem mem_ins {L : List Fil} {i : Nat} {x g : Fil} : g ∈ insAt L i x ↔ g = x ∨ g ∈ L := by
  constructor
  · exact ins_le g
  · unfold insAt
    rintro (rfl | h)
    · simp
    · rw [← List.take_append_drop i L] at h
      rcases List.mem_append.1 h with h | h
      · exact List.mem_append_left _ h
      · exact List.mem_append_right _ (List.mem_cons_of_mem _ h)
/-- What an opening does. -/
theorem open_mem {next : Int} {L : List Fil} (h : Ok next L) {rc sq : Int} {x : Opn} (he : (openT next L rc sq x).2.2.2 = 0) :
    (openT next L rc sq x).2.1 = next + 1 ∧ (openT next L rc sq x).2.2.1 = next ∧ ∃ f0 : Fil, f0.pd = false ∧ ky f0 = (rc, sq) ∧ ((f0 ∈ L) ∨ (f0.op = [] ∧ ∀ g ∈ L, ky g ≠ (rc, sq))) ∧ ∀ g, g ∈ (openT next L rc sq x).1 ↔ g = putO f0 x next ∨ (g ∈ L ∧ ky g ≠ (rc, sq)) := by
  unfold openT at he ⊢
  split at he
  · rename_i hz
    rw [if_pos hz]
    split at he
    · rename_i hb
      rw [if_pos hb]
      obtain ⟨hi, hk⟩ := (bsF_iff h).1 hb
      split at he
      · rename_i ho
        rw [if_pos ho]
        refine ⟨rfl, rfl, nth L (bsL (cmps L rc sq)), ?_, hk, .inl (mem_nth hi), fun g => ?_⟩
        · unfold oldE at ho
          split at ho
          · exact absurd ho (by decide)
          · simp_all
        · rw [show updF L (bsL (cmps L rc sq)) (fun f => putO f x next) = L.set (bsL (cmps L rc sq)) (putO (nth L (bsL (cmps L rc sq))) x next) from rfl, mem_set_ky h hi, ← hk]
          rfl
      · rename_i ho; exact absurd he ho
    · rename_i hb
      rw [if_neg hb]
      have hna := not_at h hb
      refine ⟨rfl, rfl, ⟨rc, sq, false, []⟩, rfl, rfl, .inr ⟨rfl, hna⟩, fun g => ?_⟩
      show g ∈ insAt _ _ _ ↔ _
      rw [mem_ins]
      constructor
      · rintro (h1 | h1)
        · exact .inl h1
        · exact .inr ⟨h1, hna g h1⟩
      · rintro (h1 | h1)
        · exact .inl h1
        · exact .inr h1.1
  · rename_i hz; exact absurd he hz
/-- What an act on a handle does: another file in the place of its file. -/
def Upd (L L' : List Fil) (f0 f1 : Fil) : Prop := f0 ∈ L ∧ ky f1 = ky f0 ∧ (∀ q ∈ f1.op, ∃ p ∈ f0.op, p.hd = q.hd ∧ p.dl = q.dl) ∧ (∀ p ∈ f0.op, ∃ q ∈ f1.op, q.hd = p.hd ∧ q.dl = p.dl) ∧ ∀ g, g ∈ L' ↔ g = f1 ∨ (g ∈ L ∧ ky g ≠ ky f0)
theorem mark_mem {next : Int} {L : List Fil} (h : Ok next L) {hd : Int} {d : Bool} (he : (markT L hd d).2 = 0) : ∃ f0 f1 : Fil, f1.pd = d ∧ (∃ o ∈ f0.op, o.hd = hd) ∧ Upd L (markT L hd d).1 f0 f1 := by
  unfold markT at he ⊢
  split at he
  · rename_i hz
    rw [if_pos hz]
    obtain ⟨i, k, e, hi, hk, hh⟩ := found h hz
    rw [e] at he ⊢
    dsimp only at he ⊢
    split at he
    · rename_i ha
      rw [if_pos ha]
      exact ⟨nth L i, { nth L i with pd := d }, rfl, ⟨_, mem_nth hk, hh⟩, mem_nth hi, rfl, fun q hq => ⟨q, hq, rfl, rfl⟩, fun q hq => ⟨q, hq, rfl, rfl⟩, fun g => mem_set_ky h hi g⟩
    · exact absurd he (by simp)
  · rename_i hz; exact absurd he hz
theorem updLk {next : Int} {L : List Fil} (h : Ok next L) {i k : Nat} (hi : i < L.length) (hk : k < (nth L i).op.length) (lk : List Lock) : Upd L (updO L i k fun o => { o with lk := lk }) (nth L i) { nth L i with op := (nth L i).op.set k { nth (nth L i).op k with lk := lk } } := by
  refine ⟨mem_nth hi, rfl, fun q hq => ?_, fun p hp => ?_, fun g => mem_set_ky h hi g⟩
  · rcases mem_set_or hq with rfl | h9
    · exact ⟨_, mem_nth hk, rfl, rfl⟩
    · exact ⟨q, h9, rfl, rfl⟩
  · obtain ⟨j, hj, rfl⟩ := mem_nth_ex hp
    by_cases e : k = j
    · subst e
      refine ⟨nth ((nth L i).op.set k { nth (nth L i).op k with lk := lk }) k, mem_nth (by rw [List.length_set]; exact hk), ?_⟩
      rw [nth_set1 hk]
      exact ⟨rfl, rfl⟩
    · refine ⟨nth ((nth L i).op.set k { nth (nth L i).op k with lk := lk }) j, mem_nth (by rw [List.length_set]; exact hj), ?_⟩
      rw [nth_set2 e]
      exact ⟨rfl, rfl⟩
theorem lock_mem {next : Int} {L : List Fil} (h : Ok next L) {hd : Int} {q : Lock} (he : (lockT L hd q).2 = 0) : ∃ f0 f1 : Fil, f1.pd = f0.pd ∧ (∃ o ∈ f0.op, o.hd = hd) ∧ Upd L (lockT L hd q).1 f0 f1 := by
  unfold lockT at he ⊢
  split at he
  · rename_i hz
    rw [if_pos hz]
    obtain ⟨i, k, e, hi, hk, hh⟩ := found h hz
    rw [e] at he ⊢
    dsimp only at he ⊢
    split at he
    · rename_i ha
      rw [if_pos ha]
      split at he
      · rename_i hb
        rw [if_pos hb]
        refine ⟨_, _, ?_, ⟨_, mem_nth hk, hh⟩, updLk h hi hk ((nth (nth L i).op k).lk ++ [q])⟩
        rfl
      · rename_i hb; exact absurd he hb
    · rename_i ha; exact absurd he ha
  · rename_i hz; exact absurd he hz
theorem unlock_mem {next : Int} {L : List Fil} (h : Ok next L) {hd fr cnt : Int} (he : (unlockT L hd fr cnt).2 = 0) : ∃ f0 f1 : Fil, f1.pd = f0.pd ∧ (∃ o ∈ f0.op, o.hd = hd) ∧ Upd L (unlockT L hd fr cnt).1 f0 f1 := by
  unfold unlockT at he ⊢
  split at he
  · rename_i hz
    rw [if_pos hz]
    obtain ⟨i, k, e, hi, hk, hh⟩ := found h hz
    rw [e] at he ⊢
    dsimp only at he ⊢
    split at he
    · rename_i ha
      rw [if_pos ha]
      split at he
      · rename_i hb
        rw [if_pos hb]
        refine ⟨_, _, ?_, ⟨_, mem_nth hk, hh⟩, updLk h hi hk (others (nth (nth L i).op k).lk (ixB ((nth (nth L i).op k).lk.map (eqK fr cnt))))⟩
        rfl
      · exact absurd he (by simp)
    · rename_i ha; exact absurd he ha
  · rename_i hz; exact absurd he hz
theorem may_mem {next : Int} {L : List Fil} (h : Ok next L) {hd : Int} {q : Lock} {n : Nat} {kp : Bool → Bool → Bool} (he : mayT L hd q n kp = 0) : ∃ f0 : Fil, (∃ o ∈ f0.op, o.hd = hd) ∧ Upd L L f0 f0 := by
  unfold mayT at he
  split at he
  · rename_i hz
    obtain ⟨i, k, e, hi, hk, hh⟩ := found h hz
    refine ⟨nth L i, ⟨_, mem_nth hk, hh⟩, mem_nth hi, rfl, fun q hq => ⟨q, hq, rfl, rfl⟩, fun q hq => ⟨q, hq, rfl, rfl⟩, fun g => ⟨fun hg => ?_, ?_⟩⟩
    · by_cases e : ky g = ky (nth L i)
      · exact .inl (ky_eqm h hg (mem_nth hi) e)
      · exact .inr ⟨hg, e⟩
    · rintro (rfl | h9)
      · exact mem_nth hi
      · exact h9.1
  · rename_i hz; exact absurd he hz
theorem close_mem {next : Int} {L : List Fil} (h : Ok next L) {hd : Int} (he : (closeT L hd).2.2 = 0) : ∃ f0 ∈ L, ∃ o ∈ f0.op, o.hd = hd ∧
    ((∃ f1 : Fil, ky f1 = ky f0 ∧ f1.pd = (f0.pd || o.dl) ∧ (∀ q, q ∈ f1.op ↔ q ∈ f0.op ∧ q.hd ≠ hd) ∧ (∃ q, q ∈ f1.op) ∧ (closeT L hd).2.1 = false ∧ ∀ g, g ∈ (closeT L hd).1 ↔ g = f1 ∨ (g ∈ L ∧ ky g ≠ ky f0)) ∨
     ((∀ q ∈ f0.op, q.hd = hd) ∧ (closeT L hd).2.1 = (f0.pd || o.dl) ∧ ∀ g, g ∈ (closeT L hd).1 ↔ (g ∈ L ∧ ky g ≠ ky f0))) := by
  unfold closeT at he ⊢
  split at he
  · rename_i hz
    rw [if_pos hz]
    obtain ⟨i, k, e, hi, hk, hh⟩ := found h hz
    rw [e] at he ⊢
    dsimp only at he ⊢
    have ho : ∀ q, q ∈ others (nth L i).op k ↔ q ∈ (nth L i).op ∧ q.hd ≠ hd := by
      intro q
      rw [mem_others]
      constructor
      · rintro ⟨j, hj, hjk, rfl⟩
        exact ⟨mem_nth hj, fun hq => hjk (hd_in (nth_Ok h hi) hj hk (hq.trans hh.symm))⟩
      · rintro ⟨hq, hne⟩
        obtain ⟨j, hj, rfl⟩ := mem_nth_ex hq
        exact ⟨j, hj, fun e => hne (by rw [e]; exact hh), rfl⟩
    refine ⟨nth L i, mem_nth hi, _, mem_nth hk, hh, ?_⟩
    by_cases hn : 0 < (closF (nth L i) k).op.length
    · rw [if_pos hn]
      exact .inl ⟨closF (nth L i) k, rfl, rfl, ho, ⟨_, mem_nth hn⟩, rfl, fun g => mem_set_ky h hi g⟩
    · rw [if_neg hn]
      refine .inr ⟨fun q hq => ?_, rfl, fun g => mem_others_ky h hi g⟩
      rcases Classical.em (q.hd = hd) with h9 | h9
      · exact h9
      · have h8 := (ho q).2 ⟨hq, h9⟩
        have h7 : (others (nth L i).op k).length = 0 := by
          have : (closF (nth L i) k).op = others (nth L i).op k := rfl
          rw [this] at hn; omega
        rw [List.length_eq_zero_iff] at h7
        rw [h7] at h8
        cases h8
  · rename_i hz; exact absurd he hz
/-- Where a handle stands in the count. -/
theorem DI.at {next : Int} {L : List Fil} {D : DS} (h : Ok next L) (d : DI next L D) {f : Fil} {o : Opn} (hf : f ∈ L) (ho : o ∈ f.op) : ∃ n, n < D.of.length ∧ o.hd = (n : Int) + 1 ∧ nth D.gn n = false ∧ ky f = nth D.fl (nth D.of n) ∧ o.dl = nth D.on n ∧ nth D.ow (nth D.of n) = f.pd := by
  have h1 := (h.fl f hf).hd o ho
  have h2 := d.nx
  have e : o.hd = (((o.hd - 1).toNat : Nat) : Int) + 1 := by omega
  have hn : (o.hd - 1).toNat < D.of.length := by omega
  have hg := d.b f hf o ho _ hn e
  obtain ⟨f', hf', o', ho', e1, e2, e3⟩ := d.a _ hn hg
  obtain ⟨rfl, rfl⟩ := hd_eqm h hf' hf ho' ho (e1.trans e.symm)
  obtain ⟨j, hj, e4, e5⟩ := d.c f' hf'
  have := d.nd _ _ hj (d.lt _ hn) (e4.trans e3)
  subst this
  exact ⟨_, hn, e, hg, e3, e2, e5⟩
theorem DI.upd {next : Int} {L L' : List Fil} {D : DS} {f0 f1 : Fil} {n : Nat} (h : Ok next L) (d : DI next L D) (u : Upd L L' f0 f1) (hn : n < D.of.length) (hk : ky f0 = nth D.fl (nth D.of n)) : DI next L' { D with ow := D.ow.set (nth D.of n) f1.pd } := by
  obtain ⟨u0, u1, u2, u3, u4⟩ := u
  have hj := d.lt n hn
  refine ⟨d.nx, d.l1, d.l2, by simp [d.l3], d.lt, fun k hk1 hk2 => ?_, fun f hf o ho k hk1 hk2 => ?_, fun f hf => ?_, fun j hj2 ht => ?_, d.nd⟩
  · obtain ⟨f, hf, o, ho, e1, e2, e3⟩ := d.a k hk1 hk2
    by_cases e : ky f = ky f0
    · obtain rfl := ky_eqm h hf u0 e
      obtain ⟨q, hq, q1, q2⟩ := u3 o ho
      exact ⟨f1, (u4 f1).2 (.inl rfl), q, hq, q1.trans e1, q2.trans e2, u1.trans e3⟩
    · exact ⟨f, (u4 f).2 (.inr ⟨hf, e⟩), o, ho, e1, e2, e3⟩
  · rcases (u4 f).1 hf with rfl | ⟨h9, _⟩
    · obtain ⟨p, hp, p1, p2⟩ := u2 o ho
      exact d.b f0 u0 p hp k hk1 (p1.trans hk2)
    · exact d.b f h9 o ho k hk1 hk2
  · rcases (u4 f).1 hf with rfl | ⟨h9, h8⟩
    · exact ⟨nth D.of n, hj, by rw [u1, hk], nth_set1 (by rw [d.l3]; exact hj)⟩
    · obtain ⟨j, hj2, e1, e2⟩ := d.c f h9
      refine ⟨j, hj2, e1, ?_⟩
      show nth (D.ow.set (nth D.of n) f1.pd) j = f.pd
      rw [nth_set2 (fun e => h8 (by rw [← e1, ← e, hk])), e2]
  · by_cases e : nth D.of n = j
    · subst e
      exact ⟨f1, (u4 f1).2 (.inl rfl), u1.trans hk⟩
    · change nth (D.ow.set (nth D.of n) f1.pd) j = true at ht
      rw [nth_set2 e] at ht
      obtain ⟨f, hf, e1⟩ := d.e j hj2 ht
      exact ⟨f, (u4 f).2 (.inr ⟨hf, fun e2 => e (d.nd _ _ hj hj2 (by rw [← hk, ← e2, e1]))⟩), e1⟩
theorem set_same {α : Type} [Inhabited α] {l : List α} {i : Nat} {x : α} (h : i < l.length) (e : nth l i = x) : l.set i x = l := by
  subst e
  apply List.ext_getElem?
  intro j
  by_cases e : i = j
  · subst e; rw [List.getElem?_set_self h, nth_get h]
  · rw [List.getElem?_set_ne e]
/-- Acts that leave who is open and what is marked. -/
theorem DI.same {next : Int} {L L' : List Fil} {D : DS} {f0 f1 : Fil} {hd : Int} (h : Ok next L) (d : DI next L D) (hp : f1.pd = f0.pd) (hx : ∃ o ∈ f0.op, o.hd = hd) (u : Upd L L' f0 f1) : (∃ n, n < D.of.length ∧ hd = (n : Int) + 1 ∧ nth D.gn n = false) ∧ DI next L' D := by
  obtain ⟨o, ho, rfl⟩ := hx
  obtain ⟨n, hn, e1, e2, e3, e4, e5⟩ := d.at h u.1 ho
  have h9 := d.upd h u hn e3
  rw [set_same (by rw [d.l3]; exact d.lt n hn) (by rw [e5, hp])] at h9
  exact ⟨⟨n, hn, e1, e2⟩, h9⟩
theorem DI.mark {next : Int} {L : List Fil} {D : DS} {hd : Int} {fl : Bool} (h : Ok next L) (d : DI next L D) (he : (markT L hd fl).2 = 0) : ∃ n, n < D.of.length ∧ hd = (n : Int) + 1 ∧ nth D.gn n = false ∧ DI next (markT L hd fl).1 { D with ow := D.ow.set (nth D.of n) fl } := by
  obtain ⟨f0, f1, hp, ⟨o, ho, rfl⟩, u⟩ := mark_mem h he
  obtain ⟨n, hn, e1, e2, e3, e4, e5⟩ := d.at h u.1 ho
  have h9 := d.upd h u hn e3
  rw [hp] at h9
  exact ⟨n, hn, e1, e2, h9⟩
theorem DI.ext {next : Int} {L : List Fil} {D : DS} {key : Int × Int} (d : DI next L D) (hk : ∀ k, k < D.fl.length → nth D.fl k ≠ key) : DI next L { D with fl := D.fl ++ [key], ow := D.ow ++ [false] } := by
  refine ⟨d.nx, d.l1, d.l2, by simp [d.l3], fun n hn => ?_, fun n hn hg => ?_, d.b, fun f hf => ?_, fun j hj ht => ?_, fun i j hi hj e => ?_⟩
  · have := d.lt n hn; simp; omega
  · obtain ⟨f, hf, o, ho, e1, e2, e3⟩ := d.a n hn hg
    exact ⟨f, hf, o, ho, e1, e2, by show _ = nth (D.fl ++ [key]) _; rw [nth_app1 (d.lt n hn)]; exact e3⟩
  · obtain ⟨j, hj, e1, e2⟩ := d.c f hf
    exact ⟨j, by simp; omega, by show nth (D.fl ++ [key]) _ = _; rw [nth_app1 hj]; exact e1, by show nth (D.ow ++ [false]) _ = _; rw [nth_app1 (by rw [d.l3]; exact hj)]; exact e2⟩
  · change nth (D.ow ++ [false]) j = true at ht
    simp only [List.length_append, List.length_singleton] at hj
    rcases Nat.lt_or_ge j D.fl.length with h1 | h1
    · rw [nth_app1 (by rw [d.l3]; exact h1)] at ht
      obtain ⟨f, hf, e⟩ := d.e j h1 ht
      exact ⟨f, hf, by show _ = nth (D.fl ++ [key]) _; rw [nth_app1 h1]; exact e⟩
    · rw [nth_app2 (by rw [d.l3]; omega)] at ht
      cases ht
  · change nth (D.fl ++ [key]) i = nth (D.fl ++ [key]) j at e
    simp only [List.length_append, List.length_singleton] at hi hj
    rcases Nat.lt_or_ge i D.fl.length with h1 | h1
    · rcases Nat.lt_or_ge j D.fl.length with h2 | h2
      · rw [nth_app1 h1, nth_app1 h2] at e
        exact d.nd i j h1 h2 e
      · rw [nth_app1 h1, nth_app2 (by omega)] at e
        exact absurd e (hk i h1)
    · rcases Nat.lt_or_ge j D.fl.length with h2 | h2
      · rw [nth_app1 h2, nth_app2 (by omega)] at e
        exact absurd e.symm (hk j h2)
      · omega
theorem DI.open {next : Int} {L : List Fil} {D : DS} {rc sq : Int} {x : Opn} {j : Nat} (h : Ok next L) (d : DI next L D) (he : (openT next L rc sq x).2.2.2 = 0) (hj : j < D.fl.length) (hk : nth D.fl j = (rc, sq)) :
    (openT next L rc sq x).2.2.1 = (D.of.length : Int) + 1 ∧ nth D.ow j = false ∧ DI (openT next L rc sq x).2.1 (openT next L rc sq x).1 { D with of := D.of ++ [j], on := D.on ++ [x.dl], gn := D.gn ++ [false] } := by
  obtain ⟨o1, o2, f0, p0, k0, hin, hm⟩ := open_mem h he
  have hnx := d.nx
  rw [o1, o2]
  have hw : nth D.ow j = false := by
    cases hb : nth D.ow j with
    | false => rfl
    | true =>
      obtain ⟨f, hf, e⟩ := d.e j hj hb
      rcases hin with h1 | ⟨_, h1⟩
      · obtain ⟨j', hj', e1, e2⟩ := d.c f0 h1
        have := d.nd _ _ hj' hj (by rw [e1, k0, hk])
        subst this
        rw [hb, p0] at e2
        cases e2
      · exact absurd (e.trans hk) (h1 f hf)
  refine ⟨hnx, hw, ?_, by simp [d.l1], by simp [d.l2], d.l3, fun n hn => ?_, fun n hn hg => ?_, fun f hf o ho n hn e => ?_, fun f hf => ?_, fun i hi ht => ?_, d.nd⟩
  · show _ = ((D.of ++ [j]).length : Int) + 1
    rw [List.length_append, List.length_singleton]; omega
  · show nth (D.of ++ [j]) n < _
    simp only [List.length_append, List.length_singleton] at hn
    rcases Nat.lt_or_ge n D.of.length with h1 | h1
    · rw [nth_app1 h1]; exact d.lt n h1
    · rw [nth_app2 (by omega)]; exact hj
  · simp only [List.length_append, List.length_singleton] at hn
    change nth (D.gn ++ [false]) n = false at hg
    rcases Nat.lt_or_ge n D.of.length with h1 | h1
    · rw [nth_app1 (by rw [d.l2]; exact h1)] at hg
      obtain ⟨f, hf, o, ho, e1, e2, e3⟩ := d.a n h1 hg
      by_cases e : ky f = (rc, sq)
      · have : f = f0 := by
          rcases hin with h2 | ⟨_, h2⟩
          · exact ky_eqm h hf h2 (e.trans k0.symm)
          · exact absurd e (h2 f hf)
        subst this
        refine ⟨putO f x next, (hm _).2 (.inl rfl), o, List.mem_append_left _ ho, e1, ?_, ?_⟩
        · show _ = nth (D.on ++ [x.dl]) n
          rw [nth_app1 (by rw [d.l1]; exact h1)]; exact e2
        · show ky f = nth D.fl (nth (D.of ++ [j]) n)
          rw [nth_app1 h1]; exact e3
      · refine ⟨f, (hm _).2 (.inr ⟨hf, e⟩), o, ho, e1, ?_, ?_⟩
        · show _ = nth (D.on ++ [x.dl]) n
          rw [nth_app1 (by rw [d.l1]; exact h1)]; exact e2
        · show ky f = nth D.fl (nth (D.of ++ [j]) n)
          rw [nth_app1 h1]; exact e3
    · refine ⟨putO f0 x next, (hm _).2 (.inl rfl), { x with hd := next, lk := [] }, List.mem_append_right _ (List.mem_singleton.2 rfl), ?_, ?_, ?_⟩
      · show next = _; omega
      · show x.dl = nth (D.on ++ [x.dl]) n
        rw [nth_app2 (by rw [d.l1]; omega)]
      · show ky f0 = nth D.fl (nth (D.of ++ [j]) n)
        rw [nth_app2 (by omega), k0, hk]
  · show nth (D.gn ++ [false]) n = false
    simp only [List.length_append, List.length_singleton] at hn
    rcases Nat.lt_or_ge n D.of.length with h1 | h1
    · rw [nth_app1 (by rw [d.l2]; exact h1)]
      rcases (hm f).1 hf with rfl | ⟨h9, _⟩
      · rcases List.mem_append.1 ho with h8 | h8
        · rcases hin with h2 | ⟨h2, _⟩
          · exact d.b f0 h2 o h8 n h1 e
          · rw [h2] at h8; cases h8
        · rw [List.mem_singleton.1 h8] at e
          change next = _ at e
          omega
      · exact d.b f h9 o ho n h1 e
    · rw [nth_app2 (by rw [d.l2]; omega)]
  · rcases (hm f).1 hf with rfl | ⟨h9, _⟩
    · exact ⟨j, hj, by rw [hk, ← k0]; rfl, by rw [hw]; exact p0.symm⟩
    · exact d.c f h9
  · obtain ⟨f, hf, e⟩ := d.e i hi ht
    by_cases e2 : ky f = (rc, sq)
    · exact ⟨putO f0 x next, (hm _).2 (.inl rfl), by show ky f0 = _; rw [k0, ← e2]; exact e⟩
    · exact ⟨f, (hm f).2 (.inr ⟨hf, e2⟩), e⟩
/-- Whether another handle of the file is open. -/
def lft (of : List Nat) (gn : List Bool) (j k : Nat) : Nat := (List.range k).countP fun n => decide (nth of n = j) && !nth gn n
theorem lft_pos {of : List Nat} {gn : List Bool} {j k n : Nat} (h : n < k) (h1 : nth of n = j) (h2 : nth gn n = false) : ¬ lft of gn j k = 0 := by
  unfold lft
  rw [List.countP_eq_zero]
  intro hh
  exact absurd (hh n (List.mem_range.2 h)) (by simp [h1, h2])
theorem lft_zero {of : List Nat} {gn : List Bool} {j k : Nat} (h : ∀ n, n < k → nth of n = j → nth gn n = true) : lft of gn j k = 0 := by
  unfold lft
  rw [List.countP_eq_zero]
  intro n hn
  have := h n (List.mem_range.1 hn)
  by_cases e : nth of n = j
  · simp [this e]
  · simp [e]
theorem DI.close {next : Int} {L : List Fil} {D : DS} {hd : Int} (h : Ok next L) (d : DI next L D) (he : (closeT L hd).2.2 = 0) : ∃ n, n < D.of.length ∧ hd = (n : Int) + 1 ∧ nth D.gn n = false ∧
    (closeT L hd).2.1 = (decide (lft D.of (D.gn.set n true) (nth D.of n) D.of.length = 0) && (nth D.ow (nth D.of n) || nth D.on n)) ∧
    DI next (closeT L hd).1 { D with gn := D.gn.set n true, ow := D.ow.set (nth D.of n) (if lft D.of (D.gn.set n true) (nth D.of n) D.of.length = 0 then false else nth D.ow (nth D.of n) || nth D.on n) } := by
  obtain ⟨f0, hf0, o, ho, rfl, hc⟩ := close_mem h he
  obtain ⟨n, hn, e1, e2, e3, e4, e5⟩ := d.at h hf0 ho
  have hj := d.lt n hn
  have hjw : nth D.of n < D.ow.length := by rw [d.l3]; exact hj
  have hgl : n < D.gn.length := by rw [d.l2]; exact hn
  refine ⟨n, hn, e1, e2, ?_⟩
  rcases hc with ⟨f1, c1, c2, c3, ⟨q, hq⟩, c4, c5⟩ | ⟨c1, c2, c3⟩
  · have hq2 := (c3 q).1 hq
    obtain ⟨m, hm, q1, q2, q3, q4, q5⟩ := d.at h hf0 hq2.1
    have hmn : n ≠ m := fun e => hq2.2 (by rw [q1, e1, e])
    have hof : nth D.of m = nth D.of n := d.nd _ _ (d.lt m hm) hj (by rw [← q3, e3])
    have hl := lft_pos (gn := D.gn.set n true) hm hof (by rw [nth_set2 hmn]; exact q2)
    rw [if_neg hl, c4]
    refine ⟨by simp [hl], d.nx, d.l1, by simp [d.l2], by simp [d.l3], d.lt, fun k hk hg => ?_, fun f hf p hp k hk e => ?_, fun f hf => ?_, fun i hi ht => ?_, d.nd⟩
    · change nth (D.gn.set n true) k = false at hg
      have hnk : n ≠ k := fun e => by subst e; rw [nth_set1 hgl] at hg; cases hg
      rw [nth_set2 hnk] at hg
      obtain ⟨f, hf, p, hp, p1, p2, p3⟩ := d.a k hk hg
      by_cases e : ky f = ky f0
      · obtain rfl := ky_eqm h hf hf0 e
        exact ⟨f1, (c5 f1).2 (.inl rfl), p, (c3 p).2 ⟨hp, by rw [p1, e1]; omega⟩, p1, p2, c1.trans p3⟩
      · exact ⟨f, (c5 f).2 (.inr ⟨hf, e⟩), p, hp, p1, p2, p3⟩
    · show nth (D.gn.set n true) k = false
      rcases (c5 f).1 hf with rfl | ⟨h9, h8⟩
      · have h7 := (c3 p).1 hp
        rw [nth_set2 (fun e' => h7.2 (by rw [e, e1, e']))]
        exact d.b f0 hf0 p h7.1 k hk e
      · rw [nth_set2 (fun e' => h8 (by rw [(hd_eqm h h9 hf0 hp ho (by rw [e, e1, e'])).1]))]
        exact d.b f h9 p hp k hk e
    · rcases (c5 f).1 hf with rfl | ⟨h9, h8⟩
      · exact ⟨nth D.of n, hj, by rw [c1, e3], by show nth (D.ow.set _ _) _ = _; rw [nth_set1 hjw, c2, e5, e4]⟩
      · obtain ⟨i, hi, i1, i2⟩ := d.c f h9
        exact ⟨i, hi, i1, by show nth (D.ow.set _ _) _ = _; rw [nth_set2 (fun e => h8 (by rw [← i1, ← e, e3]))]; exact i2⟩
    · change nth (D.ow.set _ _) i = true at ht
      by_cases e : nth D.of n = i
      · exact ⟨f1, (c5 f1).2 (.inl rfl), by rw [c1, e3, e]⟩
      · rw [nth_set2 e] at ht
        obtain ⟨f, hf, f1e⟩ := d.e i hi ht
        exact ⟨f, (c5 f).2 (.inr ⟨hf, fun e' => e (d.nd _ _ hj hi (by rw [← e3, ← e', f1e]))⟩), f1e⟩
  · have hl : lft D.of (D.gn.set n true) (nth D.of n) D.of.length = 0 := by
      refine lft_zero fun k hk hof => ?_
      by_cases e : n = k
      · subst e; exact nth_set1 hgl
      · rw [nth_set2 e]
        cases hg : nth D.gn k with
        | true => rfl
        | false =>
          obtain ⟨f, hf, p, hp, p1, p2, p3⟩ := d.a k hk hg
          obtain rfl := ky_eqm h hf hf0 (by rw [p3, hof, e3])
          have := c1 p hp
          rw [p1, e1] at this
          omega
    rw [if_pos hl, c2]
    refine ⟨by simp [hl, e4, e5], d.nx, d.l1, by simp [d.l2], by simp [d.l3], d.lt, fun k hk hg => ?_, fun f hf p hp k hk e => ?_, fun f hf => ?_, fun i hi ht => ?_, d.nd⟩
    · change nth (D.gn.set n true) k = false at hg
      have hnk : n ≠ k := fun e => by subst e; rw [nth_set1 hgl] at hg; cases hg
      rw [nth_set2 hnk] at hg
      obtain ⟨f, hf, p, hp, p1, p2, p3⟩ := d.a k hk hg
      refine ⟨f, (c3 f).2 ⟨hf, fun e => ?_⟩, p, hp, p1, p2, p3⟩
      obtain rfl := ky_eqm h hf hf0 e
      have := c1 p hp
      rw [p1, e1] at this
      omega
    · show nth (D.gn.set n true) k = false
      obtain ⟨h9, h8⟩ := (c3 f).1 hf
      rw [nth_set2 (fun e' => h8 (by rw [(hd_eqm h h9 hf0 hp ho (by rw [e, e1, e'])).1]))]
      exact d.b f h9 p hp k hk e
    · obtain ⟨h9, h8⟩ := (c3 f).1 hf
      obtain ⟨i, hi, i1, i2⟩ := d.c f h9
      exact ⟨i, hi, i1, by show nth (D.ow.set _ _) _ = _; rw [nth_set2 (fun e => h8 (by rw [← i1, ← e, e3]))]; exact i2⟩
    · change nth (D.ow.set _ _) i = true at ht
      by_cases e : nth D.of n = i
      · subst e
        rw [nth_set1 hjw] at ht
        cases ht
      · rw [nth_set2 e] at ht
        obtain ⟨f, hf, f1e⟩ := d.e i hi ht
        exact ⟨f, (c3 f).2 ⟨hf, fun e' => e (d.nd _ _ hj hi (by rw [← e3, ← e', f1e]))⟩, f1e⟩
theorem may_same {next : Int} {L : List Fil} {D : DS} {hd : Int} {q : Lock} {n : Nat} {kp : Bool → Bool → Bool} (h : Ok next L) (d : DI next L D) (he : mayT L hd q n kp = 0) : (∃ n, n < D.of.length ∧ hd = (n : Int) + 1 ∧ nth D.gn n = false) ∧ DI next L D := by
  obtain ⟨f0, hx, u⟩ := may_mem h he
  exact d.same h rfl hx u
theorem DI.act {next : Int} {L : List Fil} {D : DS} {a : HAct} (h : Ok next L) (d : DI next L D) (hk : ¬ a.kd = 0) (hk6 : 0 ≤ a.kd ∧ a.kd ≤ 6) (he : (doT next L a).2.2.2 = 0) : ∃ n, n < D.of.length ∧ a.hd = (n : Int) + 1 ∧ nth D.gn n = false ∧
    (¬ a.kd = 1 → ¬ a.kd = 2 → DI (doT next L a).2.1 (doT next L a).1 D) ∧
    (a.kd = 2 → DI (doT next L a).2.1 (doT next L a).1 { D with ow := D.ow.set (nth D.of n) a.fl }) ∧
    (a.kd = 1 → (doT next L a).2.2.1 = (if (decide (lft D.of (D.gn.set n true) (nth D.of n) D.of.length = 0) && (nth D.ow (nth D.of n) || nth D.on n)) = true then 1 else 0) ∧
      DI (doT next L a).2.1 (doT next L a).1 { D with gn := D.gn.set n true, ow := D.ow.set (nth D.of n) (if lft D.of (D.gn.set n true) (nth D.of n) D.of.length = 0 then false else nth D.ow (nth D.of n) || nth D.on n) }) := by
  unfold doT at he ⊢
  rw [if_neg hk] at he ⊢
  by_cases h1 : a.kd = 1
  · rw [if_pos h1] at he ⊢
    obtain ⟨n, n1, n2, n3, n4, n5⟩ := d.close h he
    exact ⟨n, n1, n2, n3, fun e => absurd h1 e, fun e => by omega, fun _ => ⟨by rw [← n4], n5⟩⟩
  rw [if_neg h1] at he ⊢
  by_cases h2 : a.kd = 2
  · rw [if_pos h2] at he ⊢
    obtain ⟨n, n1, n2, n3, n4⟩ := d.mark h he
    exact ⟨n, n1, n2, n3, fun _ e => absurd h2 e, fun _ => n4, fun e => absurd e h1⟩
  rw [if_neg h2] at he ⊢
  by_cases h3 : a.kd = 3
  · rw [if_pos h3] at he ⊢
    obtain ⟨f0, f1, hp, hx, u⟩ := lock_mem h he
    obtain ⟨⟨n, n1, n2, n3⟩, n4⟩ := d.same h hp hx u
    exact ⟨n, n1, n2, n3, fun _ _ => n4, fun e => absurd e h2, fun e => absurd e h1⟩
  rw [if_neg h3] at he ⊢
  by_cases h4 : a.kd = 4
  · rw [if_pos h4] at he ⊢
    obtain ⟨f0, f1, hp, hx, u⟩ := unlock_mem h he
    obtain ⟨⟨n, n1, n2, n3⟩, n4⟩ := d.same h hp hx u
    exact ⟨n, n1, n2, n3, fun _ _ => n4, fun e => absurd e h2, fun e => absurd e h1⟩
  rw [if_neg h4] at he ⊢
  by_cases h5 : a.kd = 5
  · rw [if_pos h5] at he ⊢
    obtain ⟨⟨n, n1, n2, n3⟩, n4⟩ := may_same h d he
    exact ⟨n, n1, n2, n3, fun _ _ => n4, fun e => absurd e h2, fun e => absurd e h1⟩
  rw [if_neg h5] at he ⊢
  have h6 : a.kd = 6 := by omega
  rw [if_pos h6] at he ⊢
  obtain ⟨⟨n, n1, n2, n3⟩, n4⟩ := may_same h d he
  exact ⟨n, n1, n2, n3, fun _ _ => n4, fun e => absurd e h2, fun e => absurd e h1⟩
end Go.Proofs

namespace Go.Proofs
open Go Go.RowKit Gx
set_option linter.unusedVariables false
set_option linter.unusedSimpArgs false
attribute [local irreducible] Go.Calls Gx.S Gx.O Gx.D Gx.OpP Gx.OpQ Gx.OpH

theorem sl_37 : tsl Try.prog 37 = some (4, 1, 1) := by kernel_rfl
theorem zr_4 : tzero Try.prog 4 = some [.bool false] := by kernel_rfl


def kyV (p : Int × Int) : List Value := [.int .i64 p.1, .int .i64 p.2]
def boV (b : Bool) : List Value := [.bool b]
def naV (n : Nat) : List Value := [.int .i64 (n : Int)]
structure DA where
  fa : Option Addr
  fc : Nat
  wa : Option Addr
  wc : Nat
  na : Option Addr
  nc : Nat
  ga : Option Addr
  gc : Nat
  oa : Option Addr
  oc : Nat
  nf : Nat
  nn : Nat
section
variable {w0 w : World} {M : List Nat} {As As' : List HA} {a : Option Addr} {cap n t sz g : Nat} {xs : List Value}
theorem HS.to_own1 {n' : Nat} (h : HS w0 M As w) (hp : Pick As (.blk g t (cap * sz) xs) As') (ha : a = some ⟨g, 0, none⟩) (hl : xs.length = n * sz) (hn : n ≤ cap) (hc : cap ≤ maxLen) : HS w0 M (.own (.slice a n cap) t sz n xs :: As') w := by
  subst ha
  exact HS.own_shut (h.pick hp) hl hn hc
end
end Go.Proofs

/- Chapter 25, plain: a handle opened on a file that nobody has open, another one beside it, and closed again. No program here. -/
namespace Go.Proofs
open Go Go.RowKit Gx
set_option linter.unusedVariables false
set_option linter.unusedSimpArgs false
end Go.Proofs

namespace Go.Proofs
open Go Go.RowKit Gx
set_option linter.unusedVariables false
set_option linter.unusedSimpArgs false
attribute [local irreducible] Go.Calls Gx.S Gx.O Gx.D Gx.OpP Gx.OpQ Gx.OpH



end Go.Proofs

/- Chapter 25, plain: the state of a file, and which handles could lock and read it together. No program here. -/
namespace Go.Proofs
open Go Go.RowKit Gx
set_option linter.unusedVariables false
set_option linter.unusedSimpArgs false
def bitsI (f : Nat → Bool) : Int := (if f 1 = true then 1 else 0) + (if f 2 = true then 2 else 0) + (if f 4 = true then 4 else 0)
theorem bits_all : ([true, false].all fun a => [true, false].all fun b => [true, false].all fun c => (List.range 8).all fun x =>
    decide (Gx.bits .or .i64 ((if a = true then 1 else 0) + (if b = true then 2 else 0) + (if c = true then 4 else 0)) (x : Int) = (if (a || hasB (x : Int) 1) = true then 1 else 0) + (if (b || hasB (x : Int) 2) = true then 2 else 0) + (if (c || hasB (x : Int) 4) = true then 4 else 0)) &&
    decide (Gx.bits .and .i64 ((if a = true then 1 else 0) + (if b = true then 2 else 0) + (if c = true then 4 else 0)) (x : Int) = (if (a && hasB (x : Int) 1) = true then 1 else 0) + (if (b && hasB (x : Int) 2) = true then 2 else 0) + (if (c && hasB (x : Int) 4) = true then 4 else 0))) = true := by decide +kernel
theorem bits_x {a b c : Bool} {x : Int} (hx : 0 ≤ x ∧ x ≤ 7) :
    Gx.bits .or .i64 ((if a = true then 1 else 0) + (if b = true then 2 else 0) + (if c = true then 4 else 0)) x = (if (a || hasB x 1) = true then 1 else 0) + (if (b || hasB x 2) = true then 2 else 0) + (if (c || hasB x 4) = true then 4 else 0) ∧
    Gx.bits .and .i64 ((if a = true then 1 else 0) + (if b = true then 2 else 0) + (if c = true then 4 else 0)) x = (if (a && hasB x 1) = true then 1 else 0) + (if (b && hasB x 2) = true then 2 else 0) + (if (c && hasB x 4) = true then 4 else 0) := by
  have h := bits_all
  simp only [List.all_eq_true] at h
  have h1 := h a (by cases a <;> simp) b (by cases b <;> simp) c (by cases c <;> simp) x.toNat (List.mem_range.2 (by omega))
  rw [Int.toNat_of_nonneg hx.1] at h1
  simpa using h1
def anyA (l : List Opn) (n : Nat) : Bool := l.any fun o => hasB o.ac n
def allS (l : List Opn) (n : Nat) : Bool := l.all fun o => hasB o.sh n
def orA (l : List Opn) : Int := bitsI (anyA l)
def anS (l : List Opn) : Int := bitsI (allS l)
theorem orA_app {l : List Opn} {o : Opn} (h : 0 ≤ o.ac ∧ o.ac ≤ 7) : Gx.bits .or .i64 (orA l) o.ac = orA (l ++ [o]) := by
  unfold orA bitsI
  rw [(bits_x h).1]
  simp only [anyA, List.any_append, List.any_cons, List.any_nil, Bool.or_false]
  rfl
theorem anS_app {l : List Opn} {o : Opn} (h : 0 ≤ o.sh ∧ o.sh ≤ 7) : Gx.bits .and .i64 (anS l) o.sh = anS (l ++ [o]) := by
  unfold anS bitsI
  rw [(bits_x h).2]
  simp only [allS, List.all_append, List.all_cons, List.all_nil, Bool.and_true]
  rfl
theorem anyA_app {l : List Opn} {o : Opn} {n : Nat} : anyA (l ++ [o]) n = (anyA l n || hasB o.ac n) := by simp [anyA]
theorem allS_app {l : List Opn} {o : Opn} {n : Nat} : allS (l ++ [o]) n = (allS l n && hasB o.sh n) := by simp [allS]
def stV (f : Fil) : List Value := [.bool f.pd, .int .i64 f.op.length, .int .i64 (orA f.op), .int .i64 (anS f.op)]
def exO (ops : List Opn) (n : Nat) : Bool := (nth ops n).lk.any Lock.ex
/-- Whether another one of the first n handles has an exclusive lock. -/
def othX (ops : List Opn) (i n : Nat) : Bool := (List.range n).any fun m => decide (m ≠ i) && exO ops m
theorem othX_succ {ops : List Opn} {i n : Nat} : othX ops i (n + 1) = (othX ops i n || (decide (n ≠ i) && exO ops n)) := by
  unfold othX
  rw [List.range_succ, List.any_append, List.any_cons, List.any_nil, Bool.or_false]
theorem othX_hit {ops : List Opn} {i n m : Nat} (h : m < n) (hi : m ≠ i) (he : exO ops m = true) : othX ops i n = true := by
  unfold othX
  rw [List.any_eq_true]
  exact ⟨m, List.mem_range.2 h, by simp [hi, he]⟩
def frB (ops : List Opn) (i : Nat) : Bool := hasB (nth ops i).ac 1 && !othX ops i ops.length
def rowF (ops : List Opn) (i : Nat) : List Bool := (List.range ops.length).map fun k => frB ops i && frB ops k
theorem rowF_len {ops : List Opn} {i : Nat} : (rowF ops i).length = ops.length := by simp [rowF]
theorem rowF_take {ops : List Opn} {i k : Nat} (h : k < ops.length) : (rowF ops i).take (k + 1) = (rowF ops i).take k ++ [frB ops i && frB ops k] := by
  rw [take_succ_nth (by rw [rowF_len]; exact h)]
  congr 2
  apply nth_eq
  unfold rowF
  rw [List.getElem?_map, List.getElem?_range h]
  rfl
/-- A row of truth values of its own. -/
structure BR where
  a : Option Addr
  c : Nat
  l : List Bool
instance : Inhabited BR := ⟨⟨none, 0, []⟩⟩
def brV (r : BR) : List Value := [.slice r.a r.l.length r.c]
abbrev brS (r : BR) : HA := .own (.slice r.a r.l.length r.c) 4 1 r.l.length (r.l.flatMap boV)
theorem br1 (r : BR) : (brV r).length = 1 := rfl
theorem br_len {l : List BR} : (l.flatMap brV).length = l.length * 1 := flat_length br1 l
section
variable {w0 w : World} {M : List Nat} {As : List HA}
theorem HS.br_nils : ∀ {n : Nat}, HS w0 M As w → HS w0 M (.star ((List.replicate n (default : BR)).map brS) :: As) w
  | 0, h => h.star_nil
  | n + 1, h => (HS.own_nil (HS.br_nils (n := n) h) 4 1).star_cons
end
theorem br_zero (n : Nat) : zrow [.slice none 0 0] (n * 1) = (List.replicate n (default : BR)).flatMap brV := by
  rw [Nat.mul_one, zrow_one]
  induction n with
  | zero => rfl
  | succ n ih => rw [List.replicate_succ, List.replicate_succ, List.flatMap_cons, ih]; rfl
theorem br_set {l : List BR} {i : Nat} {r x : BR} {v : List Value} (h : i < l.length) (hv : v = brV x) : setMany ((l.set i r).flatMap brV) (i * 1) v = (l.set i x).flatMap brV := by
  subst hv
  have h9 := flat_set (vals := brV) br1 (l.set i r) i 0 (brV x) _ x (nth_get (by rw [List.length_set]; exact h)) (by simp [brV, setMany]) (by simp [brV])
  rw [Nat.add_zero, List.set_set] at h9
  exact h9
end Go.Proofs

namespace Go.Proofs
open Go Go.RowKit Gx
set_option linter.unusedVariables false
set_option linter.unusedSimpArgs false
attribute [local irreducible] Go.Calls Gx.S Gx.O Gx.D Gx.OpP Gx.OpQ Gx.OpH

theorem zr_92 : tzero Try.prog 92 = some [.bool false, .int .i64 0, .int .i64 0, .int .i64 0] := by kernel_rfl
theorem fn_85 : isFn Try.prog 85 = true := by kernel_rfl
theorem pl_92 : tplaces Try.prog 92 = some [(0, 1), (1, 1), (2, 1), (3, 1)] := by kernel_rfl
theorem sz_92 : tsz Try.prog 92 = some (4, true) := by kernel_rfl
theorem fd_92_2 : tfd Try.prog 92 2 = some (2, 3) := by kernel_rfl
theorem fd_92_3 : tfd Try.prog 92 3 = some (3, 3) := by kernel_rfl


theorem fErr_6 {next : Int} {L : List LFil} {rc sq : Int} (hc : (chkT next (pls L)).2 = 0) (hr : refE rc sq = 0) (hb : ¬ bsF' (cmps (pls L) rc sq) = true) : fErr next (pls L) rc sq = 6 := by
  rw [fErr, if_pos hc, if_pos hr]
  by_cases h : ixI (atB (pls L) rc sq) < 0
  · rw [if_pos h]
  · obtain ⟨i, _, _, h9, _⟩ := at_hit (chk_ok hc) (Int.not_lt.1 h)
    exact absurd h9 hb
theorem fErr_f {next : Int} {L : List LFil} {rc sq : Int} (h : fErr next (pls L) rc sq = 0) : (chkT next (pls L)).2 = 0 ∧ refE rc sq = 0 ∧ bsF' (cmps (pls L) rc sq) = true ∧ bsL (cmps (pls L) rc sq) < L.length ∧ ixI (atB (pls L) rc sq) = (bsL (cmps (pls L) rc sq) : Int) := by
  rw [fErr] at h
  split at h
  · rename_i hc
    split at h
    · rename_i hr
      split at h
      · exact absurd h (by decide)
      · rename_i hn
        obtain ⟨i, h1, h2, h3, h4⟩ := at_hit (chk_ok hc) (Int.not_lt.1 hn)
        exact ⟨hc, hr, h3, by omega, by rw [h1, h4]⟩
    · rename_i hr; exact absurd h hr
  · rename_i hc; exact absurd h hc
theorem fErr_ok {next : Int} {L : List LFil} {rc sq : Int} (hc : (chkT next (pls L)).2 = 0) (hr : refE rc sq = 0) (hb : bsF' (cmps (pls L) rc sq) = true) : fErr next (pls L) rc sq = 0 := by
  rw [fErr, if_pos hc, if_pos hr, if_neg]
  intro hn
  exact at_miss (chk_ok hc) (by omega) hb
theorem file_V {next : Int} {L : List Fil} {f : LFil} {p : Nat} (h : Ok next L) (hp : p < L.length) (hf : f.pl = nth L p) : 0 < f.op.length ∧ f.op.length ≤ 32 ∧ ∀ k, k < f.op.length → (0 ≤ (nth f.op k).ac ∧ (nth f.op k).ac ≤ 7) ∧ (0 ≤ (nth f.op k).sh ∧ (nth f.op k).sh ≤ 7) ∧ (nth f.op k).lk.length ≤ 16 := by
  have hl : (nth L p).op.length = f.op.length := by rw [← hf]; simp [LFil.pl]
  refine ⟨by rw [← hl]; exact (nth_Ok h hp).ne, ?_, fun k hk => ?_⟩
  · have h9 := cntT_mem (mem_nth hp)
    have h8 := h.cnt
    omega
  · have h9 := (nth_Ok h hp).op (nth f.op k).pl (by rw [← hf]; exact List.mem_map.2 ⟨_, mem_nth hk, rfl⟩)
    have h8 := openE_r h9.1
    exact ⟨by have := h8.1; have := h8.2.1; exact ⟨by show 0 ≤ (nth f.op k).pl.ac; omega, h8.2.1⟩, h8.2.2, h9.2.2⟩

set_option maxRecDepth 20000 in
theorem d85 (w : World) (next : Int) (a : Option Addr) (cap : Nat) (L : List LFil) (rc sq : Int) (hs : Ft w [] a L) (hm : L.length ≤ 1000) (hmo : ∀ f ∈ L, f.op.length ≤ 1000) (hz : ¬ (chkT next (pls L)).2 = 0) : Calls Try.prog 85 #[.agg #[.int .i64 next, .slice a L.length cap], .agg #[.int .i64 rc, .int .i64 sq]] w fun en w' => en = .returned (.tuple #[.agg #[.int .i64 0, .int .i64 0, .bool false, .slice none 0 0], .int .i64 (fErr next (pls L) rc sq)]) ∧ Below w.heap.size w w' := by
  refine enter (args := [_, _]) Try.func85 Try.ntmps85 rfl rfl (HS.refl w []) ?_
  refine s_seq ?_
  refine s_region ?_
  refine o_h (h_box rfl rfl) rfl (fun b1 _ => ?_)
  refine o_h (h_box rfl rfl) rfl (fun b2 _ => ?_)
  refine o_h (h_alloc rfl zr_77) rfl (fun b3 _ => ?_)
  refine o_p (p_pure rfl) rfl ?_
  refine o_nil ?_
  refine s_seq ?_
  refine s_region ?_
  refine o_q (q_loadn rfl rfl sz_26 aPk rfl) rfl ?_
  refine o_q (q_call rfl fn_80 rfl (fun w1 h1 => d80 w1 next a cap L (hs.later h1) hm hmo hz)) rfl ?_
  refine o_p (p_pure rfl) rfl ?_
  refine o_p (p_pure rfl) rfl ?_
  refine o_p (p_pure rfl) rfl ?_
  refine o_p (p_pure rfl) rfl ?_
  refine o_p (p_pure rfl) rfl ?_
  refine o_nil ?_
  refine s_seq ?_
  refine s_seq ?_
  refine s_region ?_
  refine o_p (p_pure rfl) rfl ?_
  refine o_q (q_loadn rfl rfl sz_42 aPk rfl) rfl ?_
  refine o_q (q_call rfl fn_55 rfl (fun w1 h1 => c55 w1 rc sq)) rfl ?_
  refine o_h (h_buildSlice (cs := [_, _]) rfl rfl sl_146 zr_28 rfl rfl rfl) rfl (fun b4 _ => ?_)
  refine o_q (q_call rfl fn_52 rfl (fun w1 h1 => f52 h1 aPk (by rfl) (by rfl) (by decide))) rfl ?_
  refine o_p (p_pure rfl) rfl ?_
  refine o_nil ?_
  refine s_seq ?_
  refine s_region ?_
  refine o_p (p_pure rfl) rfl ?_
  refine o_p (p_pure rfl) rfl ?_
  refine o_nil ?_
  refine s_cond rfl (fun h5 => ?_) (fun h5 => ?_)
  · try simp only [decide_eq_true_eq, decide_eq_false_iff_not, Bool.not_eq_true', Bool.not_eq_false', Bool.and_eq_true, Bool.or_eq_true, Bool.and_eq_false_iff, Bool.or_eq_false_iff, Bool.not_true, Bool.not_false] at h5
    refine s_seq ?_
    refine s_region ?_
    refine o_p (p_build (cs := [_, _, _, _]) rfl rfl pl_77 zr_77 rfl) rfl ?_
    refine o_p (p_pure rfl) rfl ?_
    refine o_h0 (h_store rfl rfl rfl sz_77 rfl aPt (by simp only [setMany_length, List.length_set, List.length_cons, List.length_nil, List.length_map]; omega) rfl) (fun _ _ => ?_)
    refine o_p (p_pure rfl) rfl ?_
    refine o_nil ?_
    exact s_retv (rs := [.cell 4 77, .tmp 5]) rfl (.cell rfl sz_77 aPk rfl (.tmp rfl (.nil))) (fun w' h' => ⟨by rw [firstV2, if_neg hz, fErr, if_neg hz]; rfl, h'.below⟩)
  · try simp only [decide_eq_true_eq, decide_eq_false_iff_not, Bool.not_eq_true', Bool.not_eq_false', Bool.and_eq_true, Bool.or_eq_true, Bool.and_eq_false_iff, Bool.or_eq_false_iff, Bool.not_true, Bool.not_false] at h5
    exfalso; have hq := h5; rw [firstV2, if_neg hz] at hq; exact hz hq

set_option maxRecDepth 20000 in
theorem d85b (w : World) (next : Int) (a : Option Addr) (cap : Nat) (L : List LFil) (rc sq : Int) (hs : Ft w [] a L) (hm : L.length ≤ 1000) (hmo : ∀ f ∈ L, f.op.length ≤ 1000) (hz : (chkT next (pls L)).2 = 0) (he : ¬ (fErr next (pls L) rc sq) = 0) : Calls Try.prog 85 #[.agg #[.int .i64 next, .slice a L.length cap], .agg #[.int .i64 rc, .int .i64 sq]] w fun en w' => en = .returned (.tuple #[.agg #[.int .i64 0, .int .i64 0, .bool false, .slice none 0 0], .int .i64 (fErr next (pls L) rc sq)]) ∧ Below w.heap.size w w' := by
  refine enter (args := [_, _]) Try.func85 Try.ntmps85 rfl rfl (HS.refl w []) ?_
  refine s_seq ?_
  refine s_region ?_
  refine o_h (h_box rfl rfl) rfl (fun b1 _ => ?_)
  refine o_h (h_box rfl rfl) rfl (fun b2 _ => ?_)
  refine o_h (h_alloc rfl zr_77) rfl (fun b3 _ => ?_)
  refine o_p (p_pure rfl) rfl ?_
  refine o_nil ?_
  refine s_seq ?_
  refine s_region ?_
  refine o_q (q_loadn rfl rfl sz_26 aPk rfl) rfl ?_
  refine o_h (h_call rfl fn_80 rfl (fun w1 h1 => c80 w1 next a cap L (hs.later h1) hm hmo hz)) rfl (fun ⟨bt, ⟨ca, cc⟩, N⟩ hgc => ?_)
  refine o_p (p_pure rfl) rfl ?_
  dsimp only at hgc ⊢
  have hNL : N.length = L.length := same_len hgc
  have hV32 := VW.lens (chk_ok hz).vw
  have hNo : ∀ f ∈ N, f.op.length ≤ 1000 := fun f hf => by have h9 := (VW.lens (L := N) (by rw [hgc]; exact (chk_ok hz).vw)).2 f hf; omega
  refine o_p (p_pure rfl) rfl ?_
  refine o_p (p_pure rfl) rfl ?_
  refine o_p (p_pure rfl) rfl ?_
  refine o_p (p_pure rfl) rfl ?_
  refine o_nil ?_
  refine s_seq ?_
  refine s_seq ?_
  refine s_region ?_
  refine o_p (p_pure rfl) rfl ?_
  refine o_q (q_loadn rfl rfl sz_42 aPk rfl) rfl ?_
  refine o_q (q_call rfl fn_55 rfl (fun w1 h1 => c55 w1 rc sq)) rfl ?_
  refine o_h (h_buildSlice (cs := [_, _]) rfl rfl sl_146 zr_28 rfl rfl rfl) rfl (fun b4 _ => ?_)
  refine o_q (q_call rfl fn_52 rfl (fun w1 h1 => f52 h1 aPk (by rfl) (by rfl) (by decide))) rfl ?_
  refine o_p (p_pure rfl) rfl ?_
  refine o_nil ?_
  refine s_seq ?_
  refine s_region ?_
  refine o_p (p_pure rfl) rfl ?_
  refine o_p (p_pure rfl) rfl ?_
  refine o_nil ?_
  refine s_cond rfl (fun h5 => ?_) (fun h5 => ?_)
  · try simp only [decide_eq_true_eq, decide_eq_false_iff_not, Bool.not_eq_true', Bool.not_eq_false', Bool.and_eq_true, Bool.or_eq_true, Bool.and_eq_false_iff, Bool.or_eq_false_iff, Bool.not_true, Bool.not_false] at h5
    have hr : ¬ refE rc sq = 0 := by have hq := h5; rw [firstV2, if_pos rfl] at hq; exact hq
    refine s_seq ?_
    refine s_region ?_
    refine o_p (p_build (cs := [_, _, _, _]) rfl rfl pl_77 zr_77 rfl) rfl ?_
    refine o_p (p_pure rfl) rfl ?_
    refine o_h0 (h_store rfl rfl rfl sz_77 rfl aPt (by simp only [setMany_length, List.length_set, List.length_cons, List.length_nil, List.length_map]; omega) rfl) (fun _ _ => ?_)
    refine o_p (p_pure rfl) rfl ?_
    refine o_nil ?_
    exact s_retv (rs := [.cell 4 77, .tmp 5]) rfl (.cell rfl sz_77 aPk rfl (.tmp rfl (.nil))) (fun w' h' => ⟨by rw [firstV2, if_pos rfl, fErr, if_pos hz, if_neg hr]; rfl, h'.below⟩)
  · try simp only [decide_eq_true_eq, decide_eq_false_iff_not, Bool.not_eq_true', Bool.not_eq_false', Bool.and_eq_true, Bool.or_eq_true, Bool.and_eq_false_iff, Bool.or_eq_false_iff, Bool.not_true, Bool.not_false] at h5
    have hr : refE rc sq = 0 := by have hq := h5; rw [firstV2, if_pos rfl] at hq; exact hq
    refine s_skip ?_
    refine s_seq ?_
    refine s_region ?_
    refine o_p (p_pure rfl) rfl ?_
    refine o_q (q_loadn rfl rfl sz_42 aPk rfl) rfl ?_
    refine o_q (q_call rfl fn_114 rfl (fun w1 h1 => by have h9 := c114 w1 bt ca cc N rc sq (h1.rd_blk (Mc := []) aPk rfl (by simp)) (HS.ft (a := ca) (cap := cc) (l := N) h1 aPk) (by omega) hNo; rw [hgc] at h9; exact h9)) rfl ?_
    refine o_p (p_pure rfl) rfl ?_
    refine o_p (p_pure rfl) rfl ?_
    refine o_p (p_pure rfl) rfl ?_
    refine o_p (p_pure rfl) rfl ?_
    refine o_p (p_pure rfl) rfl ?_
    refine o_nil ?_
    refine s_seq ?_
    refine s_seq ?_
    refine s_region ?_
    refine o_p (p_pure rfl) rfl ?_
    refine o_p (p_pure rfl) rfl ?_
    refine o_nil ?_
    refine s_cond rfl (fun h6 => ?_) (fun h6 => ?_)
    · try simp only [decide_eq_true_eq, decide_eq_false_iff_not, Bool.not_eq_true', Bool.not_eq_false', Bool.and_eq_true, Bool.or_eq_true, Bool.and_eq_false_iff, Bool.or_eq_false_iff, Bool.not_true, Bool.not_false] at h6
      have hb : ¬ bsF' (cmps (pls L) rc sq) = true := by have hq := h6; simp [hq]
      refine s_seq ?_
      refine s_weaken (L' := [(4, _), (5, _), (6, _), (8, _)]) aSx (fun _ h => h) ?_
      refine s_region ?_
      refine o_p (p_build (cs := [_, _, _, _]) rfl rfl pl_77 zr_77 rfl) rfl ?_
      refine o_h0 (h_store rfl rfl rfl sz_77 rfl aPt (by simp only [setMany_length, List.length_set, List.length_cons, List.length_nil, List.length_map]; omega) rfl) (fun _ _ => ?_)
      refine o_p (p_pure rfl) rfl ?_
      refine o_nil ?_
      exact s_retv (rs := [.cell 4 77, .tmp 5]) rfl (.cell rfl sz_77 aPk rfl (.tmp rfl (.nil))) (fun w' h' => ⟨by rw [fErr_6 hz hr hb]; rfl, h'.below⟩)
    · try simp only [decide_eq_true_eq, decide_eq_false_iff_not, Bool.not_eq_true', Bool.not_eq_false', Bool.and_eq_true, Bool.or_eq_true, Bool.and_eq_false_iff, Bool.or_eq_false_iff, Bool.not_true, Bool.not_false] at h6
      exfalso; exact he (fErr_ok hz hr h6)

theorem q85 (w : World) (next : Int) (a : Option Addr) (cap : Nat) (L : List LFil) (rc sq : Int) (hs : Ft w [] a L) (hm : L.length ≤ 1000) (hmo : ∀ f ∈ L, f.op.length ≤ 1000) (he : ¬ (fErr next (pls L) rc sq) = 0) : Calls Try.prog 85 #[.agg #[.int .i64 next, .slice a L.length cap], .agg #[.int .i64 rc, .int .i64 sq]] w fun en w' => en = .returned (.tuple #[.agg #[.int .i64 0, .int .i64 0, .bool false, .slice none 0 0], .int .i64 (fErr next (pls L) rc sq)]) ∧ Below w.heap.size w w' := by
  rcases Classical.em ((chkT next (pls L)).2 = 0) with hz | hz
  · exact d85b w next a cap L rc sq hs hm hmo hz he
  · exact d85 w next a cap L rc sq hs hm hmo hz

set_option maxRecDepth 20000 in
set_option maxHeartbeats 1000000 in
theorem e85 (w : World) (next : Int) (a : Option Addr) (cap : Nat) (L : List LFil) (rc sq : Int) (hs : Ft w [] a L) (hm : L.length ≤ 1000) (hmo : ∀ f ∈ L, f.op.length ≤ 1000) (h0 : (fErr next (pls L) rc sq) = 0) : Calls Try.prog 85 #[.agg #[.int .i64 next, .slice a L.length cap], .agg #[.int .i64 rc, .int .i64 sq]] w fun en w' => ∃ f : LFil, en = .returned (.tuple #[.agg #[.int .i64 f.rc, .int .i64 f.sq, .bool f.pd, .slice f.oa f.op.length f.oc], .int .i64 0]) ∧ f.pl = (nth (pls L) (bsL (cmps (pls L) rc sq))) ∧ HS w [] [.opens f.oa f.oc f.op] w' := by
  obtain ⟨hz, hr, hb, hp, hix⟩ := fErr_f h0
  refine enter (args := [_, _]) Try.func85 Try.ntmps85 rfl rfl (HS.refl w []) ?_
  refine s_seq ?_
  refine s_region ?_
  refine o_h (h_box rfl rfl) rfl (fun b1 _ => ?_)
  refine o_h (h_box rfl rfl) rfl (fun b2 _ => ?_)
  refine o_h (h_alloc rfl zr_77) rfl (fun b3 _ => ?_)
  refine o_p (p_pure rfl) rfl ?_
  refine o_nil ?_
  refine s_seq ?_
  refine s_region ?_
  refine o_q (q_loadn rfl rfl sz_26 aPk rfl) rfl ?_
  refine o_h (h_call rfl fn_80 rfl (fun w1 h1 => c80 w1 next a cap L (hs.later h1) hm hmo hz)) rfl (fun ⟨bt, ⟨ca, cc⟩, N⟩ hgc => ?_)
  refine o_p (p_pure rfl) rfl ?_
  dsimp only at hgc ⊢
  have hNL : N.length = L.length := same_len hgc
  have hV32 := VW.lens (chk_ok hz).vw
  have hNo : ∀ f ∈ N, f.op.length ≤ 1000 := fun f hf => by have h9 := (VW.lens (L := N) (by rw [hgc]; exact (chk_ok hz).vw)).2 f hf; omega
  refine o_p (p_pure rfl) rfl ?_
  refine o_p (p_pure rfl) rfl ?_
  refine o_p (p_pure rfl) rfl ?_
  refine o_p (p_pure rfl) rfl ?_
  refine o_nil ?_
  refine s_seq ?_
  refine s_seq ?_
  refine s_region ?_
  refine o_p (p_pure rfl) rfl ?_
  refine o_q (q_loadn rfl rfl sz_42 aPk rfl) rfl ?_
  refine o_q (q_call rfl fn_55 rfl (fun w1 h1 => c55 w1 rc sq)) rfl ?_
  refine o_h (h_buildSlice (cs := [_, _]) rfl rfl sl_146 zr_28 rfl rfl rfl) rfl (fun b4 _ => ?_)
  refine o_q (q_call rfl fn_52 rfl (fun w1 h1 => f52 h1 aPk (by rfl) (by rfl) (by decide))) rfl ?_
  refine o_p (p_pure rfl) rfl ?_
  refine o_nil ?_
  refine s_seq ?_
  refine s_region ?_
  refine o_p (p_pure rfl) rfl ?_
  refine o_p (p_pure rfl) rfl ?_
  refine o_nil ?_
  refine s_cond rfl (fun h5 => ?_) (fun h5 => ?_)
  · try simp only [decide_eq_true_eq, decide_eq_false_iff_not, Bool.not_eq_true', Bool.not_eq_false', Bool.and_eq_true, Bool.or_eq_true, Bool.and_eq_false_iff, Bool.or_eq_false_iff, Bool.not_true, Bool.not_false] at h5
    exfalso; have hq := h5; rw [firstV2, if_pos rfl] at hq; exact hq hr
  · try simp only [decide_eq_true_eq, decide_eq_false_iff_not, Bool.not_eq_true', Bool.not_eq_false', Bool.and_eq_true, Bool.or_eq_true, Bool.and_eq_false_iff, Bool.or_eq_false_iff, Bool.not_true, Bool.not_false] at h5
    refine s_skip ?_
    refine s_seq ?_
    refine s_region ?_
    refine o_p (p_pure rfl) rfl ?_
    refine o_q (q_loadn rfl rfl sz_42 aPk rfl) rfl ?_
    refine o_q (q_call rfl fn_114 rfl (fun w1 h1 => by have h9 := c114 w1 bt ca cc N rc sq (h1.rd_blk (Mc := []) aPk rfl (by simp)) (HS.ft (a := ca) (cap := cc) (l := N) h1 aPk) (by omega) hNo; rw [hgc] at h9; exact h9)) rfl ?_
    refine o_p (p_pure rfl) rfl ?_
    refine o_p (p_pure rfl) rfl ?_
    refine o_p (p_pure rfl) rfl ?_
    refine o_p (p_pure rfl) rfl ?_
    refine o_p (p_pure rfl) rfl ?_
    refine o_nil ?_
    refine s_seq ?_
    refine s_seq ?_
    refine s_region ?_
    refine o_p (p_pure rfl) rfl ?_
    refine o_p (p_pure rfl) rfl ?_
    refine o_nil ?_
    refine s_cond rfl (fun h6 => ?_) (fun h6 => ?_)
    · try simp only [decide_eq_true_eq, decide_eq_false_iff_not, Bool.not_eq_true', Bool.not_eq_false', Bool.and_eq_true, Bool.or_eq_true, Bool.and_eq_false_iff, Bool.or_eq_false_iff, Bool.not_true, Bool.not_false] at h6
      exfalso; have hq := h6; rw [hb] at hq; cases hq
    · try simp only [decide_eq_true_eq, decide_eq_false_iff_not, Bool.not_eq_true', Bool.not_eq_false', Bool.and_eq_true, Bool.or_eq_true, Bool.and_eq_false_iff, Bool.or_eq_false_iff, Bool.not_true, Bool.not_false] at h6
      have hpN : (bsL (cmps (pls L) rc sq)) < N.length := by omega
      refine s_fact (fun w h => files_addr (l := N) (a := ca) (cap := cc) (by omega) h aPk) (fun hga => ?_)
      obtain ⟨ga, rfl, hcap, hcm⟩ := hga
      refine s_skip ?_
      refine s_seq ?_
      refine s_weaken (L' := [(4, _), (5, _), (6, _), (8, _)]) aSx (fun _ h => h) ?_
      refine s_region ?_
      refine o_p (p_pure rfl) rfl ?_
      refine o_p (p_pure rfl) rfl ?_
      refine o_p (p_fieldAddr rfl rfl fd_106_0 sz_26 rfl) rfl ?_
      refine o_p (p_fieldAddr rfl rfl fd_26_1 sz_24 rfl) rfl ?_
      refine o_q (q_load rfl rfl sz_24 aPk rfl) rfl ?_
      refine o_p (p_pure rfl) rfl ?_
      refine o_p (p_indexAddr rfl rfl rfl sl_24 ((bsL (cmps (pls L) rc sq))) (by omega) (by omega) rfl) rfl ?_
      refine o_q (q_load_atn (nth N (bsL (cmps (pls L) rc sq))).vals rfl rfl sz_77 rfl (fun w h => Rw.rd (HS.ft (a := some ⟨ga, 0, none⟩) (cap := cc) (l := N) h aPk).1 hpN)) rfl ?_
      refine o_h0 (h_store rfl rfl rfl sz_77 rfl aPt (by simp only [setMany_length, List.length_set, List.length_cons, List.length_nil, List.length_map]; omega) rfl) (fun _ _ => ?_)
      refine o_p (p_pure rfl) rfl ?_
      refine o_nil ?_
      exact s_retv (rs := [.cell 4 77, .tmp 5]) rfl (.cell rfl sz_77 aPk rfl (.tmp rfl (.nil))) (fun w' h' => ⟨nth N (bsL (cmps (pls L) rc sq)), rfl, by rw [← nth_pls hpN, hgc], by have h2 := (HS.files_open (a := some ⟨ga, 0, none⟩) (cap := cc) (l := N) h' aPk).tail.sub_open hpN; exact h2.ent aEt⟩)

set_option maxRecDepth 20000 in
theorem q41 (w : World) (next : Int) (a : Option Addr) (cap : Nat) (L : List LFil) (rc sq : Int) (hs : Ft w [] a L) (hm : L.length ≤ 1000) (hmo : ∀ f ∈ L, f.op.length ≤ 1000) (he : ¬ (fErr next (pls L) rc sq) = 0) : Calls Try.prog 41 #[.agg #[.int .i64 next, .slice a L.length cap], .agg #[.int .i64 rc, .int .i64 sq]] w fun en w' => en = .returned (.tuple #[.agg #[.bool false, .int .i64 0, .int .i64 0, .int .i64 0], .int .i64 (fErr next (pls L) rc sq)]) ∧ Below w.heap.size w w' := by
  refine enter (args := [_, _]) Try.func41 Try.ntmps41 rfl rfl (HS.refl w []) ?_
  refine s_seq ?_
  refine s_region ?_
  refine o_h (h_box rfl rfl) rfl (fun b1 _ => ?_)
  refine o_h (h_box rfl rfl) rfl (fun b2 _ => ?_)
  refine o_h (h_alloc rfl zr_92) rfl (fun b3 _ => ?_)
  refine o_p (p_pure rfl) rfl ?_
  refine o_nil ?_
  refine s_seq ?_
  refine s_region ?_
  refine o_q (q_loadn rfl rfl sz_26 aPk rfl) rfl ?_
  refine o_q (q_loadn rfl rfl sz_42 aPk rfl) rfl ?_
  refine o_q (q_call rfl fn_85 rfl (fun w1 h1 => q85 w1 next a cap L rc sq (hs.later h1) hm hmo he)) rfl ?_
  refine o_p (p_pure rfl) rfl ?_
  refine o_p (p_pure rfl) rfl ?_
  refine o_p (p_pure rfl) rfl ?_
  refine o_h (h_alloc rfl zr_77) rfl (fun b4 _ => ?_)
  refine o_h0 (h_store rfl rfl rfl sz_77 rfl aPt (by simp only [setMany_length, List.length_set, List.length_cons, List.length_nil, List.length_map]; omega) rfl) (fun _ _ => ?_)
  refine o_p (p_pure rfl) rfl ?_
  refine o_nil ?_
  refine s_seq ?_
  refine s_seq ?_
  refine s_region ?_
  refine o_p (p_pure rfl) rfl ?_
  refine o_p (p_pure rfl) rfl ?_
  refine o_nil ?_
  refine s_cond rfl (fun h5 => ?_) (fun h5 => ?_)
  · try simp only [decide_eq_true_eq, decide_eq_false_iff_not, Bool.not_eq_true', Bool.not_eq_false', Bool.and_eq_true, Bool.or_eq_true, Bool.and_eq_false_iff, Bool.or_eq_false_iff, Bool.not_true, Bool.not_false] at h5
    refine s_seq ?_
    refine s_region ?_
    refine o_p (p_build (cs := [_, _, _, _]) rfl rfl pl_92 zr_92 rfl) rfl ?_
    refine o_p (p_pure rfl) rfl ?_
    refine o_h0 (h_store rfl rfl rfl sz_92 rfl aPt (by simp only [setMany_length, List.length_set, List.length_cons, List.length_nil, List.length_map]; omega) rfl) (fun _ _ => ?_)
    refine o_p (p_pure rfl) rfl ?_
    refine o_nil ?_
    exact s_retv (rs := [.cell 4 92, .tmp 5]) rfl (.cell rfl sz_92 aPk rfl (.tmp rfl (.nil))) (fun w' h' => ⟨rfl, h'.below⟩)
  · try simp only [decide_eq_true_eq, decide_eq_false_iff_not, Bool.not_eq_true', Bool.not_eq_false', Bool.and_eq_true, Bool.or_eq_true, Bool.and_eq_false_iff, Bool.or_eq_false_iff, Bool.not_true, Bool.not_false] at h5
    exfalso; exact he h5

set_option maxRecDepth 20000 in
set_option maxHeartbeats 1000000 in
theorem e41 (w : World) (next : Int) (a : Option Addr) (cap : Nat) (L : List LFil) (rc sq : Int) (hs : Ft w [] a L) (hm : L.length ≤ 1000) (hmo : ∀ f ∈ L, f.op.length ≤ 1000) (h0 : (fErr next (pls L) rc sq) = 0) : Calls Try.prog 41 #[.agg #[.int .i64 next, .slice a L.length cap], .agg #[.int .i64 rc, .int .i64 sq]] w fun en w' => en = .returned (.tuple #[.agg #[.bool (nth (pls L) (bsL (cmps (pls L) rc sq))).pd, .int .i64 ((nth (pls L) (bsL (cmps (pls L) rc sq))).op.length : Int), .int .i64 (orA (nth (pls L) (bsL (cmps (pls L) rc sq))).op), .int .i64 (anS (nth (pls L) (bsL (cmps (pls L) rc sq))).op)], .int .i64 0]) ∧ Below w.heap.size w w' := by
  obtain ⟨hz, hr, hb, hp, hix⟩ := fErr_f h0
  refine enter (args := [_, _]) Try.func41 Try.ntmps41 rfl rfl (HS.refl w []) ?_
  refine s_seq ?_
  refine s_region ?_
  refine o_h (h_box rfl rfl) rfl (fun b1 _ => ?_)
  refine o_h (h_box rfl rfl) rfl (fun b2 _ => ?_)
  refine o_h (h_alloc rfl zr_92) rfl (fun b3 _ => ?_)
  refine o_p (p_pure rfl) rfl ?_
  refine o_nil ?_
  refine s_seq ?_
  refine s_region ?_
  refine o_q (q_loadn rfl rfl sz_26 aPk rfl) rfl ?_
  refine o_q (q_loadn rfl rfl sz_42 aPk rfl) rfl ?_
  refine o_h (h_call rfl fn_85 rfl (fun w1 h1 => e85 w1 next a cap L rc sq (hs.later h1) hm hmo h0)) rfl (fun f hf => ?_)
  refine o_p (p_pure rfl) rfl ?_
  refine o_p (p_pure rfl) rfl ?_
  refine o_p (p_pure rfl) rfl ?_
  refine o_h (h_alloc rfl zr_77) rfl (fun b4 _ => ?_)
  refine o_h0 (h_store rfl rfl rfl sz_77 rfl aPt (by simp only [setMany_length, List.length_set, List.length_cons, List.length_nil, List.length_map]; omega) rfl) (fun _ _ => ?_)
  refine o_p (p_pure rfl) rfl ?_
  refine o_nil ?_
  refine s_seq ?_
  refine s_seq ?_
  refine s_region ?_
  refine o_p (p_pure rfl) rfl ?_
  refine o_p (p_pure rfl) rfl ?_
  refine o_nil ?_
  refine s_cond rfl (fun h5 => ?_) (fun h5 => ?_)
  · try simp only [decide_eq_true_eq, decide_eq_false_iff_not, Bool.not_eq_true', Bool.not_eq_false', Bool.and_eq_true, Bool.or_eq_true, Bool.and_eq_false_iff, Bool.or_eq_false_iff, Bool.not_true, Bool.not_false] at h5
    exfalso; have hq := h5; simp at hq
  · try simp only [decide_eq_true_eq, decide_eq_false_iff_not, Bool.not_eq_true', Bool.not_eq_false', Bool.and_eq_true, Bool.or_eq_true, Bool.and_eq_false_iff, Bool.or_eq_false_iff, Bool.not_true, Bool.not_false] at h5
    obtain ⟨hf0, hf32, hfV⟩ := file_V (chk_ok hz) (by simpa using hp) hf
    refine s_fact (fun w h => own_addr (show 0 < f.op.length from by omega) (HS.opens_split (a := f.oa) (cap := f.oc) (l := f.op) h aPk) .here) (fun hga => ?_)
    obtain ⟨go, hgo, _, _⟩ := hga
    refine s_skip ?_
    refine s_seq ?_
    refine s_region ?_
    refine o_p (p_fieldAddr rfl rfl fd_77_1 sz_4 rfl) rfl ?_
    refine o_q (q_load rfl rfl sz_4 aPk rfl) rfl ?_
    refine o_p (p_fieldAddr rfl rfl fd_77_2 sz_75 rfl) rfl ?_
    refine o_q (q_load rfl rfl sz_75 aPk rfl) rfl ?_
    refine o_p (p_len_slice rfl rfl Try.underlying75) rfl ?_
    refine o_p (p_build (cs := [_, _, _, _]) rfl rfl pl_92 zr_92 rfl) rfl ?_
    refine o_h (h_alloc rfl zr_92) rfl (fun b6 _ => ?_)
    refine o_h0 (h_store rfl rfl rfl sz_92 rfl aPt (by simp only [setMany_length, List.length_set, List.length_cons, List.length_nil, List.length_map]; omega) rfl) (fun _ _ => ?_)
    refine o_nil ?_
    refine s_seq ?_
    refine s_seq ?_
    refine s_region ?_
    refine o_p (p_fieldAddr rfl rfl fd_77_2 sz_75 rfl) rfl ?_
    refine o_q (q_load rfl rfl sz_75 aPk rfl) rfl ?_
    refine o_p (p_len_slice rfl rfl Try.underlying75) rfl ?_
    refine o_p (p_pure rfl) rfl ?_
    refine o_nil ?_
    refine s_block ?_
    refine s_weaken (L' := [(4, _), (5, _), (8, _), (28, _), (29, _), (30, _)]) aSx (fun _ h => h) ?_
    refine s_loopI (α := Nat) [10, 30, 31, 32, 33, 34, 35, 36, 37, 38, 39, 40, 41, 42, 43, 44, 45, 46] (fun k => [(30, .int .i64 (k : Int))]) (fun k => HS w [] [.blk b6 92 4 [.bool f.pd, .int .i64 (f.op.length : Int), .int .i64 (orA ((plo f.op).take k)), .int .i64 (anS ((plo f.op).take k))], .opens f.oa f.oc f.op, .blk b3 92 4 [.bool false, .int .i64 0, .int .i64 0, .int .i64 0]]) (fun k => k ≤ f.op.length) (fun k => f.op.length - k) 0 (Nat.zero_le _) aSx (fun w h => h.ent aEt) (fun k hk1 => ?_)
    refine s_seq ?_
    refine s_region ?_
    refine o_p (p_pure rfl) rfl ?_
    refine o_nil ?_
    refine s_seq ?_
    refine s_cond rfl (fun h7 => ?_) (fun h7 => ?_)
    · try simp only [decide_eq_true_eq, decide_eq_false_iff_not, Bool.not_eq_true', Bool.not_eq_false', Bool.and_eq_true, Bool.or_eq_true, Bool.and_eq_false_iff, Bool.or_eq_false_iff, Bool.not_true, Bool.not_false] at h7
      have hk : k < f.op.length := by omega
      obtain ⟨hv1, hv2, hv3⟩ := hfV k hk
      have hor : Gx.bits .or .i64 (orA ((plo f.op).take k)) (nth f.op k).ac = orA ((plo f.op).take (k + 1)) := by rw [take_succ_nth (by simpa using hk), ← orA_app (by rw [nth_plo hk]; exact hv1), nth_plo hk]; rfl
      have han : Gx.bits .and .i64 (anS ((plo f.op).take k)) (nth f.op k).sh = anS ((plo f.op).take (k + 1)) := by rw [take_succ_nth (by simpa using hk), ← anS_app (by rw [nth_plo hk]; exact hv2), nth_plo hk]; rfl
      refine s_skip ?_
      refine s_seq ?_
      refine s_block ?_
      refine s_seq ?_
      refine s_region ?_
      refine o_p (p_indexAddr rfl rfl rfl sl_75 (k) (by omega) (by omega) hgo) rfl ?_
      refine o_q (q_load_atn (nth f.op k).vals rfl rfl sz_48 rfl (fun w h j v hv => by have h9 := (HS.ot (a := f.oa) (cap := f.oc) (l := f.op) h aPk).1.rd hk j v hv; rw [hgo] at h9; exact h9)) rfl ?_
      refine o_h (h_alloc rfl zr_48) rfl (fun b8 _ => ?_)
      refine o_h0 (h_store rfl rfl rfl sz_48 rfl aPt (by simp only [setMany_length, List.length_set, List.length_cons, List.length_nil, List.length_map]; omega) rfl) (fun _ _ => ?_)
      refine o_nil ?_
      refine s_seq ?_
      refine s_region ?_
      refine o_p (p_fieldAddr rfl rfl fd_92_2 sz_3 rfl) rfl ?_
      refine o_q (q_load rfl rfl sz_3 aPk rfl) rfl ?_
      refine o_p (p_fieldAddr rfl rfl fd_48_1 sz_3 rfl) rfl ?_
      refine o_q (q_load rfl rfl sz_3 aPk rfl) rfl ?_
      refine o_p (p_pure rfl) rfl ?_
      rw [hor]
      refine o_p (p_fieldAddr rfl rfl fd_92_2 sz_3 rfl) rfl ?_
      refine o_h0 (h_store rfl rfl rfl sz_3 rfl aPt (by simp only [setMany_length, List.length_set, List.length_cons, List.length_nil, List.length_map]; omega) rfl) (fun _ _ => ?_)
      refine o_nil ?_
      refine s_region ?_
      refine o_p (p_fieldAddr rfl rfl fd_92_3 sz_3 rfl) rfl ?_
      refine o_q (q_load rfl rfl sz_3 aPk rfl) rfl ?_
      refine o_p (p_fieldAddr rfl rfl fd_48_2 sz_3 rfl) rfl ?_
      refine o_q (q_load rfl rfl sz_3 aPk rfl) rfl ?_
      refine o_p (p_pure rfl) rfl ?_
      rw [han]
      refine o_p (p_fieldAddr rfl rfl fd_92_3 sz_3 rfl) rfl ?_
      refine o_h0 (h_store rfl rfl rfl sz_3 rfl aPt (by simp only [setMany_length, List.length_set, List.length_cons, List.length_nil, List.length_map]; omega) rfl) (fun _ _ => ?_)
      refine o_nil ?_
      refine s_blk ?_
      refine s_region ?_
      refine o_p (p_pure rfl) rfl ?_
      try (refine o_slot (i64w (by omega) (by omega)) ?_)
      refine o_p (p_pure rfl) rfl ?_
      refine o_nil ?_
      exact s_backI (k + 1) (by omega) (by omega) aSx (fun w h => h.ent aEt)
    · try simp only [decide_eq_true_eq, decide_eq_false_iff_not, Bool.not_eq_true', Bool.not_eq_false', Bool.and_eq_true, Bool.or_eq_true, Bool.and_eq_false_iff, Bool.or_eq_false_iff, Bool.not_true, Bool.not_false] at h7
      have ek : k = (plo f.op).length := by simp; omega
      rw [ek, List.take_length]
      refine s_exit_to rfl ?_
      refine s_seq ?_
      refine s_region ?_
      refine o_q (q_loadn rfl rfl sz_92 aPk rfl) rfl ?_
      refine o_h0 (h_store rfl rfl rfl sz_92 rfl aPt (by simp only [setMany_length, List.length_set, List.length_cons, List.length_nil, List.length_map]; omega) rfl) (fun _ _ => ?_)
      refine o_p (p_pure rfl) rfl ?_
      refine o_nil ?_
      exact s_retv (rs := [.cell 4 92, .tmp 5]) rfl (.cell rfl sz_92 aPk rfl (.tmp rfl (.nil))) (fun w' h' => ⟨by rw [← hf]; simp [LFil.pl]; rfl, h'.below⟩)

set_option maxRecDepth 20000 in
theorem c88 (w : World) (q : Lock) : Calls Try.prog 88 #[.agg #[.int .i64 q.fr, .int .i64 q.cnt, .bool q.ex]] w fun en w' => en = .returned (.bool q.ex) ∧ Below w.heap.size w w' := by
  refine enter (args := [_]) Try.func88 Try.ntmps88 rfl rfl (HS.refl w []) ?_
  refine s_seq ?_
  refine s_region ?_
  refine o_h (h_box rfl rfl) rfl (fun b1 _ => ?_)
  refine o_p (p_pure rfl) rfl ?_
  refine o_nil ?_
  refine s_seq ?_
  refine s_region ?_
  refine o_p (p_fieldAddr rfl rfl fd_62_2 sz_4 rfl) rfl ?_
  refine o_q (q_load rfl rfl sz_4 aPk rfl) rfl ?_
  refine o_p (p_pure rfl) rfl ?_
  refine o_nil ?_
  exact s_retv (rs := [.tmp 2]) rfl (.tmp rfl (.nil)) (fun w' h' => ⟨rfl, h'.below⟩)

set_option maxRecDepth 20000 in
theorem c86 (w : World) (f : LFil) (b i : Nat) (hr : Rd w [] b 3 (.slice f.oa f.op.length f.oc)) (ho : Ot w [] f.oa f.op) (hi : i < f.op.length) (hm : f.op.length ≤ 32) (hV : ∀ k, k < f.op.length → (0 ≤ (nth f.op k).ac ∧ (nth f.op k).ac ≤ 7) ∧ (0 ≤ (nth f.op k).sh ∧ (nth f.op k).sh ≤ 7) ∧ (nth f.op k).lk.length ≤ 16) : Calls Try.prog 86 #[.int .i64 (i : Int), .pointer (some ⟨b, 0, none⟩)] w fun en w' => en = .returned (.bool (frB (plo f.op) i)) ∧ Below w.heap.size w w' := by
  refine enter (args := [_, _]) Try.func86 Try.ntmps86 rfl rfl (HS.refl w []) ?_
  refine s_seq ?_
  refine s_region ?_
  refine o_p (p_pure rfl) rfl ?_
  refine o_nil ?_
  refine s_seq ?_
  refine s_seq ?_
  refine s_region ?_
  refine o_p (p_fieldAddr rfl rfl fd_77_2 sz_75 rfl) rfl ?_
  refine o_q (q_load_old rfl rfl sz_75 (hr)) rfl ?_
  refine o_p (p_len_slice rfl rfl Try.underlying75) rfl ?_
  refine o_p (p_pure rfl) rfl ?_
  refine o_nil ?_
  refine s_block ?_
  refine s_loopI (α := Nat) [3, 4, 5, 9, 10, 11, 12, 13, 14, 15, 16, 17, 18, 19, 20, 21, 22] (fun k => [(9, .int .i64 (k : Int))]) (fun _ => HS w [] []) (fun k => k ≤ f.op.length ∧ othX (plo f.op) i k = false) (fun k => f.op.length - k) 0 ⟨Nat.zero_le _, rfl⟩ aSx (fun w h => h.ent aEt) (fun k hkk => ?_)
  obtain ⟨hk1, hk2⟩ := hkk
  refine s_seq ?_
  refine s_region ?_
  refine o_p (p_pure rfl) rfl ?_
  refine o_nil ?_
  refine s_seq ?_
  refine s_cond rfl (fun h1 => ?_) (fun h1 => ?_)
  · try simp only [decide_eq_true_eq, decide_eq_false_iff_not, Bool.not_eq_true', Bool.not_eq_false', Bool.and_eq_true, Bool.or_eq_true, Bool.and_eq_false_iff, Bool.or_eq_false_iff, Bool.not_true, Bool.not_false] at h1
    have hk : k < f.op.length := by omega
    have hl16 := (hV k hk).2.2
    have hex : exO (plo f.op) k = (nth f.op k).lk.any Lock.ex := by rw [exO, nth_plo hk]; rfl
    refine s_skip ?_
    refine s_seq ?_
    refine s_block ?_
    refine s_seq ?_
    refine s_region ?_
    refine o_p (p_pure rfl) rfl ?_
    refine o_p (p_indexAddr rfl rfl rfl sl_75 (k) (by omega) (by omega) (Rw.some ho.1 (by omega))) rfl ?_
    refine o_q (q_load_oldn _ rfl rfl sz_48 rfl (Rw.rd ho.1 hk)) rfl ?_
    refine o_h (h_alloc rfl zr_48) rfl (fun b2 _ => ?_)
    refine o_p (p_pure rfl) rfl ?_
    refine o_h0 (h_store rfl rfl rfl sz_48 rfl aPt (by simp only [setMany_length, List.length_set, List.length_cons, List.length_nil, List.length_map]; omega) rfl) (fun _ _ => ?_)
    refine o_nil ?_
    refine s_seq ?_
    refine s_region ?_
    refine o_p (p_pure rfl) rfl ?_
    refine o_p (p_pure rfl) rfl ?_
    refine o_p (p_pure rfl) rfl ?_
    refine o_p (p_pure rfl) rfl ?_
    refine o_and 4 17 21 _ _ rfl
      (by
        intro hg3
        have hs4 := hg3; try simp only [decide_eq_true_eq, decide_eq_false_iff_not, Bool.not_eq_true', Bool.not_eq_false', Bool.and_eq_true, Bool.or_eq_true, Bool.and_eq_false_iff, Bool.or_eq_false_iff, Bool.not_true, Bool.not_false] at hs4
        refine o_on 17 _ rfl rfl hg3 ?_
        refine o_p (p_fieldAddr rfl rfl fd_48_4 sz_46 rfl) rfl ?_
        refine o_on 17 _ rfl rfl hg3 ?_
        refine o_q (q_load rfl rfl sz_46 aPk rfl) rfl ?_
        refine o_on 17 _ rfl rfl hg3 ?_
        refine o_q (q_call rfl fn_87 rfl (fun w1 h1 => c87 w1 (nth f.op k).la (nth f.op k).lc (nth f.op k).lk 88 #[] ((nth f.op k).lk.map Lock.ex) ((ho.at hk).later h1) (by omega) (by kernel_rfl) (by simp) (fun m w2 hm2 h2 => by rw [map_getD_nthB hm2]; exact c88 w2 _))) rfl ?_
        refine o_p (p_pickt rfl rfl hg3 rfl) rfl ?_
        refine o_nil ?_
        exact s_joinN 4 21 _ rfl rfl rfl (fun w h => by first | exact h | exact h.ent aEt))
      (by
        intro hg5
        have hs6 := hg5; try simp only [decide_eq_true_eq, decide_eq_false_iff_not, Bool.not_eq_true', Bool.not_eq_false', Bool.and_eq_true, Bool.or_eq_true, Bool.and_eq_false_iff, Bool.or_eq_false_iff, Bool.not_true, Bool.not_false] at hs6
        refine o_off 17 _ rfl rfl hg5 rfl ?_
        refine o_off 17 _ rfl rfl hg5 rfl ?_
        refine o_off 17 _ rfl rfl hg5 rfl ?_
        refine o_p (p_pickf rfl rfl hg5 rfl) rfl ?_
        refine o_nil ?_
        exact s_joinN 4 21 _ rfl rfl rfl (fun w h => by first | exact h | exact h.ent aEt)) ?_
    refine o_nil ?_
    refine s_cond rfl (fun h7 => ?_) (fun h7 => ?_)
    · try simp only [decide_eq_true_eq, decide_eq_false_iff_not, Bool.not_eq_true', Bool.not_eq_false', Bool.and_eq_true, Bool.or_eq_true, Bool.and_eq_false_iff, Bool.or_eq_false_iff, Bool.not_true, Bool.not_false] at h7
      have hoX : othX (plo f.op) i f.op.length = true := by have hq := h7; exact othX_hit (m := k) hk (by omega) (by rw [hex, ← any_map_id]; exact hq.2)
      refine s_seq ?_
      refine s_region ?_
      refine o_p (p_pure rfl) rfl ?_
      refine o_nil ?_
      exact s_retv (rs := [.tmp 3]) rfl (.tmp rfl (.nil)) (fun w' h' => ⟨by rw [frB, nth_plo hi, show (plo f.op).length = f.op.length by simp, hoX]; simp; rfl, h'.below⟩)
    · try simp only [decide_eq_true_eq, decide_eq_false_iff_not, Bool.not_eq_true', Bool.not_eq_false', Bool.and_eq_true, Bool.or_eq_true, Bool.and_eq_false_iff, Bool.or_eq_false_iff, Bool.not_true, Bool.not_false] at h7
      have hk3 : othX (plo f.op) i (k + 1) = false := by have hq := h7; rw [othX_succ, hk2, hex, ← any_map_id]; by_cases e : k = i; (simp [e]); (rcases hq with hq | hq; (exfalso; first | omega | (simp at hq; omega)); (rw [hq]; simp))
      refine s_skip ?_
      refine s_blk ?_
      refine s_region ?_
      refine o_p (p_pure rfl) rfl ?_
      try (refine o_slot (i64w (by omega) (by omega)) ?_)
      refine o_p (p_pure rfl) rfl ?_
      refine o_nil ?_
      exact s_backI (k + 1) (by omega) ⟨by omega, hk3⟩ aSx (fun w h => h.ent aEt)
  · try simp only [decide_eq_true_eq, decide_eq_false_iff_not, Bool.not_eq_true', Bool.not_eq_false', Bool.and_eq_true, Bool.or_eq_true, Bool.and_eq_false_iff, Bool.or_eq_false_iff, Bool.not_true, Bool.not_false] at h1
    obtain rfl : k = f.op.length := by omega
    have hvi := hV i hi
    refine s_exit_to rfl ?_
    refine s_seq ?_
    refine s_region ?_
    refine o_p (p_fieldAddr rfl rfl fd_77_2 sz_75 rfl) rfl ?_
    refine o_q (q_load_old rfl rfl sz_75 (hr)) rfl ?_
    refine o_p (p_pure rfl) rfl ?_
    refine o_p (p_indexAddr rfl rfl rfl sl_75 (i) (by omega) (by omega) (Rw.some ho.1 (by omega))) rfl ?_
    refine o_p (p_fieldAddr rfl rfl fd_48_1 sz_3 rfl) rfl ?_
    refine o_q (q_load_old rfl rfl sz_3 ((ho.1.rdj 1 hi rfl))) rfl ?_
    refine o_p (p_pure rfl) rfl ?_
    refine o_p (p_pure rfl) rfl ?_
    refine o_p (p_pure rfl) rfl ?_
    refine o_nil ?_
    exact s_retv (rs := [.tmp 3]) rfl (.tmp rfl (.nil)) (fun w' h' => ⟨by rw [frB, nth_plo hi, show (plo f.op).length = f.op.length by simp, hk2]; simp only [retV]; have h9 := (and_8 hvi.1).2.2.1; simp only [Bool.not_false, Bool.and_true]; simp [LOpn.pl] at h9 ⊢; grind, h'.below⟩)

end Go.Proofs

namespace Go.Proofs
open Go Go.RowKit Gx
set_option linter.unusedVariables false
set_option linter.unusedSimpArgs false
attribute [local irreducible] Go.Calls Gx.S Gx.O Gx.D Gx.OpP Gx.OpQ Gx.OpH

theorem sl_95 : tsl Try.prog 95 = some (37, 1, 24) := by kernel_rfl
theorem zr_37 : tzero Try.prog 37 = some [.slice none 0 0] := by kernel_rfl
theorem sz_37 : tsz Try.prog 37 = some (1, false) := by kernel_rfl
theorem fn_86 : isFn Try.prog 86 = true := by kernel_rfl


theorem frV_get {ops : List Opn} {m k : Nat} (h : k < m) : nth ((List.range m).map (frB ops)) k = frB ops k := nth_eq (by rw [List.getElem?_map, List.getElem?_range h]; rfl)
theorem brS_app {a : Option Addr} {c : Nat} {l : List Bool} {v : Bool} : brS ⟨a, c, l ++ [v]⟩ = .own (.slice a (l.length + 1) c) 4 1 (l.length + 1) (l.flatMap boV ++ boV v) := by
  unfold brS
  simp only [app_len1, app_flat1]
theorem range_app {k : Nat} {f : Nat → Bool} : ((List.range (k + 1)).map f) = ((List.range k).map f) ++ [f k] := by rw [List.range_succ, List.map_append]; rfl
def canV (ops : List Opn) (k n m : Nat) : Bool := hasB (nth ops k).ac 1 && !(othX ops k n || (decide (n ≠ k) && ((nth ops n).lk.take m).any Lock.ex))
theorem canV_0 {ops : List Opn} {k n : Nat} : canV ops k n 0 = (hasB (nth ops k).ac 1 && !othX ops k n) := by simp [canV]
theorem canV_end {ops : List Opn} {k n : Nat} : canV ops k n (nth ops n).lk.length = (hasB (nth ops k).ac 1 && !othX ops k (n + 1)) := by
  rw [canV, othX_succ, List.take_length]; rfl
theorem canV_succ {ops : List Opn} {k n m : Nat} (hm : m < (nth ops n).lk.length) : canV ops k n (m + 1) = (canV ops k n m && !((nth (nth ops n).lk m).ex && decide (n ≠ k))) := by
  unfold canV
  rw [take_succ_nth hm, List.any_append]
  simp only [List.any_cons, List.any_nil, Bool.or_false]
  cases hasB (nth ops k).ac 1 <;> cases othX ops k n <;> cases decide (n ≠ k) <;> cases ((nth ops n).lk.take m).any Lock.ex <;> cases (nth (nth ops n).lk m).ex <;> rfl
def pbI (f : Nat → Bool) : Nat → Int
  | 0 => 0
  | 1 => if f 1 = true then 1 else 0
  | 2 => (if f 1 = true then 1 else 0) + (if f 2 = true then 2 else 0)
  | _ => bitsI f

set_option maxRecDepth 20000 in
theorem q42 (w : World) (next : Int) (a : Option Addr) (cap : Nat) (L : List LFil) (rc sq : Int) (hs : Ft w [] a L) (hm : L.length ≤ 1000) (hmo : ∀ f ∈ L, f.op.length ≤ 1000) (he : ¬ (fErr next (pls L) rc sq) = 0) : Calls Try.prog 42 #[.agg #[.int .i64 next, .slice a L.length cap], .agg #[.int .i64 rc, .int .i64 sq]] w fun en w' => en = .returned (.tuple #[.slice none 0 0, .int .i64 (fErr next (pls L) rc sq)]) ∧ Below w.heap.size w w' := by
  refine enter (args := [_, _]) Try.func42 Try.ntmps42 rfl rfl (HS.refl w []) ?_
  refine s_seq ?_
  refine s_region ?_
  refine o_h (h_box rfl rfl) rfl (fun b1 _ => ?_)
  refine o_h (h_box rfl rfl) rfl (fun b2 _ => ?_)
  refine o_p (p_pure rfl) rfl ?_
  refine o_p (p_pure rfl) rfl ?_
  refine o_nil ?_
  refine s_seq ?_
  refine s_region ?_
  refine o_q (q_loadn rfl rfl sz_26 aPk rfl) rfl ?_
  refine o_q (q_loadn rfl rfl sz_42 aPk rfl) rfl ?_
  refine o_q (q_call rfl fn_85 rfl (fun w1 h1 => q85 w1 next a cap L rc sq (hs.later h1) hm hmo he)) rfl ?_
  refine o_p (p_pure rfl) rfl ?_
  refine o_p (p_pure rfl) rfl ?_
  refine o_p (p_pure rfl) rfl ?_
  refine o_h (h_alloc rfl zr_77) rfl (fun b3 _ => ?_)
  refine o_h0 (h_store rfl rfl rfl sz_77 rfl aPt (by simp only [setMany_length, List.length_set, List.length_cons, List.length_nil, List.length_map]; omega) rfl) (fun _ _ => ?_)
  refine o_p (p_pure rfl) rfl ?_
  refine o_nil ?_
  refine s_seq ?_
  refine s_seq ?_
  refine s_region ?_
  refine o_p (p_pure rfl) rfl ?_
  refine o_p (p_pure rfl) rfl ?_
  refine o_nil ?_
  refine s_cond rfl (fun h4 => ?_) (fun h4 => ?_)
  · try simp only [decide_eq_true_eq, decide_eq_false_iff_not, Bool.not_eq_true', Bool.not_eq_false', Bool.and_eq_true, Bool.or_eq_true, Bool.and_eq_false_iff, Bool.or_eq_false_iff, Bool.not_true, Bool.not_false] at h4
    refine s_seq ?_
    refine s_region ?_
    refine o_p (p_pure rfl) rfl ?_
    refine o_p (p_pure rfl) rfl ?_
    refine o_p (p_pure rfl) rfl ?_
    refine o_nil ?_
    exact s_retv (rs := [.tmp 4, .tmp 5]) rfl (.tmp rfl (.tmp rfl (.nil))) (fun w' h' => ⟨rfl, h'.below⟩)
  · try simp only [decide_eq_true_eq, decide_eq_false_iff_not, Bool.not_eq_true', Bool.not_eq_false', Bool.and_eq_true, Bool.or_eq_true, Bool.and_eq_false_iff, Bool.or_eq_false_iff, Bool.not_true, Bool.not_false] at h4
    exfalso; exact he h4

set_option maxRecDepth 20000 in
set_option maxHeartbeats 2000000 in
theorem e42 (w : World) (next : Int) (a : Option Addr) (cap : Nat) (L : List LFil) (rc sq : Int) (hs : Ft w [] a L) (hm : L.length ≤ 1000) (hmo : ∀ f ∈ L, f.op.length ≤ 1000) (h0 : (fErr next (pls L) rc sq) = 0) : Calls Try.prog 42 #[.agg #[.int .i64 next, .slice a L.length cap], .agg #[.int .i64 rc, .int .i64 sq]] w fun en w' => ∃ g : (Option Addr × Nat) × List BR, en = .returned (.tuple #[.slice g.1.1 g.2.length g.1.2, .int .i64 0]) ∧ (g.2.length = (nth (pls L) (bsL (cmps (pls L) rc sq))).op.length ∧ ∀ j, j < (nth (pls L) (bsL (cmps (pls L) rc sq))).op.length → (nth g.2 j).l = rowF (nth (pls L) (bsL (cmps (pls L) rc sq))).op j) ∧ HS w [] [.own (.slice g.1.1 g.2.length g.1.2) 37 1 g.2.length (g.2.flatMap brV), .star (g.2.map brS)] w' := by
  obtain ⟨hz, hr, hb, hp, hix⟩ := fErr_f h0
  refine enter (args := [_, _]) Try.func42 Try.ntmps42 rfl rfl (HS.refl w []) ?_
  refine s_seq ?_
  refine s_region ?_
  refine o_h (h_box rfl rfl) rfl (fun b1 _ => ?_)
  refine o_h (h_box rfl rfl) rfl (fun b2 _ => ?_)
  refine o_p (p_pure rfl) rfl ?_
  refine o_p (p_pure rfl) rfl ?_
  refine o_nil ?_
  refine s_seq ?_
  refine s_region ?_
  refine o_q (q_loadn rfl rfl sz_26 aPk rfl) rfl ?_
  refine o_q (q_loadn rfl rfl sz_42 aPk rfl) rfl ?_
  refine o_h (h_call rfl fn_85 rfl (fun w1 h1 => e85 w1 next a cap L rc sq (hs.later h1) hm hmo h0)) rfl (fun f hf => ?_)
  refine o_p (p_pure rfl) rfl ?_
  refine o_p (p_pure rfl) rfl ?_
  refine o_p (p_pure rfl) rfl ?_
  refine o_h (h_alloc rfl zr_77) rfl (fun b3 _ => ?_)
  refine o_h0 (h_store rfl rfl rfl sz_77 rfl aPt (by simp only [setMany_length, List.length_set, List.length_cons, List.length_nil, List.length_map]; omega) rfl) (fun _ _ => ?_)
  refine o_p (p_pure rfl) rfl ?_
  refine o_nil ?_
  refine s_seq ?_
  refine s_seq ?_
  refine s_region ?_
  refine o_p (p_pure rfl) rfl ?_
  refine o_p (p_pure rfl) rfl ?_
  refine o_nil ?_
  refine s_cond rfl (fun h4 => ?_) (fun h4 => ?_)
  · try simp only [decide_eq_true_eq, decide_eq_false_iff_not, Bool.not_eq_true', Bool.not_eq_false', Bool.and_eq_true, Bool.or_eq_true, Bool.and_eq_false_iff, Bool.or_eq_false_iff, Bool.not_true, Bool.not_false] at h4
    exfalso; have hq := h4; simp at hq
  · try simp only [decide_eq_true_eq, decide_eq_false_iff_not, Bool.not_eq_true', Bool.not_eq_false', Bool.and_eq_true, Bool.or_eq_true, Bool.and_eq_false_iff, Bool.or_eq_false_iff, Bool.not_true, Bool.not_false] at h4
    obtain ⟨hf0, hf32, hfV⟩ := file_V (chk_ok hz) (by simpa using hp) hf
    refine s_skip ?_
    refine s_seq ?_
    refine s_region ?_
    refine o_p (p_fieldAddr rfl rfl fd_77_2 sz_75 rfl) rfl ?_
    refine o_q (q_load rfl rfl sz_75 aPk rfl) rfl ?_
    refine o_p (p_len_slice rfl rfl Try.underlying75) rfl ?_
    refine o_p (p_pure rfl) rfl ?_
    refine o_nil ?_
    refine s_seq ?_
    refine s_region ?_
    refine o_p (p_pure rfl) rfl ?_
    refine o_p (p_pure rfl) rfl ?_
    refine o_nil ?_
    refine s_seq ?_
    refine s_region ?_
    refine o_p (p_pure rfl) rfl ?_
    refine o_h (h_make (n := f.op.length) rfl rfl rfl sl_95 zr_37 (by omega) (by omega)) rfl (fun b5 _ => ?_)
    refine o_p (p_pure rfl) rfl ?_
    refine o_nil ?_
    refine s_seq ?_
    refine s_seq ?_
    refine s_region ?_
    refine o_p (p_pure rfl) rfl ?_
    refine o_p (p_pure rfl) rfl ?_
    refine o_nil ?_
    refine s_block ?_
    refine s_weaken (L' := [(4, _), (5, _), (8, _), (9, _), (10, _), (28, _), (29, _)]) aSx (fun _ h => h) ?_
    refine s_loopI (α := Nat × List BR) [11, 12, 29, 30, 31, 32, 33, 34, 35, 36, 37, 38, 39, 40, 41, 42, 43, 44, 45, 46, 47, 48, 49, 50, 51, 52, 53, 54] (fun y => [(29, .int .i64 (y.1 : Int))]) (fun y => HS w [] [.blk b5 37 (f.op.length * 1) (y.2.flatMap brV), .star (y.2.map brS), .blk b3 77 4 [.int .i64 f.rc, .int .i64 f.sq, .bool f.pd, .slice f.oa f.op.length f.oc], .opens f.oa f.oc f.op]) (fun y => y.1 ≤ f.op.length ∧ y.2.length = f.op.length ∧ ∀ j, j < f.op.length → (nth y.2 j).l = if j < y.1 then rowF (plo f.op) j else []) (fun y => f.op.length - y.1) (0, List.replicate f.op.length default) ⟨Nat.zero_le _, by simp, fun j hj => by rw [show nth (List.replicate f.op.length (default : BR)) j = default from nth_eq (by simp [List.getElem?_replicate, hj])]; rfl⟩ aSx (fun w h => (HS.br_nils (n := f.op.length) (HS.blk_to (b := b5) h aPk (br_zero _))).ent aEt) (fun ⟨i, M⟩ hy => ?_)
    dsimp only at hy ⊢
    obtain ⟨hi1, hMl, hMr⟩ := hy
    refine s_seq ?_
    refine s_region ?_
    refine o_p (p_pure rfl) rfl ?_
    refine o_nil ?_
    refine s_seq ?_
    refine s_cond rfl (fun h6 => ?_) (fun h6 => ?_)
    · try simp only [decide_eq_true_eq, decide_eq_false_iff_not, Bool.not_eq_true', Bool.not_eq_false', Bool.and_eq_true, Bool.or_eq_true, Bool.and_eq_false_iff, Bool.or_eq_false_iff, Bool.not_true, Bool.not_false] at h6
      have hi : i < f.op.length := by omega
      have him : i < M.length := by omega
      refine s_skip ?_
      refine s_seq ?_
      refine s_block ?_
      refine s_seq ?_
      refine s_region ?_
      refine o_p (p_pure rfl) rfl ?_
      refine o_p (p_pure rfl) rfl ?_
      refine o_nil ?_
      refine s_seq ?_
      refine s_region ?_
      refine o_p (p_pure rfl) rfl ?_
      refine o_p (p_pure rfl) rfl ?_
      refine o_nil ?_
      refine s_block ?_
      refine s_loopI (α := Nat × BR) [12, 33, 34, 35, 36, 37, 38, 39, 40, 41, 42, 43, 44, 45, 46, 47, 48, 49, 50, 51, 52, 53] (fun z => [(33, .int .i64 (z.1 : Int))]) (fun z => HS w [] [.blk b5 37 (f.op.length * 1) ((M.set i z.2).flatMap brV), brS z.2, .star ((others M i).map brS), .blk b3 77 4 [.int .i64 f.rc, .int .i64 f.sq, .bool f.pd, .slice f.oa f.op.length f.oc], .opens f.oa f.oc f.op]) (fun z => z.1 ≤ f.op.length ∧ z.2.l = (rowF (plo f.op) i).take z.1) (fun z => f.op.length - z.1) (0, nth M i) ⟨Nat.zero_le _, by show (nth M i).l = _; rw [hMr i hi, if_neg (by omega)]; rfl⟩ aSx (fun w h => by have h2 := HS.sub_open (sub := brS) (l := M) (i := i) him (h.ent (Bs := [.star (M.map brS), .blk b5 37 (f.op.length * 1) (M.flatMap brV), .blk b3 77 4 [.int .i64 f.rc, .int .i64 f.sq, .bool f.pd, .slice f.oa f.op.length f.oc], .opens f.oa f.oc f.op]) aEt); dsimp only; rw [set_same him rfl]; exact h2.ent aEt) (fun ⟨k, R⟩ hz9 => ?_)
      dsimp only at hz9 ⊢
      obtain ⟨hk1, hR⟩ := hz9
      have hRl : R.l.length = k := by rw [hR, List.length_take, rowF_len]; simp; omega
      refine s_seq ?_
      refine s_region ?_
      refine o_p (p_pure rfl) rfl ?_
      refine o_nil ?_
      refine s_seq ?_
      refine s_cond rfl (fun h7 => ?_) (fun h7 => ?_)
      · try simp only [decide_eq_true_eq, decide_eq_false_iff_not, Bool.not_eq_true', Bool.not_eq_false', Bool.and_eq_true, Bool.or_eq_true, Bool.and_eq_false_iff, Bool.or_eq_false_iff, Bool.not_true, Bool.not_false] at h7
        have hk : k < f.op.length := by omega
        refine s_skip ?_
        refine s_seq ?_
        refine s_block ?_
        refine s_seq ?_
        refine s_region ?_
        refine o_p (p_pure rfl) rfl ?_
        refine o_p (p_pure rfl) rfl ?_
        refine o_nil ?_
        refine s_draw [15, 17] mixed ?_
        refine d_p 0 rfl (p_pure rfl) (by kernel_rfl) rfl rfl ?_
        refine d_p 1 rfl (p_pure rfl) (by kernel_rfl) rfl rfl ?_
        refine d_p 2 rfl (p_pure rfl) (by kernel_rfl) rfl rfl ?_
        refine d_p 3 rfl (p_pure rfl) (by kernel_rfl) rfl rfl ?_
        refine d_p 4 rfl (p_indexAddr rfl rfl rfl sl_95 (i) (by omega) (by omega) rfl) (by kernel_rfl) rfl rfl ?_
        refine d_q 5 [[], []] rfl (q_load_at rfl rfl sz_37 (fun w h => by rw [Nat.zero_add]; have h9 := row_rd (vals := brV) (sz := 1) (l := M.set i R) (i := i) br1 (by simpa using him) h aPk 0 (.slice R.a R.l.length R.c) (by rw [nth_set1 him]; rfl); exact h9)) (by kernel_rfl) (by kernel_rfl) (by kernel_rfl) rfl ?_
        refine d_p 6 rfl (p_pure rfl) (by kernel_rfl) rfl rfl ?_
        refine d_p 7 rfl (p_pure rfl) (by kernel_rfl) rfl rfl ?_
        refine d_q 8 [[12, 9], []] rfl (q_callv rfl rfl fn_86 rfl (fun w1 h1 => c86 w1 f b3 i (h1.rd_blk (Mc := []) aPk rfl (by simp)) (HS.ot (a := f.oa) (cap := f.oc) (l := f.op) h1 aPk) (by omega) hf32 hfV)) (by kernel_rfl) (by kernel_rfl) (by kernel_rfl) rfl ?_
        refine d_p 9 rfl (p_pure rfl) (by kernel_rfl) rfl rfl ?_
        apply d_split 45
        · exact rfl
        · intro hg8
          have hs9 := hg8; try simp only [decide_eq_true_eq, decide_eq_false_iff_not, Bool.not_eq_true', Bool.not_eq_false', Bool.and_eq_true, Bool.or_eq_true, Bool.and_eq_false_iff, Bool.or_eq_false_iff, Bool.not_true, Bool.not_false] at hs9
          refine d_pon 10 45 rfl rfl rfl hg8 (p_pure rfl) (by kernel_rfl) rfl rfl ?_
          refine d_pon 11 45 rfl rfl rfl hg8 (p_pure rfl) (by kernel_rfl) rfl rfl ?_
          refine d_qon 12 45 [[], []] rfl rfl rfl hg8 (q_callv rfl rfl fn_86 rfl (fun w1 h1 => c86 w1 f b3 k (h1.rd_blk (Mc := []) aPk rfl (by simp)) (HS.ot (a := f.oa) (cap := f.oc) (l := f.op) h1 aPk) (by omega) hf32 hfV)) (by kernel_rfl) (by kernel_rfl) (by kernel_rfl) rfl ?_
          refine d_p 13 rfl (p_pickt rfl rfl hg8 rfl) (by kernel_rfl) rfl rfl ?_
          refine d_slot (show _ = Value.bool (frB (plo f.op) i && frB (plo f.op) k) from by simp [hg8]) ?_
          refine d_h 14 rfl (h_buildSlice (cs := [_]) rfl rfl sl_37 zr_4 rfl rfl rfl) (by kernel_rfl) (fun w h => h.ent aEt) rfl (fun b10 _ => ?_)
          refine d_base (fun w h => h.ent aEt) ?_
          refine d_h 15 rfl (h_appendS (n := R.l.length) [.bool (frB (plo f.op) i && frB (plo f.op) k)] rfl rfl rfl sl_37 Try.underlying37 zr_4 rfl aPk (src_blk aPk) rfl (by intro u hu; simp only [List.mem_cons, List.mem_nil_iff, or_false] at hu; subst hu; rfl) (by omega) (by simp only [maxLen]; omega)) (by kernel_rfl) (fun w h => h.ent aEt) rfl (fun b11 _ => ?_)
          refine d_turn [17] (by kernel_rfl) ?_
          refine d_p 16 rfl (p_indexAddr rfl rfl rfl sl_95 (i) (by omega) (by omega) rfl) (by kernel_rfl) rfl rfl ?_
          refine d_slot (show _ = Value.pointer (some ⟨b5, i * 1, none⟩) from by rw [Nat.zero_add]) ?_
          refine d_h0 17 rfl (h_store rfl rfl rfl sz_37 rfl aPt (by rw [br_len, List.length_set]; show i * 1 + 1 ≤ _; omega) rfl) (by kernel_rfl) (fun w h => h.ent aEt) (fun _ _ => ?_)
          refine d_turn [] (by kernel_rfl) ?_
          refine d_nil (by kernel_rfl) (fun w h => h.ent aEt) ?_
          refine s_blk ?_
          refine s_weaken (L' := [(4, _), (5, _), (8, _), (9, _), (10, _), (11, _), (28, _), (29, _), (30, _), (31, _), (32, _), (33, _)]) aSx (fun _ h => h) ?_
          refine s_region ?_
          refine o_p (p_pure rfl) rfl ?_
          try (refine o_slot (i64w (by omega) (by omega)) ?_)
          refine o_p (p_pure rfl) rfl ?_
          refine o_nil ?_
          exact s_backI (k + 1, (⟨b11.1, b11.2, R.l ++ [(frB (plo f.op) i && frB (plo f.op) k)]⟩ : BR)) (by show f.op.length - (k + 1) < f.op.length - k; omega) ⟨by show k + 1 ≤ f.op.length; omega, by show R.l ++ [_] = _; rw [hR, rowF_take (by simpa using hk)]⟩ aSx (fun w h => by have h2 := HS.blk_to (b := b5) h aPk (br_set (x := (⟨b11.1, b11.2, R.l ++ [(frB (plo f.op) i && frB (plo f.op) k)]⟩ : BR)) him (by simp [brV]; rfl)); dsimp only; rw [brS_app]; exact h2.ent aEt)
        · intro hg12
          have hs13 := hg12; try simp only [decide_eq_true_eq, decide_eq_false_iff_not, Bool.not_eq_true', Bool.not_eq_false', Bool.and_eq_true, Bool.or_eq_true, Bool.and_eq_false_iff, Bool.or_eq_false_iff, Bool.not_true, Bool.not_false] at hs13
          refine d_off 10 45 rfl rfl rfl hg12 (by kernel_rfl) rfl rfl ?_
          refine d_off 11 45 rfl rfl rfl hg12 (by kernel_rfl) rfl rfl ?_
          refine d_off 12 45 rfl rfl rfl hg12 (by kernel_rfl) rfl rfl ?_
          refine d_p 13 rfl (p_pickf rfl rfl hg12 rfl) (by kernel_rfl) rfl rfl ?_
          refine d_slot (show _ = Value.bool (frB (plo f.op) i && frB (plo f.op) k) from by simp [hg12]) ?_
          refine d_h 14 rfl (h_buildSlice (cs := [_]) rfl rfl sl_37 zr_4 rfl rfl rfl) (by kernel_rfl) (fun w h => h.ent aEt) rfl (fun b14 _ => ?_)
          refine d_base (fun w h => h.ent aEt) ?_
          refine d_h 15 rfl (h_appendS (n := R.l.length) [.bool (frB (plo f.op) i && frB (plo f.op) k)] rfl rfl rfl sl_37 Try.underlying37 zr_4 rfl aPk (src_blk aPk) rfl (by intro u hu; simp only [List.mem_cons, List.mem_nil_iff, or_false] at hu; subst hu; rfl) (by omega) (by simp only [maxLen]; omega)) (by kernel_rfl) (fun w h => h.ent aEt) rfl (fun b15 _ => ?_)
          refine d_turn [17] (by kernel_rfl) ?_
          refine d_p 16 rfl (p_indexAddr rfl rfl rfl sl_95 (i) (by omega) (by omega) rfl) (by kernel_rfl) rfl rfl ?_
          refine d_slot (show _ = Value.pointer (some ⟨b5, i * 1, none⟩) from by rw [Nat.zero_add]) ?_
          refine d_h0 17 rfl (h_store rfl rfl rfl sz_37 rfl aPt (by rw [br_len, List.length_set]; show i * 1 + 1 ≤ _; omega) rfl) (by kernel_rfl) (fun w h => h.ent aEt) (fun _ _ => ?_)
          refine d_turn [] (by kernel_rfl) ?_
          refine d_nil (by kernel_rfl) (fun w h => h.ent aEt) ?_
          refine s_blk ?_
          refine s_weaken (L' := [(4, _), (5, _), (8, _), (9, _), (10, _), (11, _), (28, _), (29, _), (30, _), (31, _), (32, _), (33, _)]) aSx (fun _ h => h) ?_
          refine s_region ?_
          refine o_p (p_pure rfl) rfl ?_
          try (refine o_slot (i64w (by omega) (by omega)) ?_)
          refine o_p (p_pure rfl) rfl ?_
          refine o_nil ?_
          exact s_backI (k + 1, (⟨b15.1, b15.2, R.l ++ [(frB (plo f.op) i && frB (plo f.op) k)]⟩ : BR)) (by show f.op.length - (k + 1) < f.op.length - k; omega) ⟨by show k + 1 ≤ f.op.length; omega, by show R.l ++ [_] = _; rw [hR, rowF_take (by simpa using hk)]⟩ aSx (fun w h => by have h2 := HS.blk_to (b := b5) h aPk (br_set (x := (⟨b15.1, b15.2, R.l ++ [(frB (plo f.op) i && frB (plo f.op) k)]⟩ : BR)) him (by simp [brV]; rfl)); dsimp only; rw [brS_app]; exact h2.ent aEt)
      · try simp only [decide_eq_true_eq, decide_eq_false_iff_not, Bool.not_eq_true', Bool.not_eq_false', Bool.and_eq_true, Bool.or_eq_true, Bool.and_eq_false_iff, Bool.or_eq_false_iff, Bool.not_true, Bool.not_false] at h7
        refine s_exit_to rfl ?_
        refine s_blk ?_
        refine s_region ?_
        refine o_p (p_pure rfl) rfl ?_
        try (refine o_slot (i64w (by omega) (by omega)) ?_)
        refine o_p (p_pure rfl) rfl ?_
        refine o_nil ?_
        have ek : k = f.op.length := by omega
        exact s_backI (i + 1, M.set i R) (by show f.op.length - (i + 1) < f.op.length - i; omega) ⟨by show i + 1 ≤ f.op.length; omega, by simp [hMl], fun j hj => by by_cases e : i = j; (subst e; show (nth (M.set i R) i).l = _; rw [nth_set1 him, if_pos (by omega), hR, ek, List.take_of_length_le (by rw [rowF_len]; simp)]); (show (nth (M.set i R) j).l = _; rw [nth_set2 e, hMr j hj]; by_cases e2 : j < i; (rw [if_pos e2, if_pos (by omega)]); (rw [if_neg e2, if_neg (by omega)]))⟩ aSx (fun w h => by have h2 := HS.sub_shut (sub := brS) (l := M) (x := R) him (h.ent (Bs := [brS R, .star ((others M i).map brS), .blk b5 37 (f.op.length * 1) ((M.set i R).flatMap brV), .blk b3 77 4 [.int .i64 f.rc, .int .i64 f.sq, .bool f.pd, .slice f.oa f.op.length f.oc], .opens f.oa f.oc f.op]) aEt); exact h2.ent aEt)
    · try simp only [decide_eq_true_eq, decide_eq_false_iff_not, Bool.not_eq_true', Bool.not_eq_false', Bool.and_eq_true, Bool.or_eq_true, Bool.and_eq_false_iff, Bool.or_eq_false_iff, Bool.not_true, Bool.not_false] at h6
      refine s_exit_to rfl ?_
      refine s_seq ?_
      refine s_region ?_
      refine o_p (p_pure rfl) rfl ?_
      refine o_p (p_pure rfl) rfl ?_
      refine o_p (p_pure rfl) rfl ?_
      refine o_nil ?_
      exact s_retv (rs := [.tmp 4, .tmp 5]) rfl (.tmp rfl (.tmp rfl (.nil))) (fun w' h' => by obtain rfl : i = f.op.length := (by omega); have hfl : (nth (pls L) (bsL (cmps (pls L) rc sq))).op.length = f.op.length := (by rw [← hf]; simp [LFil.pl]); exact ⟨((some ⟨b5, 0, none⟩, f.op.length), M), by show _ = Ending.returned (.tuple #[.slice _ M.length _, _]); rw [hMl]; rfl, ⟨by show M.length = _; rw [hMl, hfl], fun j hj => by rw [hfl] at hj; show (nth M j).l = _; rw [hMr j hj, if_pos hj, ← hf]; rfl⟩, by have h2 := HS.to_own1 (n' := 0) (n := M.length) (a := some ⟨b5, 0, none⟩) (cap := f.op.length) h' aPk rfl br_len (by omega) (by simp only [maxLen]; omega); exact h2.ent aEt⟩)

end Go.Proofs

