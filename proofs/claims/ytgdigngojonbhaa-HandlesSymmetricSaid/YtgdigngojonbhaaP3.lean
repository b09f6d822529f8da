/- Contracts of the program's functions, proved by walking them with the rules of the Gx texts; without conditions beyond those that each contract names. -/
import Derived.WalkKit
import Derived.Deep.Draws
import Derived.Lib.Strings
import Derived.Laws.BytesArg
import Derived.Laws.IdiomStrings
import Derived.Deep.Quiet
import Derived.Laws.StructEq
import Derived.ChangeKeysEq
import Derived.Laws.Externs
import Derived.Lib.Overlaps
import Derived.Carry
import Derived.Laws.Small
import Derived.Test.YtgdigngojonbhaaProg
import Derived.KernelRfl
import Derived.ProofKit
import Derived.OpenShut
import Derived.Test.YtgdigngojonbhaaP2
namespace Go.Proofs
open Go Go.RowKit Gx
set_option linter.unusedVariables false
set_option linter.unusedSimpArgs false
attribute [local irreducible] Go.Calls Gx.S Gx.O Gx.D Gx.OpP Gx.OpQ Gx.OpH

theorem fn_72 : isFn Try.prog 72 = true := by kernel_rfl


theorem hdl_r (next : Int) (known : List Int) (ops : List Opn) (k : Nat) : hdlE next known ops k = if ¬ (1 ≤ (nth ops k).hd ∧ (nth ops k).hd ≤ next - 1) then 2 else if ¬ openE (nth ops k).ac (nth ops k).sh = 0 then openE (nth ops k).ac (nth ops k).sh else if ¬ (k = 0 ∨ (nth ops (k - 1)).hd < (nth ops k).hd) then 9 else if ¬ lksE (nth ops k).lk = 0 then lksE (nth ops k).lk else if (nth ops k).hd ∈ known then 23 else if (ops.take k).any (cfl (nth ops k)) = true then 28 else lockedE ((ops.take k).flatMap Opn.lk) (nth ops k).lk := by
  unfold hdlE lksE
  simp only []
  grind
theorem lksE_0 {l : List Lock} (h : lksE l = 0) : l.length ≤ 16 ∧ okL l := by
  unfold lksE at h
  split at h
  · exact absurd h (by decide)
  · exact ⟨by omega, rngs_ok h⟩
theorem hdl_ok {next : Int} {known : List Int} {ops : List Opn} {k : Nat} (h : hdlE next known ops k = 0) : openE (nth ops k).ac (nth ops k).sh = 0 ∧ (nth ops k).lk.length ≤ 16 ∧ okL (nth ops k).lk := by
  rw [hdl_r] at h
  split at h
  · exact absurd h (by decide)
  split at h
  · contradiction
  rename_i h2
  split at h
  · exact absurd h (by decide)
  split at h
  · contradiction
  rename_i h3
  exact ⟨Decidable.not_not.1 h2, lksE_0 (Decidable.not_not.1 h3)⟩
theorem fil_r {next : Int} {L : List LFil} {i : Nat} (hi : i < L.length) : filE next (pls L) i = if ¬ refE (nth L i).rc (nth L i).sq = 0 then refE (nth L i).rc (nth L i).sq else if ¬ (i = 0 ∨ refLt ((nth L (i - 1)).rc, (nth L (i - 1)).sq) ((nth L i).rc, (nth L i).sq) = true) then 9 else if (nth L i).op.length = 0 then 17 else hdlsE next (hds ((pls L).take i)) (plo (nth L i).op) := by
  unfold filE
  rw [nth_pls hi, nth_pls (show i - 1 < L.length by omega)]
  simp only [LFil.pl, List.length_map]
  grind
theorem hds_mem {L : List LFil} {i : Nat} {x : Int} : x ∈ hds ((pls L).take i) ↔ ∃ n m, n < i ∧ n < L.length ∧ m < (nth L n).op.length ∧ (nth (nth L n).op m).hd = x := by
  unfold hds
  rw [List.mem_flatMap]
  constructor
  · rintro ⟨f, hf, hx⟩
    obtain ⟨n, h1, h2, rfl⟩ := nth_mem_take hf
    have h2' : n < L.length := by simpa using h2
    rw [nth_pls h2'] at hx
    obtain ⟨o, ho, rfl⟩ := List.mem_map.1 hx
    obtain ⟨p, hp, rfl⟩ := List.mem_map.1 ho
    obtain ⟨m, hm, e⟩ := List.getElem_of_mem hp
    exact ⟨n, m, h1, h2', hm, by rw [nth_eq ((List.getElem?_eq_getElem hm).trans (congrArg some e))]; rfl⟩
  · rintro ⟨n, m, h1, h2, h3, rfl⟩
    refine ⟨(nth L n).pl, ?_, List.mem_map.2 ⟨(nth (nth L n).op m).pl, List.mem_map.2 ⟨_, mem_nth h3, rfl⟩, rfl⟩⟩
    have e : nth ((pls L).take i) n = (nth L n).pl := by rw [nth_take h1, nth_pls h2]
    rw [← e]
    exact mem_nth (by rw [List.length_take, List.length_map]; omega)
theorem any_take {ops : List LOpn} {k : Nat} {x : Opn} (hk : k ≤ ops.length) : ((plo ops).take k).any (cfl x) = true ↔ ∃ m, m < k ∧ cfl x (nth ops m).pl = true := by
  rw [List.any_eq_true]
  constructor
  · rintro ⟨o, ho, hx⟩
    obtain ⟨m, h1, h2, rfl⟩ := nth_mem_take ho
    rw [nth_plo (by simpa using h2)] at hx
    exact ⟨m, h1, hx⟩
  · rintro ⟨m, h1, hx⟩
    refine ⟨(nth ops m).pl, ?_, hx⟩
    have e : nth ((plo ops).take k) m = (nth ops m).pl := by rw [nth_take h1, nth_plo (by omega)]
    rw [← e]
    exact mem_nth (by rw [List.length_take, List.length_map]; omega)

set_option maxRecDepth 20000 in
theorem c99 (w : World) (f : LFil) (k : Nat) (hs : Ot w [] f.oa f.op) (hk : k < f.op.length) (hm0 : f.op.length ≤ 1000) (hv : ∀ n, n ≤ k → okL (nth f.op n).lk ∧ (nth f.op n).lk.length ≤ 16) : Calls Try.prog 99 #[.agg #[.int .i64 f.rc, .int .i64 f.sq, .bool f.pd, .slice f.oa f.op.length f.oc], .int .i64 (k : Int)] w fun en w' => en = .returned (.int .i64 (lockedE (((plo f.op).take k).flatMap Opn.lk) (nth f.op k).lk)) ∧ Below w.heap.size w w' := by
  have hvk := hv k (Nat.le_refl _)
  refine enter (args := [_, _]) Try.func99 Try.ntmps99 rfl rfl (HS.refl w []) ?_
  refine s_seq ?_
  refine s_region ?_
  refine o_h (h_box rfl rfl) rfl (fun b1 _ => ?_)
  refine o_p (p_pure rfl) rfl ?_
  refine o_nil ?_
  refine s_seq ?_
  refine s_seq ?_
  refine s_region ?_
  refine o_p (p_pure rfl) rfl ?_
  refine o_nil ?_
  refine s_block ?_
  refine s_loopI (α := Nat) [4, 5, 6, 7, 8, 9, 10, 11, 12, 13, 14, 15, 16, 17, 18, 19, 20, 21, 22, 23, 24, 25, 26, 27, 28, 29, 30, 31, 32, 33, 34, 35, 36, 37, 38, 39, 40, 41, 42, 43, 44, 45, 46, 47, 48, 49, 50, 51, 52, 53, 54, 55, 56, 57, 58, 59, 60, 61, 62, 63, 64, 65] (fun i => [(5, .int .i64 (i : Int))]) (fun _ => HS w [] [.blk b1 77 4 f.vals]) (fun i => i ≤ (nth f.op k).lk.length ∧ lockedE (((plo f.op).take k).flatMap Opn.lk) (nth f.op k).lk = lockedE ((((plo f.op).take k).flatMap Opn.lk) ++ (nth f.op k).lk.take i) ((nth f.op k).lk.drop i)) (fun i => (nth f.op k).lk.length - i) 0 ⟨Nat.zero_le _, by simp⟩ aSx (fun w h => h.ent aEt) (fun i hy => ?_)
  obtain ⟨hi1, hi2⟩ := hy
  refine s_seq ?_
  refine s_seq ?_
  refine s_region ?_
  refine o_p (p_pure rfl) rfl ?_
  refine o_p (p_fieldAddr rfl rfl fd_77_2 sz_75 rfl) rfl ?_
  refine o_q (q_load rfl rfl sz_75 aPk rfl) rfl ?_
  refine o_p (p_pure rfl) rfl ?_
  refine o_p (p_indexAddr rfl rfl rfl sl_75 (k) (by omega) (by omega) (Rw.some hs.1 (by omega))) rfl ?_
  refine o_p (p_fieldAddr rfl rfl fd_48_4 sz_46 rfl) rfl ?_
  refine o_q (q_load_old rfl rfl sz_46 ((hs.1.rdj 4 hk rfl))) rfl ?_
  refine o_p (p_len_slice rfl rfl Try.underlying46) rfl ?_
  refine o_p (p_pure rfl) rfl ?_
  refine o_nil ?_
  refine s_cond rfl (fun h2 => ?_) (fun h2 => ?_)
  · try simp only [decide_eq_true_eq, decide_eq_false_iff_not, Bool.not_eq_true', Bool.not_eq_false', Bool.and_eq_true, Bool.or_eq_true, Bool.and_eq_false_iff, Bool.or_eq_false_iff, Bool.not_true, Bool.not_false] at h2
    have hil : i < (nth f.op k).lk.length := by omega
    refine s_skip ?_
    refine s_seq ?_
    refine s_block ?_
    refine s_seq ?_
    refine s_region ?_
    refine o_p (p_fieldAddr rfl rfl fd_77_2 sz_75 rfl) rfl ?_
    refine o_q (q_load rfl rfl sz_75 aPk rfl) rfl ?_
    refine o_p (p_pure rfl) rfl ?_
    refine o_p (p_indexAddr rfl rfl rfl sl_75 (k) (by omega) (by omega) (Rw.some hs.1 (by omega))) rfl ?_
    refine o_p (p_fieldAddr rfl rfl fd_48_4 sz_46 rfl) rfl ?_
    refine o_q (q_load_old rfl rfl sz_46 ((hs.1.rdj 4 hk rfl))) rfl ?_
    refine o_p (p_pure rfl) rfl ?_
    refine o_p (p_indexAddr rfl rfl rfl sl_46 (i) (by omega) (by omega) (Rw.some (hs.at hk) (by omega))) rfl ?_
    refine o_q (q_load_oldn _ rfl rfl sz_62 rfl (Rw.rd (hs.at hk) hil)) rfl ?_
    refine o_h (h_alloc rfl zr_62) rfl (fun b3 _ => ?_)
    refine o_h0 (h_store rfl rfl rfl sz_62 rfl aPt (by simp only [setMany_length, List.length_set, List.length_cons, List.length_nil, List.length_map]; omega) rfl) (fun _ _ => ?_)
    refine o_nil ?_
    refine s_seq ?_
    refine s_region ?_
    refine o_p (p_pure rfl) rfl ?_
    refine o_nil ?_
    refine s_block ?_
    refine s_weaken (L' := [(0, _), (1, _), (2, _), (5, _), (6, _), (7, _)]) aSx (fun _ h => h) ?_
    refine s_loopI (α := Nat) [4, 7, 8, 29, 30, 31, 32, 33, 34, 35, 36, 37, 38, 39, 40, 41, 42, 43, 44, 45, 46, 47, 48, 49, 50, 51, 52, 53, 54, 55, 56, 57, 58, 59, 60, 61, 62, 63, 64, 65] (fun n => [(7, .int .i64 (n : Int))]) (fun _ => HS w [] [.blk b1 77 4 f.vals, .blk b3 62 3 (nth (nth f.op k).lk i).vals]) (fun n => n ≤ k + 1 ∧ noCl f.op k i n 0 (nth (nth f.op k).lk i)) (fun n => k + 1 - n) 0 ⟨by omega, fun n2 m2 h1 h2 h3 => by omega⟩ aSx (fun w h => h.ent aEt) (fun n hy => ?_)
    obtain ⟨hn1, hn2⟩ := hy
    refine s_seq ?_
    refine s_seq ?_
    refine s_region ?_
    refine o_p (p_pure rfl) rfl ?_
    refine o_p (p_pure rfl) rfl ?_
    refine o_p (p_pure rfl) rfl ?_
    refine o_nil ?_
    refine s_cond rfl (fun h4 => ?_) (fun h4 => ?_)
    · try simp only [decide_eq_true_eq, decide_eq_false_iff_not, Bool.not_eq_true', Bool.not_eq_false', Bool.and_eq_true, Bool.or_eq_true, Bool.and_eq_false_iff, Bool.or_eq_false_iff, Bool.not_true, Bool.not_false] at h4
      have hnk : n ≤ k := by omega
      have hnl : n < f.op.length := by omega
      have hvn := hv n hnk
      refine s_skip ?_
      refine s_seq ?_
      refine s_block ?_
      refine s_seq ?_
      refine s_region ?_
      refine o_p (p_pure rfl) rfl ?_
      refine o_nil ?_
      refine s_block ?_
      refine s_loopI (α := Nat) [4, 8, 34, 35, 36, 37, 38, 39, 40, 41, 42, 43, 44, 45, 46, 47, 48, 49, 50, 51, 52, 53, 54, 55, 56, 57, 58, 59, 60, 61, 62, 63, 64, 65] (fun m => [(8, .int .i64 (m : Int))]) (fun _ => HS w [] [.blk b1 77 4 f.vals, .blk b3 62 3 (nth (nth f.op k).lk i).vals]) (fun m => m ≤ (nth f.op n).lk.length ∧ noCl f.op k i n m (nth (nth f.op k).lk i)) (fun m => (nth f.op n).lk.length - m) 0 ⟨Nat.zero_le _, hn2⟩ aSx (fun w h => h.ent aEt) (fun m hy => ?_)
      obtain ⟨hm1, hm2⟩ := hy
      refine s_seq ?_
      refine s_seq ?_
      refine s_region ?_
      refine o_p (p_pure rfl) rfl ?_
      refine o_p (p_fieldAddr rfl rfl fd_77_2 sz_75 rfl) rfl ?_
      refine o_q (q_load rfl rfl sz_75 aPk rfl) rfl ?_
      refine o_p (p_pure rfl) rfl ?_
      refine o_p (p_indexAddr rfl rfl rfl sl_75 (n) (by omega) (by omega) (Rw.some hs.1 (by omega))) rfl ?_
      refine o_p (p_fieldAddr rfl rfl fd_48_4 sz_46 rfl) rfl ?_
      refine o_q (q_load_old rfl rfl sz_46 ((hs.1.rdj 4 hnl rfl))) rfl ?_
      refine o_p (p_len_slice rfl rfl Try.underlying46) rfl ?_
      refine o_p (p_pure rfl) rfl ?_
      refine o_nil ?_
      refine s_cond rfl (fun h5 => ?_) (fun h5 => ?_)
      · try simp only [decide_eq_true_eq, decide_eq_false_iff_not, Bool.not_eq_true', Bool.not_eq_false', Bool.and_eq_true, Bool.or_eq_true, Bool.and_eq_false_iff, Bool.or_eq_false_iff, Bool.not_true, Bool.not_false] at h5
        have hml : m < (nth f.op n).lk.length := by omega
        refine s_skip ?_
        refine s_seq ?_
        refine s_block ?_
        refine s_seq ?_
        refine s_cutI (α := Unit) [45, 46, 47, 48, 49, 50, 51, 52, 53, 54, 55, 56, 57, 58, 59, 60, 61, 62, 63, 64, 65] (fun _ => [(65, (.bool ((decide ((n : Int) < (k : Int)) || decide ((m : Int) < (i : Int))) && clsh (nth (nth f.op k).lk i) (nth (nth f.op n).lk m))))]) (fun _ => HS w [] [.blk b1 77 4 f.vals, .blk b3 62 3 (nth (nth f.op k).lk i).vals]) (fun _ => True) ?_ ?_
        · skip
          refine s_draw [] mixed ?_
          refine d_p 0 rfl (p_pure rfl) (by kernel_rfl) rfl rfl ?_
          refine d_p 1 rfl (p_pure rfl) (by kernel_rfl) rfl rfl ?_
          refine d_p 2 rfl (p_pure rfl) (by kernel_rfl) rfl rfl ?_
          refine d_p 3 rfl (p_pure rfl) (by kernel_rfl) rfl rfl ?_
          apply d_split 48
          · exact rfl
          · intro hg6
            have hs7 := hg6; try simp only [decide_eq_true_eq, decide_eq_false_iff_not, Bool.not_eq_true', Bool.not_eq_false', Bool.and_eq_true, Bool.or_eq_true, Bool.and_eq_false_iff, Bool.or_eq_false_iff, Bool.not_true, Bool.not_false] at hs7
            refine d_off 4 48 rfl rfl rfl hg6 (by kernel_rfl) rfl rfl ?_
            refine d_off 5 48 rfl rfl rfl hg6 (by kernel_rfl) rfl rfl ?_
            refine d_off 6 48 rfl rfl rfl hg6 (by kernel_rfl) rfl rfl ?_
            refine d_p 7 rfl (p_pickt rfl rfl hg6 rfl) (by kernel_rfl) rfl rfl ?_
            refine d_p 8 rfl (p_pure rfl) (by kernel_rfl) rfl rfl ?_
            apply d_split 53
            · exact rfl
            · intro hg8
              have hs9 := hg8; try simp only [decide_eq_true_eq, decide_eq_false_iff_not, Bool.not_eq_true', Bool.not_eq_false', Bool.and_eq_true, Bool.or_eq_true, Bool.and_eq_false_iff, Bool.or_eq_false_iff, Bool.not_true, Bool.not_false] at hs9
              refine d_qon 9 53 [] rfl rfl rfl hg8 (q_loadn rfl rfl sz_62 aPk rfl) (by kernel_rfl) (by kernel_rfl) (by kernel_rfl) rfl ?_
              refine d_pon 10 53 rfl rfl rfl hg8 (p_fieldAddr rfl rfl fd_77_2 sz_75 rfl) (by kernel_rfl) rfl rfl ?_
              refine d_qon 11 53 [] rfl rfl rfl hg8 (q_load rfl rfl sz_75 aPk rfl) (by kernel_rfl) (by kernel_rfl) (by kernel_rfl) rfl ?_
              refine d_pon 12 53 rfl rfl rfl hg8 (p_pure rfl) (by kernel_rfl) rfl rfl ?_
              refine d_pon 13 53 rfl rfl rfl hg8 (p_indexAddr rfl rfl rfl sl_75 (n) (by omega) (by omega) (Rw.some hs.1 (by omega))) (by kernel_rfl) rfl rfl ?_
              refine d_pon 14 53 rfl rfl rfl hg8 (p_fieldAddr rfl rfl fd_48_4 sz_46 rfl) (by kernel_rfl) rfl rfl ?_
              refine d_qon 15 53 [] rfl rfl rfl hg8 (q_load_old rfl rfl sz_46 ((hs.1.rdj 4 hnl rfl))) (by kernel_rfl) (by kernel_rfl) (by kernel_rfl) rfl ?_
              refine d_pon 16 53 rfl rfl rfl hg8 (p_pure rfl) (by kernel_rfl) rfl rfl ?_
              refine d_pon 17 53 rfl rfl rfl hg8 (p_indexAddr rfl rfl rfl sl_46 (m) (by omega) (by omega) (Rw.some (hs.at hnl) (by omega))) (by kernel_rfl) rfl rfl ?_
              refine d_qon 18 53 [] rfl rfl rfl hg8 (q_load_oldn _ rfl rfl sz_62 rfl (Rw.rd (hs.at hnl) hml)) (by kernel_rfl) (by kernel_rfl) (by kernel_rfl) rfl ?_
              refine d_qon 19 53 [] rfl rfl rfl hg8 (q_call rfl fn_72 rfl (fun w1 h1 => c72 w1 _ _ (okL_nth hvk.1 hil) (okL_nth hvn.1 hml))) (by kernel_rfl) (by kernel_rfl) (by kernel_rfl) rfl ?_
              refine d_p 20 rfl (p_pickt rfl rfl hg8 rfl) (by kernel_rfl) rfl rfl ?_
              refine d_nil (by kernel_rfl) (fun w h => h.ent aEt) ?_
              exact s_joinI () trivial (sl_c (congrArg (fun e => some (Value.bool e)) (by first | (simp_all; done) | (simp_all; intro h9; omega))) aSx) (fun w h => h.ent aEt)
            · intro hg10
              have hs11 := hg10; try simp only [decide_eq_true_eq, decide_eq_false_iff_not, Bool.not_eq_true', Bool.not_eq_false', Bool.and_eq_true, Bool.or_eq_true, Bool.and_eq_false_iff, Bool.or_eq_false_iff, Bool.not_true, Bool.not_false] at hs11
              refine d_off 9 53 rfl rfl rfl hg10 (by kernel_rfl) rfl rfl ?_
              refine d_off 10 53 rfl rfl rfl hg10 (by kernel_rfl) rfl rfl ?_
              refine d_off 11 53 rfl rfl rfl hg10 (by kernel_rfl) rfl rfl ?_
              refine d_off 12 53 rfl rfl rfl hg10 (by kernel_rfl) rfl rfl ?_
              refine d_off 13 53 rfl rfl rfl hg10 (by kernel_rfl) rfl rfl ?_
              refine d_off 14 53 rfl rfl rfl hg10 (by kernel_rfl) rfl rfl ?_
              refine d_off 15 53 rfl rfl rfl hg10 (by kernel_rfl) rfl rfl ?_
              refine d_off 16 53 rfl rfl rfl hg10 (by kernel_rfl) rfl rfl ?_
              refine d_off 17 53 rfl rfl rfl hg10 (by kernel_rfl) rfl rfl ?_
              refine d_off 18 53 rfl rfl rfl hg10 (by kernel_rfl) rfl rfl ?_
              refine d_off 19 53 rfl rfl rfl hg10 (by kernel_rfl) rfl rfl ?_
              refine d_p 20 rfl (p_pickf rfl rfl hg10 rfl) (by kernel_rfl) rfl rfl ?_
              refine d_nil (by kernel_rfl) (fun w h => h.ent aEt) ?_
              exact s_joinI () trivial (sl_c (congrArg (fun e => some (Value.bool e)) (by first | (simp_all; done) | (simp_all; intro h9; omega))) aSx) (fun w h => h.ent aEt)
          · intro hg12
            have hs13 := hg12; try simp only [decide_eq_true_eq, decide_eq_false_iff_not, Bool.not_eq_true', Bool.not_eq_false', Bool.and_eq_true, Bool.or_eq_true, Bool.and_eq_false_iff, Bool.or_eq_false_iff, Bool.not_true, Bool.not_false] at hs13
            refine d_pon 4 48 rfl rfl rfl hg12 (p_pure rfl) (by kernel_rfl) rfl rfl ?_
            refine d_pon 5 48 rfl rfl rfl hg12 (p_pure rfl) (by kernel_rfl) rfl rfl ?_
            refine d_pon 6 48 rfl rfl rfl hg12 (p_pure rfl) (by kernel_rfl) rfl rfl ?_
            refine d_p 7 rfl (p_pickf rfl rfl hg12 rfl) (by kernel_rfl) rfl rfl ?_
            refine d_p 8 rfl (p_pure rfl) (by kernel_rfl) rfl rfl ?_
            apply d_split 53
            · exact rfl
            · intro hg14
              have hs15 := hg14; try simp only [decide_eq_true_eq, decide_eq_false_iff_not, Bool.not_eq_true', Bool.not_eq_false', Bool.and_eq_true, Bool.or_eq_true, Bool.and_eq_false_iff, Bool.or_eq_false_iff, Bool.not_true, Bool.not_false] at hs15
              refine d_qon 9 53 [] rfl rfl rfl hg14 (q_loadn rfl rfl sz_62 aPk rfl) (by kernel_rfl) (by kernel_rfl) (by kernel_rfl) rfl ?_
              refine d_pon 10 53 rfl rfl rfl hg14 (p_fieldAddr rfl rfl fd_77_2 sz_75 rfl) (by kernel_rfl) rfl rfl ?_
              refine d_qon 11 53 [] rfl rfl rfl hg14 (q_load rfl rfl sz_75 aPk rfl) (by kernel_rfl) (by kernel_rfl) (by kernel_rfl) rfl ?_
              refine d_pon 12 53 rfl rfl rfl hg14 (p_pure rfl) (by kernel_rfl) rfl rfl ?_
              refine d_pon 13 53 rfl rfl rfl hg14 (p_indexAddr rfl rfl rfl sl_75 (n) (by omega) (by omega) (Rw.some hs.1 (by omega))) (by kernel_rfl) rfl rfl ?_
              refine d_pon 14 53 rfl rfl rfl hg14 (p_fieldAddr rfl rfl fd_48_4 sz_46 rfl) (by kernel_rfl) rfl rfl ?_
              refine d_qon 15 53 [] rfl rfl rfl hg14 (q_load_old rfl rfl sz_46 ((hs.1.rdj 4 hnl rfl))) (by kernel_rfl) (by kernel_rfl) (by kernel_rfl) rfl ?_
              refine d_pon 16 53 rfl rfl rfl hg14 (p_pure rfl) (by kernel_rfl) rfl rfl ?_
              refine d_pon 17 53 rfl rfl rfl hg14 (p_indexAddr rfl rfl rfl sl_46 (m) (by omega) (by omega) (Rw.some (hs.at hnl) (by omega))) (by kernel_rfl) rfl rfl ?_
              refine d_qon 18 53 [] rfl rfl rfl hg14 (q_load_oldn _ rfl rfl sz_62 rfl (Rw.rd (hs.at hnl) hml)) (by kernel_rfl) (by kernel_rfl) (by kernel_rfl) rfl ?_
              refine d_qon 19 53 [] rfl rfl rfl hg14 (q_call rfl fn_72 rfl (fun w1 h1 => c72 w1 _ _ (okL_nth hvk.1 hil) (okL_nth hvn.1 hml))) (by kernel_rfl) (by kernel_rfl) (by kernel_rfl) rfl ?_
              refine d_p 20 rfl (p_pickt rfl rfl hg14 rfl) (by kernel_rfl) rfl rfl ?_
              refine d_nil (by kernel_rfl) (fun w h => h.ent aEt) ?_
              exact s_joinI () trivial (sl_c (congrArg (fun e => some (Value.bool e)) (by first | (simp_all; done) | (simp_all; intro h9; omega))) aSx) (fun w h => h.ent aEt)
            · intro hg16
              have hs17 := hg16; try simp only [decide_eq_true_eq, decide_eq_false_iff_not, Bool.not_eq_true', Bool.not_eq_false', Bool.and_eq_true, Bool.or_eq_true, Bool.and_eq_false_iff, Bool.or_eq_false_iff, Bool.not_true, Bool.not_false] at hs17
              refine d_off 9 53 rfl rfl rfl hg16 (by kernel_rfl) rfl rfl ?_
              refine d_off 10 53 rfl rfl rfl hg16 (by kernel_rfl) rfl rfl ?_
              refine d_off 11 53 rfl rfl rfl hg16 (by kernel_rfl) rfl rfl ?_
              refine d_off 12 53 rfl rfl rfl hg16 (by kernel_rfl) rfl rfl ?_
              refine d_off 13 53 rfl rfl rfl hg16 (by kernel_rfl) rfl rfl ?_
              refine d_off 14 53 rfl rfl rfl hg16 (by kernel_rfl) rfl rfl ?_
              refine d_off 15 53 rfl rfl rfl hg16 (by kernel_rfl) rfl rfl ?_
              refine d_off 16 53 rfl rfl rfl hg16 (by kernel_rfl) rfl rfl ?_
              refine d_off 17 53 rfl rfl rfl hg16 (by kernel_rfl) rfl rfl ?_
              refine d_off 18 53 rfl rfl rfl hg16 (by kernel_rfl) rfl rfl ?_
              refine d_off 19 53 rfl rfl rfl hg16 (by kernel_rfl) rfl rfl ?_
              refine d_p 20 rfl (p_pickf rfl rfl hg16 rfl) (by kernel_rfl) rfl rfl ?_
              refine d_nil (by kernel_rfl) (fun w h => h.ent aEt) ?_
              exact s_joinI () trivial (sl_c (congrArg (fun e => some (Value.bool e)) (by first | (simp_all; done) | (simp_all; intro h9; omega))) aSx) (fun w h => h.ent aEt)
        · intro _ _
          refine s_cond rfl (fun h18 => ?_) (fun h18 => ?_)
          · try simp only [decide_eq_true_eq, decide_eq_false_iff_not, Bool.not_eq_true', Bool.not_eq_false', Bool.and_eq_true, Bool.or_eq_true, Bool.and_eq_false_iff, Bool.or_eq_false_iff, Bool.not_true, Bool.not_false] at h18
            have hhit : (n < k ∨ m < i) ∧ clsh (nth (nth f.op k).lk i) (nth (nth f.op n).lk m) = true := by have hq := h18; simpa using hq
            refine s_seq ?_
            refine s_region ?_
            refine o_p (p_pure rfl) rfl ?_
            refine o_nil ?_
            exact s_retv (rs := [.tmp 4]) rfl (.tmp rfl (.nil)) (fun w' h' => ⟨by rw [hi2, lockedE_drop hil, if_pos (noCl_hit hk hnl hml hnk hhit.1 hhit.2)]; rfl, h'.below⟩)
          · try simp only [decide_eq_true_eq, decide_eq_false_iff_not, Bool.not_eq_true', Bool.not_eq_false', Bool.and_eq_true, Bool.or_eq_true, Bool.and_eq_false_iff, Bool.or_eq_false_iff, Bool.not_true, Bool.not_false] at h18
            have hmiss : (n < k ∨ m < i) → clsh (nth (nth f.op k).lk i) (nth (nth f.op n).lk m) = false := by have hq := h18; (try simp at hq); intro h9; rcases h9 with h9 | h9 <;> grind
            refine s_skip ?_
            refine s_blk ?_
            refine s_region ?_
            refine o_p (p_pure rfl) rfl ?_
            refine o_p (p_pure rfl) rfl ?_
            try (refine o_slot (i64w (by omega) (by omega)) ?_)
            refine o_p (p_pure rfl) rfl ?_
            refine o_nil ?_
            exact s_backI (m + 1) (by omega) ⟨by omega, fun n2 m2 p1 p2 p3 p4 p5 => (Decidable.em (n2 = n ∧ m2 = m)).elim (fun he => by have q1 := he.1; have q2 := he.2; rw [q1, q2]; exact hmiss (by omega)) (fun he => hm2 n2 m2 p1 p2 (by omega) p4 p5)⟩ aSx (fun w h => h.ent aEt)
      · try simp only [decide_eq_true_eq, decide_eq_false_iff_not, Bool.not_eq_true', Bool.not_eq_false', Bool.and_eq_true, Bool.or_eq_true, Bool.and_eq_false_iff, Bool.or_eq_false_iff, Bool.not_true, Bool.not_false] at h5
        refine s_exit_to rfl ?_
        refine s_blk ?_
        refine s_region ?_
        refine o_p (p_pure rfl) rfl ?_
        refine o_p (p_pure rfl) rfl ?_
        try (refine o_slot (i64w (by omega) (by omega)) ?_)
        refine o_p (p_pure rfl) rfl ?_
        refine o_nil ?_
        exact s_backI (n + 1) (by omega) ⟨by omega, fun n2 m2 p1 p2 p3 => hm2 n2 m2 p1 p2 ((Nat.lt_or_ge n2 n).elim Or.inl (fun p9 => .inr (by have e9 : n2 = n := (by omega); rw [e9] at p2; exact ⟨e9, by omega⟩)))⟩ aSx (fun w h => h.ent aEt)
    · try simp only [decide_eq_true_eq, decide_eq_false_iff_not, Bool.not_eq_true', Bool.not_eq_false', Bool.and_eq_true, Bool.or_eq_true, Bool.and_eq_false_iff, Bool.or_eq_false_iff, Bool.not_true, Bool.not_false] at h4
      refine s_exit_to rfl ?_
      refine s_blk ?_
      refine s_region ?_
      refine o_p (p_pure rfl) rfl ?_
      refine o_p (p_pure rfl) rfl ?_
      try (refine o_slot (i64w (by omega) (by omega)) ?_)
      refine o_p (p_pure rfl) rfl ?_
      refine o_nil ?_
      exact s_backI (i + 1) (by omega) ⟨by omega, by rw [hi2, lockedE_drop hil, if_neg (by rw [noCl_all hk (n := n) (by omega) hn2]; decide), List.append_assoc, take_succ_nth hil]⟩ aSx (fun w h => h.ent aEt)
  · try simp only [decide_eq_true_eq, decide_eq_false_iff_not, Bool.not_eq_true', Bool.not_eq_false', Bool.and_eq_true, Bool.or_eq_true, Bool.and_eq_false_iff, Bool.or_eq_false_iff, Bool.not_true, Bool.not_false] at h2
    refine s_exit_to rfl ?_
    refine s_seq ?_
    refine s_region ?_
    refine o_p (p_pure rfl) rfl ?_
    refine o_nil ?_
    exact s_retv (rs := [.tmp 4]) rfl (.tmp rfl (.nil)) (fun w' h' => ⟨by rw [hi2, List.drop_of_length_le (by omega)]; rfl, h'.below⟩)

end Go.Proofs

namespace Go.Proofs
open Go Go.RowKit Gx
set_option linter.unusedVariables false
set_option linter.unusedSimpArgs false
attribute [local irreducible] Go.Calls Gx.S Gx.O Gx.D Gx.OpP Gx.OpQ Gx.OpH

theorem fn_22 : isFn Try.prog 22 = true := by kernel_rfl
theorem fn_98 : isFn Try.prog 98 = true := by kernel_rfl
theorem fn_23 : isFn Try.prog 23 = true := by kernel_rfl
theorem fn_99 : isFn Try.prog 99 = true := by kernel_rfl


theorem hdl_l {next : Int} {known : List Int} {ops : List LOpn} {k : Nat} (hk : k < ops.length) : hdlE next known (plo ops) k = if ¬ (1 ≤ (nth ops k).hd ∧ (nth ops k).hd ≤ next - 1) then 2 else if ¬ openE (nth ops k).ac (nth ops k).sh = 0 then openE (nth ops k).ac (nth ops k).sh else if ¬ (k = 0 ∨ (nth ops (k - 1)).hd < (nth ops k).hd) then 9 else if ¬ lksE (nth ops k).lk = 0 then lksE (nth ops k).lk else if (nth ops k).hd ∈ known then 23 else if ((plo ops).take k).any (cfl (nth ops k).pl) = true then 28 else lockedE (((plo ops).take k).flatMap Opn.lk) (nth ops k).lk := by
  rw [hdl_r, nth_plo hk, nth_plo (show k - 1 < ops.length by omega)]
  rfl
theorem hdl_okl {next : Int} {known : List Int} {ops : List LOpn} {k : Nat} (hk : k < ops.length) (h : hdlE next known (plo ops) k = 0) : openE (nth ops k).ac (nth ops k).sh = 0 ∧ (nth ops k).lk.length ≤ 16 ∧ okL (nth ops k).lk := by
  have h9 := hdl_ok h
  rw [nth_plo hk] at h9
  exact h9

set_option maxRecDepth 20000 in
set_option maxHeartbeats 1000000 in
theorem c61 (w : World) (next : Int) (a : Option Addr) (cap : Nat) (L : List LFil) (i k : Nat) (hs : Ft w [] a L) (hm : L.length ≤ 1000) (hmo : ∀ f ∈ L, f.op.length ≤ 1000) (hi : i < L.length) (hk : k < (nth L i).op.length) (hn : 1 ≤ next ∧ next ≤ 2147483647) (hv : ∀ j, j < k → hdlE next (hds ((pls L).take i)) (plo (nth L i).op) j = 0) : Calls Try.prog 61 #[.agg #[.int .i64 next, .slice a L.length cap], .int .i64 (i : Int), .int .i64 (k : Int)] w fun en w' => en = .returned (.int .i64 (hdlE next (hds ((pls L).take i)) (plo (nth L i).op) k)) ∧ Below w.heap.size w w' := by
  have hoi := hmo _ (mem_nth hi)
  refine enter (args := [_, _, _]) Try.func61 Try.ntmps61 rfl rfl (HS.refl w []) ?_
  refine s_seq ?_
  refine s_region ?_
  refine o_h (h_box rfl rfl) rfl (fun b1 _ => ?_)
  refine o_p (p_pure rfl) rfl ?_
  refine o_nil ?_
  refine s_seq ?_
  refine s_region ?_
  refine o_p (p_fieldAddr rfl rfl fd_26_1 sz_24 rfl) rfl ?_
  refine o_q (q_load rfl rfl sz_24 aPk rfl) rfl ?_
  refine o_p (p_pure rfl) rfl ?_
  refine o_p (p_indexAddr rfl rfl rfl sl_24 (i) (by omega) (by omega) (Rw.some hs.1 (by omega))) rfl ?_
  refine o_q (q_load_oldn _ rfl rfl sz_77 rfl (Rw.rd hs.1 hi)) rfl ?_
  refine o_h (h_alloc rfl zr_77) rfl (fun b2 _ => ?_)
  refine o_h0 (h_store rfl rfl rfl sz_77 rfl aPt (by simp only [setMany_length, List.length_set, List.length_cons, List.length_nil, List.length_map]; omega) rfl) (fun _ _ => ?_)
  refine o_nil ?_
  refine s_seq ?_
  refine s_region ?_
  refine o_p (p_fieldAddr rfl rfl fd_77_2 sz_75 rfl) rfl ?_
  refine o_q (q_load rfl rfl sz_75 aPk rfl) rfl ?_
  refine o_p (p_pure rfl) rfl ?_
  refine o_p (p_indexAddr rfl rfl rfl sl_75 (k) (by omega) (by omega) (Rw.some (hs.at hi).1 (by omega))) rfl ?_
  refine o_q (q_load_oldn _ rfl rfl sz_48 rfl (Rw.rd (hs.at hi).1 hk)) rfl ?_
  refine o_h (h_alloc rfl zr_48) rfl (fun b3 _ => ?_)
  refine o_h0 (h_store rfl rfl rfl sz_48 rfl aPt (by simp only [setMany_length, List.length_set, List.length_cons, List.length_nil, List.length_map]; omega) rfl) (fun _ _ => ?_)
  refine o_nil ?_
  refine s_seq ?_
  refine s_seq ?_
  refine s_region ?_
  refine o_p (p_fieldAddr rfl rfl fd_48_0 sz_3 rfl) rfl ?_
  refine o_q (q_load rfl rfl sz_3 aPk rfl) rfl ?_
  refine o_p (p_fieldAddr rfl rfl fd_26_0 sz_3 rfl) rfl ?_
  refine o_q (q_load rfl rfl sz_3 aPk rfl) rfl ?_
  refine o_p (p_pure rfl) rfl ?_
  try (refine o_slot (i64w (by omega) (by omega)) ?_)
  refine o_q (q_call rfl fn_16 rfl (fun w1 h1 => c16 w1 _ _ _)) rfl ?_
  refine o_p (p_pure rfl) rfl ?_
  refine o_nil ?_
  refine s_cond rfl (fun h4 => ?_) (fun h4 => ?_)
  · try simp only [decide_eq_true_eq, decide_eq_false_iff_not, Bool.not_eq_true', Bool.not_eq_false', Bool.and_eq_true, Bool.or_eq_true, Bool.and_eq_false_iff, Bool.or_eq_false_iff, Bool.not_true, Bool.not_false] at h4
    have hA : ¬ (1 ≤ (nth (nth L i).op k).hd ∧ (nth (nth L i).op k).hd ≤ next - 1) := by have hq := h4; (try simp at hq); omega
    refine s_seq ?_
    refine s_region ?_
    refine o_p (p_pure rfl) rfl ?_
    refine o_nil ?_
    exact s_retv (rs := [.tmp 6]) rfl (.tmp rfl (.nil)) (fun w' h' => ⟨by rw [hdl_l hk, if_pos hA]; rfl, h'.below⟩)
  · try simp only [decide_eq_true_eq, decide_eq_false_iff_not, Bool.not_eq_true', Bool.not_eq_false', Bool.and_eq_true, Bool.or_eq_true, Bool.and_eq_false_iff, Bool.or_eq_false_iff, Bool.not_true, Bool.not_false] at h4
    have hA : 1 ≤ (nth (nth L i).op k).hd ∧ (nth (nth L i).op k).hd ≤ next - 1 := by have hq := h4; (try simp at hq); omega
    refine s_skip ?_
    refine s_seq ?_
    refine s_seq ?_
    refine s_region ?_
    refine o_q (q_loadn rfl rfl sz_48 aPk rfl) rfl ?_
    refine o_q (q_call rfl fn_22 rfl (fun w1 h1 => c22 w1 (nth (nth L i).op k))) rfl ?_
    refine o_p (p_pure rfl) rfl ?_
    refine o_nil ?_
    refine s_seq ?_
    refine s_region ?_
    refine o_p (p_pure rfl) rfl ?_
    refine o_p (p_pure rfl) rfl ?_
    refine o_nil ?_
    refine s_cond rfl (fun h5 => ?_) (fun h5 => ?_)
    · try simp only [decide_eq_true_eq, decide_eq_false_iff_not, Bool.not_eq_true', Bool.not_eq_false', Bool.and_eq_true, Bool.or_eq_true, Bool.and_eq_false_iff, Bool.or_eq_false_iff, Bool.not_true, Bool.not_false] at h5
      have hB : ¬ openE (nth (nth L i).op k).ac (nth (nth L i).op k).sh = 0 := h5
      refine s_seq ?_
      refine s_region ?_
      refine o_p (p_pure rfl) rfl ?_
      refine o_p (p_pure rfl) rfl ?_
      refine o_nil ?_
      exact s_retv (rs := [.tmp 6]) rfl (.tmp rfl (.nil)) (fun w' h' => ⟨by rw [hdl_l hk, if_neg (not_not_intro hA), if_pos hB]; rfl, h'.below⟩)
    · try simp only [decide_eq_true_eq, decide_eq_false_iff_not, Bool.not_eq_true', Bool.not_eq_false', Bool.and_eq_true, Bool.or_eq_true, Bool.and_eq_false_iff, Bool.or_eq_false_iff, Bool.not_true, Bool.not_false] at h5
      have hB : openE (nth (nth L i).op k).ac (nth (nth L i).op k).sh = 0 := h5
      refine s_skip ?_
      refine s_seq ?_
      refine s_seq ?_
      refine s_weaken (L' := [(1, _), (2, _), (3, _), (6, _), (7, _), (8, _)]) aSx (fun _ h => h) ?_
      refine s_cutI (α := Unit) [36, 37, 38, 39, 40, 41, 42, 43, 44, 45, 46, 47, 48, 49] (fun _ => [(49, .bool (decide (¬ (k = 0 ∨ (nth (nth L i).op (k - 1)).hd < (nth (nth L i).op k).hd))))]) (fun _ => HS w [] [.blk b1 26 2 [.int .i64 next, .slice a L.length cap], .blk b2 77 4 (nth L i).vals, .blk b3 48 5 (nth (nth L i).op k).vals]) (fun _ => True) ?_ ?_
      · skip
        refine s_draw [] mixed ?_
        refine d_p 0 rfl (p_pure rfl) (by kernel_rfl) rfl rfl ?_
        refine d_p 1 rfl (p_pure rfl) (by kernel_rfl) rfl rfl ?_
        refine d_p 2 rfl (p_pure rfl) (by kernel_rfl) rfl rfl ?_
        apply d_split 38
        · exact rfl
        · intro hg6
          have hs7 := hg6; try simp only [decide_eq_true_eq, decide_eq_false_iff_not, Bool.not_eq_true', Bool.not_eq_false', Bool.and_eq_true, Bool.or_eq_true, Bool.and_eq_false_iff, Bool.or_eq_false_iff, Bool.not_true, Bool.not_false] at hs7
          refine d_pon 3 38 rfl rfl rfl hg6 (p_fieldAddr rfl rfl fd_48_0 sz_3 rfl) (by kernel_rfl) rfl rfl ?_
          refine d_qon 4 38 [] rfl rfl rfl hg6 (q_load rfl rfl sz_3 aPk rfl) (by kernel_rfl) (by kernel_rfl) (by kernel_rfl) rfl ?_
          refine d_pon 5 38 rfl rfl rfl hg6 (p_fieldAddr rfl rfl fd_77_2 sz_75 rfl) (by kernel_rfl) rfl rfl ?_
          refine d_qon 6 38 [] rfl rfl rfl hg6 (q_load rfl rfl sz_75 aPk rfl) (by kernel_rfl) (by kernel_rfl) (by kernel_rfl) rfl ?_
          refine d_pon 7 38 rfl rfl rfl hg6 (p_pure rfl) (by kernel_rfl) rfl rfl ?_
          refine d_pon 8 38 rfl rfl rfl hg6 (p_pure rfl) (by kernel_rfl) rfl rfl ?_
          try (refine d_slot (i64w (by omega) (by omega)) ?_)
          refine d_pon 9 38 rfl rfl rfl hg6 (p_indexAddr rfl rfl rfl sl_75 ((k - 1)) (by omega) (by omega) (Rw.some (hs.at hi).1 (by omega))) (by kernel_rfl) rfl rfl ?_
          refine d_pon 10 38 rfl rfl rfl hg6 (p_fieldAddr rfl rfl fd_48_0 sz_3 rfl) (by kernel_rfl) rfl rfl ?_
          refine d_qon 11 38 [] rfl rfl rfl hg6 (q_load_old rfl rfl sz_3 (((hs.at hi).1.rdj 0 (show k - 1 < (nth L i).op.length by omega) rfl))) (by kernel_rfl) (by kernel_rfl) (by kernel_rfl) rfl ?_
          refine d_pon 12 38 rfl rfl rfl hg6 (p_pure rfl) (by kernel_rfl) rfl rfl ?_
          refine d_p 13 rfl (p_pickt rfl rfl hg6 rfl) (by kernel_rfl) rfl rfl ?_
          refine d_nil (by kernel_rfl) (fun w h => h.ent aEt) ?_
          exact s_joinI () trivial (sl_c (congrArg (fun e => some (Value.bool e)) (by have hq := hg6; simp at hq; first | (rw [decide_eq_decide]; omega) | (subst hq; simp; done) | (have h0 : k = 0 := by omega); simp [h0])) aSx) (fun w h => h.ent aEt)
        · intro hg8
          have hs9 := hg8; try simp only [decide_eq_true_eq, decide_eq_false_iff_not, Bool.not_eq_true', Bool.not_eq_false', Bool.and_eq_true, Bool.or_eq_true, Bool.and_eq_false_iff, Bool.or_eq_false_iff, Bool.not_true, Bool.not_false] at hs9
          refine d_off 3 38 rfl rfl rfl hg8 (by kernel_rfl) rfl rfl ?_
          refine d_off 4 38 rfl rfl rfl hg8 (by kernel_rfl) rfl rfl ?_
          refine d_off 5 38 rfl rfl rfl hg8 (by kernel_rfl) rfl rfl ?_
          refine d_off 6 38 rfl rfl rfl hg8 (by kernel_rfl) rfl rfl ?_
          refine d_off 7 38 rfl rfl rfl hg8 (by kernel_rfl) rfl rfl ?_
          refine d_off 8 38 rfl rfl rfl hg8 (by kernel_rfl) rfl rfl ?_
          refine d_off 9 38 rfl rfl rfl hg8 (by kernel_rfl) rfl rfl ?_
          refine d_off 10 38 rfl rfl rfl hg8 (by kernel_rfl) rfl rfl ?_
          refine d_off 11 38 rfl rfl rfl hg8 (by kernel_rfl) rfl rfl ?_
          refine d_off 12 38 rfl rfl rfl hg8 (by kernel_rfl) rfl rfl ?_
          refine d_p 13 rfl (p_pickf rfl rfl hg8 rfl) (by kernel_rfl) rfl rfl ?_
          refine d_nil (by kernel_rfl) (fun w h => h.ent aEt) ?_
          exact s_joinI () trivial (sl_c (congrArg (fun e => some (Value.bool e)) (by have hq := hg8; simp at hq; first | (rw [decide_eq_decide]; omega) | (subst hq; simp; done) | (have h0 : k = 0 := by omega); simp [h0])) aSx) (fun w h => h.ent aEt)
      · intro _ _
        refine s_cond rfl (fun h10 => ?_) (fun h10 => ?_)
        · try simp only [decide_eq_true_eq, decide_eq_false_iff_not, Bool.not_eq_true', Bool.not_eq_false', Bool.and_eq_true, Bool.or_eq_true, Bool.and_eq_false_iff, Bool.or_eq_false_iff, Bool.not_true, Bool.not_false] at h10
          have hC : ¬ (k = 0 ∨ (nth (nth L i).op (k - 1)).hd < (nth (nth L i).op k).hd) := by have hq := h10; simpa using hq
          refine s_seq ?_
          refine s_region ?_
          refine o_p (p_pure rfl) rfl ?_
          refine o_nil ?_
          exact s_retv (rs := [.tmp 6]) rfl (.tmp rfl (.nil)) (fun w' h' => ⟨by rw [hdl_l hk, if_neg (not_not_intro hA), if_neg (not_not_intro hB), if_pos hC]; rfl, h'.below⟩)
        · try simp only [decide_eq_true_eq, decide_eq_false_iff_not, Bool.not_eq_true', Bool.not_eq_false', Bool.and_eq_true, Bool.or_eq_true, Bool.and_eq_false_iff, Bool.or_eq_false_iff, Bool.not_true, Bool.not_false] at h10
          have hC : k = 0 ∨ (nth (nth L i).op (k - 1)).hd < (nth (nth L i).op k).hd := by have hq := h10; (try simp at hq); omega
          refine s_skip ?_
          refine s_seq ?_
          refine s_seq ?_
          refine s_region ?_
          refine o_q (q_loadn rfl rfl sz_48 aPk rfl) rfl ?_
          refine o_q (q_call rfl fn_98 rfl (fun w1 h1 => c98 w1 (nth (nth L i).op k) (((hs.at hi).at hk).later h1))) rfl ?_
          refine o_p (p_pure rfl) rfl ?_
          refine o_nil ?_
          refine s_seq ?_
          refine s_region ?_
          refine o_p (p_pure rfl) rfl ?_
          refine o_p (p_pure rfl) rfl ?_
          refine o_nil ?_
          refine s_cond rfl (fun h11 => ?_) (fun h11 => ?_)
          · try simp only [decide_eq_true_eq, decide_eq_false_iff_not, Bool.not_eq_true', Bool.not_eq_false', Bool.and_eq_true, Bool.or_eq_true, Bool.and_eq_false_iff, Bool.or_eq_false_iff, Bool.not_true, Bool.not_false] at h11
            have hD : ¬ lksE (nth (nth L i).op k).lk = 0 := h11
            refine s_seq ?_
            refine s_region ?_
            refine o_p (p_pure rfl) rfl ?_
            refine o_p (p_pure rfl) rfl ?_
            refine o_nil ?_
            exact s_retv (rs := [.tmp 6]) rfl (.tmp rfl (.nil)) (fun w' h' => ⟨by rw [hdl_l hk, if_neg (not_not_intro hA), if_neg (not_not_intro hB), if_neg (not_not_intro hC), if_pos hD]; rfl, h'.below⟩)
          · try simp only [decide_eq_true_eq, decide_eq_false_iff_not, Bool.not_eq_true', Bool.not_eq_false', Bool.and_eq_true, Bool.or_eq_true, Bool.and_eq_false_iff, Bool.or_eq_false_iff, Bool.not_true, Bool.not_false] at h11
            have hD : lksE (nth (nth L i).op k).lk = 0 := h11
            have hD2 := lksE_0 hD
            refine s_skip ?_
            refine s_seq ?_
            refine s_seq ?_
            refine s_region ?_
            refine o_p (p_pure rfl) rfl ?_
            refine o_nil ?_
            refine s_block ?_
            refine s_loopI (α := Nat) [6, 11, 12, 55, 56, 57, 58, 59, 60, 61, 62, 63, 64, 65, 66, 67, 68, 69, 70, 71, 72, 73, 74, 75, 76, 77, 78, 79, 80, 81, 82, 83] (fun n => [(11, .int .i64 (n : Int))]) (fun _ => HS w [] [.blk b1 26 2 [.int .i64 next, .slice a L.length cap], .blk b2 77 4 (nth L i).vals, .blk b3 48 5 (nth (nth L i).op k).vals]) (fun n => n ≤ i ∧ ∀ n2, n2 < n → ∀ m2, m2 < (nth L n2).op.length → (nth (nth L n2).op m2).hd ≠ (nth (nth L i).op k).hd) (fun n => i - n) 0 ⟨Nat.zero_le _, fun n2 h => absurd h (Nat.not_lt_zero n2)⟩ aSx (fun w h => h.ent aEt) (fun n hy => ?_)
            obtain ⟨hn1, hn2⟩ := hy
            refine s_seq ?_
            refine s_seq ?_
            refine s_region ?_
            refine o_p (p_pure rfl) rfl ?_
            refine o_p (p_pure rfl) rfl ?_
            refine o_p (p_pure rfl) rfl ?_
            refine o_nil ?_
            refine s_cond rfl (fun h12 => ?_) (fun h12 => ?_)
            · try simp only [decide_eq_true_eq, decide_eq_false_iff_not, Bool.not_eq_true', Bool.not_eq_false', Bool.and_eq_true, Bool.or_eq_true, Bool.and_eq_false_iff, Bool.or_eq_false_iff, Bool.not_true, Bool.not_false] at h12
              have hni : n < i := by omega
              have hnl : n < L.length := by omega
              have hon := hmo _ (mem_nth hnl)
              refine s_skip ?_
              refine s_seq ?_
              refine s_block ?_
              refine s_seq ?_
              refine s_region ?_
              refine o_p (p_pure rfl) rfl ?_
              refine o_nil ?_
              refine s_block ?_
              refine s_loopI (α := Nat) [6, 12, 60, 61, 62, 63, 64, 65, 66, 67, 68, 69, 70, 71, 72, 73, 74, 75, 76, 77, 78, 79, 80, 81, 82, 83] (fun m => [(12, .int .i64 (m : Int))]) (fun _ => HS w [] [.blk b1 26 2 [.int .i64 next, .slice a L.length cap], .blk b2 77 4 (nth L i).vals, .blk b3 48 5 (nth (nth L i).op k).vals]) (fun m => m ≤ (nth L n).op.length ∧ ∀ m2, m2 < m → (nth (nth L n).op m2).hd ≠ (nth (nth L i).op k).hd) (fun m => (nth L n).op.length - m) 0 ⟨Nat.zero_le _, fun n2 h => absurd h (Nat.not_lt_zero n2)⟩ aSx (fun w h => h.ent aEt) (fun m hy => ?_)
              obtain ⟨hm1, hm2⟩ := hy
              refine s_seq ?_
              refine s_seq ?_
              refine s_region ?_
              refine o_p (p_pure rfl) rfl ?_
              refine o_p (p_fieldAddr rfl rfl fd_26_1 sz_24 rfl) rfl ?_
              refine o_q (q_load rfl rfl sz_24 aPk rfl) rfl ?_
              refine o_p (p_pure rfl) rfl ?_
              refine o_p (p_indexAddr rfl rfl rfl sl_24 (n) (by omega) (by omega) (Rw.some hs.1 (by omega))) rfl ?_
              refine o_p (p_fieldAddr rfl rfl fd_77_2 sz_75 rfl) rfl ?_
              refine o_q (q_load_old rfl rfl sz_75 ((hs.1.rdj 3 hnl rfl))) rfl ?_
              refine o_p (p_len_slice rfl rfl Try.underlying75) rfl ?_
              refine o_p (p_pure rfl) rfl ?_
              refine o_nil ?_
              refine s_cond rfl (fun h13 => ?_) (fun h13 => ?_)
              · try simp only [decide_eq_true_eq, decide_eq_false_iff_not, Bool.not_eq_true', Bool.not_eq_false', Bool.and_eq_true, Bool.or_eq_true, Bool.and_eq_false_iff, Bool.or_eq_false_iff, Bool.not_true, Bool.not_false] at h13
                have hml : m < (nth L n).op.length := by omega
                refine s_skip ?_
                refine s_seq ?_
                refine s_block ?_
                refine s_seq ?_
                refine s_draw [] mixed ?_
                refine d_p 0 rfl (p_fieldAddr rfl rfl fd_26_1 sz_24 rfl) (by kernel_rfl) rfl rfl ?_
                refine d_q 1 [] rfl (q_load rfl rfl sz_24 aPk rfl) (by kernel_rfl) (by kernel_rfl) (by kernel_rfl) rfl ?_
                refine d_p 2 rfl (p_pure rfl) (by kernel_rfl) rfl rfl ?_
                refine d_p 3 rfl (p_indexAddr rfl rfl rfl sl_24 (n) (by omega) (by omega) (Rw.some hs.1 (by omega))) (by kernel_rfl) rfl rfl ?_
                refine d_p 4 rfl (p_fieldAddr rfl rfl fd_77_2 sz_75 rfl) (by kernel_rfl) rfl rfl ?_
                refine d_q 5 [] rfl (q_load_old rfl rfl sz_75 ((hs.1.rdj 3 hnl rfl))) (by kernel_rfl) (by kernel_rfl) (by kernel_rfl) rfl ?_
                refine d_p 6 rfl (p_pure rfl) (by kernel_rfl) rfl rfl ?_
                refine d_p 7 rfl (p_indexAddr rfl rfl rfl sl_75 (m) (by omega) (by omega) (Rw.some (hs.at hnl).1 (by omega))) (by kernel_rfl) rfl rfl ?_
                refine d_p 8 rfl (p_fieldAddr rfl rfl fd_48_0 sz_3 rfl) (by kernel_rfl) rfl rfl ?_
                refine d_q 9 [] rfl (q_load_old rfl rfl sz_3 (((hs.at hnl).1.rdj 0 hml rfl))) (by kernel_rfl) (by kernel_rfl) (by kernel_rfl) rfl ?_
                refine d_p 10 rfl (p_fieldAddr rfl rfl fd_48_0 sz_3 rfl) (by kernel_rfl) rfl rfl ?_
                refine d_q 11 [] rfl (q_load rfl rfl sz_3 aPk rfl) (by kernel_rfl) (by kernel_rfl) (by kernel_rfl) rfl ?_
                refine d_p 12 rfl (p_pure rfl) (by kernel_rfl) rfl rfl ?_
                refine d_nil (by kernel_rfl) (fun w h => h.ent aEt) ?_
                refine s_cond rfl (fun h14 => ?_) (fun h14 => ?_)
                · try simp only [decide_eq_true_eq, decide_eq_false_iff_not, Bool.not_eq_true', Bool.not_eq_false', Bool.and_eq_true, Bool.or_eq_true, Bool.and_eq_false_iff, Bool.or_eq_false_iff, Bool.not_true, Bool.not_false] at h14
                  have hyes : (nth (nth L i).op k).hd ∈ (hds ((pls L).take i)) := hds_mem.2 ⟨n, m, hni, hnl, hml, h14⟩
                  refine s_seq ?_
                  refine s_weaken (L' := [(1, _), (2, _), (3, _), (7, _), (8, _), (10, _), (11, _), (12, _), (49, _), (50, _), (51, _), (52, _), (53, _), (55, _), (56, _), (57, _)]) aSx (fun _ h => h) ?_
                  refine s_region ?_
                  refine o_p (p_pure rfl) rfl ?_
                  refine o_nil ?_
                  exact s_retv (rs := [.tmp 6]) rfl (.tmp rfl (.nil)) (fun w' h' => ⟨by rw [hdl_l hk, if_neg (not_not_intro hA), if_neg (not_not_intro hB), if_neg (not_not_intro hC), if_neg (not_not_intro hD), if_pos hyes]; rfl, h'.below⟩)
                · try simp only [decide_eq_true_eq, decide_eq_false_iff_not, Bool.not_eq_true', Bool.not_eq_false', Bool.and_eq_true, Bool.or_eq_true, Bool.and_eq_false_iff, Bool.or_eq_false_iff, Bool.not_true, Bool.not_false] at h14
                  refine s_skip ?_
                  refine s_blk ?_
                  refine s_weaken (L' := [(1, _), (2, _), (3, _), (7, _), (8, _), (10, _), (11, _), (12, _), (49, _), (50, _), (51, _), (52, _), (53, _), (55, _), (56, _), (57, _)]) aSx (fun _ h => h) ?_
                  refine s_region ?_
                  refine o_p (p_pure rfl) rfl ?_
                  refine o_p (p_pure rfl) rfl ?_
                  try (refine o_slot (i64w (by omega) (by omega)) ?_)
                  refine o_p (p_pure rfl) rfl ?_
                  refine o_nil ?_
                  exact s_backI (m + 1) (by omega) ⟨by omega, fun m2 p1 => (Nat.lt_or_ge m2 m).elim (hm2 m2) (fun p3 => by have e9 : m2 = m := (by omega); rw [e9]; exact h14)⟩ aSx (fun w h => h.ent aEt)
              · try simp only [decide_eq_true_eq, decide_eq_false_iff_not, Bool.not_eq_true', Bool.not_eq_false', Bool.and_eq_true, Bool.or_eq_true, Bool.and_eq_false_iff, Bool.or_eq_false_iff, Bool.not_true, Bool.not_false] at h13
                refine s_exit_to rfl ?_
                refine s_blk ?_
                refine s_region ?_
                refine o_p (p_pure rfl) rfl ?_
                refine o_p (p_pure rfl) rfl ?_
                try (refine o_slot (i64w (by omega) (by omega)) ?_)
                refine o_p (p_pure rfl) rfl ?_
                refine o_nil ?_
                exact s_backI (n + 1) (by omega) ⟨by omega, fun n2 p1 m2 p2 => (Nat.lt_or_ge n2 n).elim (fun p3 => hn2 n2 p3 m2 p2) (fun p3 => by have e9 : n2 = n := (by omega); rw [e9] at p2 ⊢; exact hm2 m2 (by omega))⟩ aSx (fun w h => h.ent aEt)
            · try simp only [decide_eq_true_eq, decide_eq_false_iff_not, Bool.not_eq_true', Bool.not_eq_false', Bool.and_eq_true, Bool.or_eq_true, Bool.and_eq_false_iff, Bool.or_eq_false_iff, Bool.not_true, Bool.not_false] at h12
              have hno : (nth (nth L i).op k).hd ∉ (hds ((pls L).take i)) := by rw [hds_mem]; rintro ⟨n2, m2, p1, p2, p3, p4⟩; exact hn2 n2 (by omega) m2 p3 p4
              refine s_exit_to rfl ?_
              refine s_seq ?_
              refine s_seq ?_
              refine s_region ?_
              refine o_p (p_pure rfl) rfl ?_
              refine o_nil ?_
              refine s_block ?_
              refine s_loopI (α := Nat) [6, 13, 84, 85, 86, 87, 88, 89, 90, 91, 92, 93, 94, 95] (fun m => [(13, .int .i64 (m : Int))]) (fun _ => HS w [] [.blk b1 26 2 [.int .i64 next, .slice a L.length cap], .blk b2 77 4 (nth L i).vals, .blk b3 48 5 (nth (nth L i).op k).vals]) (fun m => m ≤ k ∧ ∀ m2, m2 < m → cfl (nth (nth L i).op m2).pl (nth (nth L i).op k).pl = false) (fun m => k - m) 0 ⟨Nat.zero_le _, fun n2 h => absurd h (Nat.not_lt_zero n2)⟩ aSx (fun w h => h.ent aEt) (fun p hy => ?_)
              obtain ⟨hp1, hp2⟩ := hy
              refine s_seq ?_
              refine s_seq ?_
              refine s_region ?_
              refine o_p (p_pure rfl) rfl ?_
              refine o_p (p_pure rfl) rfl ?_
              refine o_p (p_pure rfl) rfl ?_
              refine o_nil ?_
              refine s_cond rfl (fun h15 => ?_) (fun h15 => ?_)
              · try simp only [decide_eq_true_eq, decide_eq_false_iff_not, Bool.not_eq_true', Bool.not_eq_false', Bool.and_eq_true, Bool.or_eq_true, Bool.and_eq_false_iff, Bool.or_eq_false_iff, Bool.not_true, Bool.not_false] at h15
                have hpk : p < k := by omega
                have hpl : p < (nth L i).op.length := by omega
                refine s_skip ?_
                refine s_seq ?_
                refine s_block ?_
                refine s_seq ?_
                refine s_draw [] mixed ?_
                refine d_p 0 rfl (p_fieldAddr rfl rfl fd_77_2 sz_75 rfl) (by kernel_rfl) rfl rfl ?_
                refine d_q 1 [] rfl (q_load rfl rfl sz_75 aPk rfl) (by kernel_rfl) (by kernel_rfl) (by kernel_rfl) rfl ?_
                refine d_p 2 rfl (p_pure rfl) (by kernel_rfl) rfl rfl ?_
                refine d_p 3 rfl (p_indexAddr rfl rfl rfl sl_75 (p) (by omega) (by omega) (Rw.some (hs.at hi).1 (by omega))) (by kernel_rfl) rfl rfl ?_
                refine d_q 4 [] rfl (q_load_oldn _ rfl rfl sz_48 rfl (Rw.rd (hs.at hi).1 hpl)) (by kernel_rfl) (by kernel_rfl) (by kernel_rfl) rfl ?_
                refine d_q 5 [] rfl (q_loadn rfl rfl sz_48 aPk rfl) (by kernel_rfl) (by kernel_rfl) (by kernel_rfl) rfl ?_
                refine d_q 6 [] rfl (q_call rfl fn_23 rfl (fun w1 h1 => c23 w1 (nth (nth L i).op p) (nth (nth L i).op k) (hdl_okl hpl (hv p hpk)).1 hB)) (by kernel_rfl) (by kernel_rfl) (by kernel_rfl) rfl ?_
                refine d_nil (by kernel_rfl) (fun w h => h.ent aEt) ?_
                refine s_cond rfl (fun h16 => ?_) (fun h16 => ?_)
                · try simp only [decide_eq_true_eq, decide_eq_false_iff_not, Bool.not_eq_true', Bool.not_eq_false', Bool.and_eq_true, Bool.or_eq_true, Bool.and_eq_false_iff, Bool.or_eq_false_iff, Bool.not_true, Bool.not_false] at h16
                  have hyc : ((plo (nth L i).op).take k).any (cfl (nth (nth L i).op k).pl) = true := (any_take (by omega)).2 ⟨p, hpk, by rw [cfl_comm]; exact h16⟩
                  refine s_seq ?_
                  refine s_region ?_
                  refine o_p (p_pure rfl) rfl ?_
                  refine o_nil ?_
                  exact s_retv (rs := [.tmp 6]) rfl (.tmp rfl (.nil)) (fun w' h' => ⟨by rw [hdl_l hk, if_neg (not_not_intro hA), if_neg (not_not_intro hB), if_neg (not_not_intro hC), if_neg (not_not_intro hD), if_neg hno, if_pos hyc]; rfl, h'.below⟩)
                · try simp only [decide_eq_true_eq, decide_eq_false_iff_not, Bool.not_eq_true', Bool.not_eq_false', Bool.and_eq_true, Bool.or_eq_true, Bool.and_eq_false_iff, Bool.or_eq_false_iff, Bool.not_true, Bool.not_false] at h16
                  have hmiss : cfl (nth (nth L i).op p).pl (nth (nth L i).op k).pl = false := by have hq := h16; simpa using hq
                  refine s_skip ?_
                  refine s_blk ?_
                  refine s_region ?_
                  refine o_p (p_pure rfl) rfl ?_
                  refine o_p (p_pure rfl) rfl ?_
                  try (refine o_slot (i64w (by omega) (by omega)) ?_)
                  refine o_p (p_pure rfl) rfl ?_
                  refine o_nil ?_
                  exact s_backI (p + 1) (by omega) ⟨by omega, fun m2 p1 => (Nat.lt_or_ge m2 p).elim (hp2 m2) (fun p3 => by have e9 : m2 = p := (by omega); rw [e9]; exact hmiss)⟩ aSx (fun w h => h.ent aEt)
              · try simp only [decide_eq_true_eq, decide_eq_false_iff_not, Bool.not_eq_true', Bool.not_eq_false', Bool.and_eq_true, Bool.or_eq_true, Bool.and_eq_false_iff, Bool.or_eq_false_iff, Bool.not_true, Bool.not_false] at h15
                have hnc : ¬ ((plo (nth L i).op).take k).any (cfl (nth (nth L i).op k).pl) = true := by rw [any_take (by omega)]; rintro ⟨m2, p1, p2⟩; rw [cfl_comm, hp2 m2 (by omega)] at p2; cases p2
                refine s_exit_to rfl ?_
                refine s_seq ?_
                refine s_region ?_
                refine o_q (q_loadn rfl rfl sz_77 aPk rfl) rfl ?_
                refine o_p (p_pure rfl) rfl ?_
                refine o_q (q_call rfl fn_99 rfl (fun w1 h1 => c99 w1 (nth L i) k ((hs.at hi).later h1) hk hoi (fun n p1 => (Nat.lt_or_ge n k).elim (fun p2 => (hdl_okl (by omega) (hv n p2)).2.symm) (fun p2 => by have e9 : n = k := (by omega); rw [e9]; exact hD2.symm)))) rfl ?_
                refine o_p (p_pure rfl) rfl ?_
                refine o_nil ?_
                exact s_retv (rs := [.tmp 6]) rfl (.tmp rfl (.nil)) (fun w' h' => ⟨by rw [hdl_l hk, if_neg (not_not_intro hA), if_neg (not_not_intro hB), if_neg (not_not_intro hC), if_neg (not_not_intro hD), if_neg hno, if_neg hnc]; rfl, h'.below⟩)

end Go.Proofs

namespace Go.Proofs
open Go Go.RowKit Gx
set_option linter.unusedVariables false
set_option linter.unusedSimpArgs false
attribute [local irreducible] Go.Calls Gx.S Gx.O Gx.D Gx.OpP Gx.OpQ Gx.OpH

theorem fn_34 : isFn Try.prog 34 = true := by kernel_rfl
theorem fn_32 : isFn Try.prog 32 = true := by kernel_rfl
theorem fn_60 : isFn Try.prog 60 = true := by kernel_rfl
theorem fn_61 : isFn Try.prog 61 = true := by kernel_rfl
theorem fn_20 : isFn Try.prog 20 = true := by kernel_rfl


theorem hdlEs_len {next : Int} {ks : List Int} {ops : List LOpn} : (hdlEs next ks (plo ops)).length = ops.length := by simp [hdlEs]
theorem filEs_len {next : Int} {L : List LFil} : (filEs next (pls L)).length = L.length := by simp [filEs]
theorem filEs_getl {next : Int} {L : List LFil} {k : Nat} (h : k < L.length) : (filEs next (pls L)).getD k 0 = filE next (pls L) k := filEs_get (by simpa using h)
theorem hdlEs_getl {next : Int} {ks : List Int} {ops : List LOpn} {k : Nat} (h : k < ops.length) : (hdlEs next ks (plo ops)).getD k 0 = hdlE next ks (plo ops) k := hdlEs_get (by simpa using h)
theorem chk_r {next : Int} {L : List LFil} (h1 : 1 ≤ next ∧ next ≤ 2147483647) (h2 : L.length ≤ 32 ∧ cntT (pls L) ≤ 32) : chkT next (pls L) = eachF (filEs next (pls L)) 0 := by
  unfold chkT filEs
  rw [if_pos h1, if_pos (by simpa using h2)]
theorem chk_1 {next : Int} {L : List LFil} (h1 : ¬ (1 ≤ next ∧ next ≤ 2147483647)) : chkT next (pls L) = (0, 2) := by
  unfold chkT
  rw [if_neg h1]
theorem chk_2 {next : Int} {L : List LFil} (h1 : 1 ≤ next ∧ next ≤ 2147483647) (h2 : ¬ (L.length ≤ 32 ∧ cntT (pls L) ≤ 32)) : chkT next (pls L) = (0, 8) := by
  unfold chkT
  rw [if_pos h1, if_neg (by simpa using h2)]
theorem chk_at {next : Int} {L : List LFil} {i : Nat} (h1 : 1 ≤ next ∧ next ≤ 2147483647) (h2 : L.length ≤ 32 ∧ cntT (pls L) ≤ 32) (h3 : eachF (filEs next (pls L)) 0 = eachF ((filEs next (pls L)).drop i) i) (hi : i < L.length) (h4 : ¬ filE next (pls L) i = 0) : chkT next (pls L) = ((i : Int), filE next (pls L) i) := by
  rw [chk_r h1 h2, h3, eachF_drop (by rw [filEs_len]; exact hi), filEs_getl hi, if_neg h4]

set_option maxRecDepth 20000 in
set_option maxHeartbeats 1000000 in
theorem c20 (w : World) (next : Int) (a : Option Addr) (cap : Nat) (L : List LFil) (hs : Ft w [] a L) (hm : L.length ≤ 1000) (hmo : ∀ f ∈ L, f.op.length ≤ 1000) : Calls Try.prog 20 #[.agg #[.int .i64 next, .slice a L.length cap]] w fun en w' => en = .returned (.tuple #[.int .i64 (chkT next (pls L)).1, .int .i64 (chkT next (pls L)).2]) ∧ Below w.heap.size w w' := by
  have hfl := filEs_len (next := next) (L := L)
  refine enter (args := [_]) Try.func20 Try.ntmps20 rfl rfl (HS.refl w []) ?_
  refine s_seq ?_
  refine s_region ?_
  refine o_h (h_box rfl rfl) rfl (fun b1 _ => ?_)
  refine o_p (p_pure rfl) rfl ?_
  refine o_p (p_pure rfl) rfl ?_
  refine o_nil ?_
  refine s_seq ?_
  refine s_seq ?_
  refine s_region ?_
  refine o_p (p_fieldAddr rfl rfl fd_26_0 sz_3 rfl) rfl ?_
  refine o_q (q_load rfl rfl sz_3 aPk rfl) rfl ?_
  refine o_q (q_call rfl fn_16 rfl (fun w1 h1 => c16 w1 _ _ _)) rfl ?_
  refine o_p (p_pure rfl) rfl ?_
  refine o_nil ?_
  refine s_cond rfl (fun h2 => ?_) (fun h2 => ?_)
  · try simp only [decide_eq_true_eq, decide_eq_false_iff_not, Bool.not_eq_true', Bool.not_eq_false', Bool.and_eq_true, Bool.or_eq_true, Bool.and_eq_false_iff, Bool.or_eq_false_iff, Bool.not_true, Bool.not_false] at h2
    have hn : ¬ (1 ≤ next ∧ next ≤ 2147483647) := by have hq := h2; (try simp at hq); omega
    refine s_seq ?_
    refine s_region ?_
    refine o_p (p_pure rfl) rfl ?_
    refine o_p (p_pure rfl) rfl ?_
    refine o_nil ?_
    exact s_retv (rs := [.tmp 2, .tmp 3]) rfl (.tmp rfl (.tmp rfl (.nil))) (fun w' h' => ⟨by rw [chk_1 hn]; rfl, h'.below⟩)
  · try simp only [decide_eq_true_eq, decide_eq_false_iff_not, Bool.not_eq_true', Bool.not_eq_false', Bool.and_eq_true, Bool.or_eq_true, Bool.and_eq_false_iff, Bool.or_eq_false_iff, Bool.not_true, Bool.not_false] at h2
    have hn : 1 ≤ next ∧ next ≤ 2147483647 := by have hq := h2; (try simp at hq); omega
    refine s_skip ?_
    refine s_seq ?_
    refine s_seq ?_
    refine s_region ?_
    refine o_p (p_fieldAddr rfl rfl fd_26_1 sz_24 rfl) rfl ?_
    refine o_q (q_load rfl rfl sz_24 aPk rfl) rfl ?_
    refine o_p (p_len_slice rfl rfl Try.underlying24) rfl ?_
    refine o_p (p_pure rfl) rfl ?_
    refine o_p (p_pure rfl) rfl ?_
    refine o_or 4 17 21 _ _ rfl
      (by
        intro hg3
        have hs4 := hg3; try simp only [decide_eq_true_eq, decide_eq_false_iff_not, Bool.not_eq_true', Bool.not_eq_false', Bool.and_eq_true, Bool.or_eq_true, Bool.and_eq_false_iff, Bool.or_eq_false_iff, Bool.not_true, Bool.not_false] at hs4
        refine o_on 17 _ rfl rfl hg3 ?_
        refine o_q (q_loadn rfl rfl sz_26 aPk rfl) rfl ?_
        refine o_on 17 _ rfl rfl hg3 ?_
        refine o_q (q_call rfl fn_34 rfl (fun w1 h1 => c34 w1 next a cap L (hs.later h1) hm hmo)) rfl ?_
        refine o_on 17 _ rfl rfl hg3 ?_
        refine o_p (p_pure rfl) rfl ?_
        refine o_p (p_pickf rfl rfl hg3 rfl) rfl ?_
        refine o_nil ?_
        exact s_joinN 4 21 _ rfl rfl rfl (fun w h => by first | exact h | exact h.ent aEt))
      (by
        intro hg5
        have hs6 := hg5; try simp only [decide_eq_true_eq, decide_eq_false_iff_not, Bool.not_eq_true', Bool.not_eq_false', Bool.and_eq_true, Bool.or_eq_true, Bool.and_eq_false_iff, Bool.or_eq_false_iff, Bool.not_true, Bool.not_false] at hs6
        refine o_off 17 _ rfl rfl hg5 rfl ?_
        refine o_off 17 _ rfl rfl hg5 rfl ?_
        refine o_off 17 _ rfl rfl hg5 rfl ?_
        refine o_p (p_pickt rfl rfl hg5 rfl) rfl ?_
        refine o_nil ?_
        exact s_joinN 4 21 _ rfl rfl rfl (fun w h => by first | exact h | exact h.ent aEt)) ?_
    refine o_nil ?_
    refine s_cond rfl (fun h7 => ?_) (fun h7 => ?_)
    · try simp only [decide_eq_true_eq, decide_eq_false_iff_not, Bool.not_eq_true', Bool.not_eq_false', Bool.and_eq_true, Bool.or_eq_true, Bool.and_eq_false_iff, Bool.or_eq_false_iff, Bool.not_true, Bool.not_false] at h7
      have hc2 : ¬ (L.length ≤ 32 ∧ cntT (pls L) ≤ 32) := by have hq := h7; (try simp at hq); omega
      refine s_seq ?_
      refine s_region ?_
      refine o_p (p_pure rfl) rfl ?_
      refine o_p (p_pure rfl) rfl ?_
      refine o_nil ?_
      exact s_retv (rs := [.tmp 2, .tmp 3]) rfl (.tmp rfl (.tmp rfl (.nil))) (fun w' h' => ⟨by rw [chk_2 hn hc2]; rfl, h'.below⟩)
    · try simp only [decide_eq_true_eq, decide_eq_false_iff_not, Bool.not_eq_true', Bool.not_eq_false', Bool.and_eq_true, Bool.or_eq_true, Bool.and_eq_false_iff, Bool.or_eq_false_iff, Bool.not_true, Bool.not_false] at h7
      have hc2 : L.length ≤ 32 ∧ cntT (pls L) ≤ 32 := by have hq := h7; (try simp at hq); omega
      refine s_skip ?_
      refine s_seq ?_
      refine s_seq ?_
      refine s_region ?_
      refine o_p (p_pure rfl) rfl ?_
      refine o_nil ?_
      refine s_block ?_
      refine s_weaken (L' := [(1, _), (2, _), (3, _), (4, _)]) aSx (fun _ h => h) ?_
      refine s_loopI (α := Nat) [2, 3, 4, 5, 6, 7, 8, 22, 23, 24, 25, 26, 27, 28, 29, 30, 31, 32, 33, 34, 35, 36, 37, 38, 39, 40, 41, 42, 43, 44, 45, 46, 47, 48, 49, 50, 51, 52, 53, 54, 55, 56, 57, 58, 59, 60, 61, 62, 63, 64, 65, 66, 67, 68, 69, 70, 71, 72, 73, 74, 75, 76] (fun i => [(4, .int .i64 (i : Int))]) (fun _ => HS w [] [.blk b1 26 2 [.int .i64 next, .slice a L.length cap]]) (fun i => i ≤ L.length ∧ eachF (filEs next (pls L)) 0 = eachF ((filEs next (pls L)).drop i) i) (fun i => L.length - i) 0 ⟨Nat.zero_le _, rfl⟩ aSx (fun w h => h.ent aEt) (fun i hy => ?_)
      obtain ⟨hi1, hi2⟩ := hy
      refine s_seq ?_
      refine s_seq ?_
      refine s_region ?_
      refine o_p (p_pure rfl) rfl ?_
      refine o_p (p_fieldAddr rfl rfl fd_26_1 sz_24 rfl) rfl ?_
      refine o_q (q_load rfl rfl sz_24 aPk rfl) rfl ?_
      refine o_p (p_len_slice rfl rfl Try.underlying24) rfl ?_
      refine o_p (p_pure rfl) rfl ?_
      refine o_nil ?_
      refine s_cond rfl (fun h8 => ?_) (fun h8 => ?_)
      · try simp only [decide_eq_true_eq, decide_eq_false_iff_not, Bool.not_eq_true', Bool.not_eq_false', Bool.and_eq_true, Bool.or_eq_true, Bool.and_eq_false_iff, Bool.or_eq_false_iff, Bool.not_true, Bool.not_false] at h8
        have hil : i < L.length := by omega
        have hoi := hmo _ (mem_nth hil)
        refine s_skip ?_
        refine s_seq ?_
        refine s_block ?_
        refine s_seq ?_
        refine s_region ?_
        refine o_p (p_fieldAddr rfl rfl fd_26_1 sz_24 rfl) rfl ?_
        refine o_q (q_load rfl rfl sz_24 aPk rfl) rfl ?_
        refine o_p (p_pure rfl) rfl ?_
        refine o_p (p_indexAddr rfl rfl rfl sl_24 (i) (by omega) (by omega) (Rw.some hs.1 (by omega))) rfl ?_
        refine o_q (q_load_oldn _ rfl rfl sz_77 rfl (Rw.rd hs.1 hil)) rfl ?_
        refine o_h (h_alloc rfl zr_77) rfl (fun b9 _ => ?_)
        refine o_h0 (h_store rfl rfl rfl sz_77 rfl aPt (by simp only [setMany_length, List.length_set, List.length_cons, List.length_nil, List.length_map]; omega) rfl) (fun _ _ => ?_)
        refine o_nil ?_
        refine s_seq ?_
        refine s_seq ?_
        refine s_region ?_
        refine o_p (p_fieldAddr rfl rfl fd_77_0 sz_42 rfl) rfl ?_
        refine o_q (q_loadn rfl rfl sz_42 aPk rfl) rfl ?_
        refine o_q (q_call rfl fn_32 rfl (fun w1 h1 => c32 w1 _ _)) rfl ?_
        refine o_p (p_pure rfl) rfl ?_
        refine o_nil ?_
        refine s_seq ?_
        refine s_region ?_
        refine o_p (p_pure rfl) rfl ?_
        refine o_p (p_pure rfl) rfl ?_
        refine o_nil ?_
        refine s_cond rfl (fun h10 => ?_) (fun h10 => ?_)
        · try simp only [decide_eq_true_eq, decide_eq_false_iff_not, Bool.not_eq_true', Bool.not_eq_false', Bool.and_eq_true, Bool.or_eq_true, Bool.and_eq_false_iff, Bool.or_eq_false_iff, Bool.not_true, Bool.not_false] at h10
          have hA : ¬ refE (nth L i).rc (nth L i).sq = 0 := h10
          refine s_seq ?_
          refine s_region ?_
          refine o_p (p_pure rfl) rfl ?_
          refine o_p (p_pure rfl) rfl ?_
          refine o_p (p_pure rfl) rfl ?_
          refine o_p (p_pure rfl) rfl ?_
          refine o_nil ?_
          exact s_retv (rs := [.tmp 2, .tmp 3]) rfl (.tmp rfl (.tmp rfl (.nil))) (fun w' h' => ⟨by have hfe : filE next (pls L) i = refE (nth L i).rc (nth L i).sq := (by rw [fil_r hil]; rw [if_pos hA]); rw [chk_at hn hc2 hi2 hil (by rw [hfe]; exact hA), hfe]; rfl, h'.below⟩)
        · try simp only [decide_eq_true_eq, decide_eq_false_iff_not, Bool.not_eq_true', Bool.not_eq_false', Bool.and_eq_true, Bool.or_eq_true, Bool.and_eq_false_iff, Bool.or_eq_false_iff, Bool.not_true, Bool.not_false] at h10
          have hA : refE (nth L i).rc (nth L i).sq = 0 := h10
          refine s_skip ?_
          refine s_seq ?_
          refine s_seq ?_
          refine s_weaken (L' := [(1, _), (4, _), (5, _)]) aSx (fun _ h => h) ?_
          refine s_cutI (α := Unit) [41, 42, 43, 44, 45, 46, 47, 48, 49, 50, 51, 52, 53, 54, 55] (fun _ => [(55, .bool (decide (¬ (i = 0 ∨ refLt ((nth L (i - 1)).rc, (nth L (i - 1)).sq) ((nth L i).rc, (nth L i).sq) = true))))]) (fun _ => HS w [] [.blk b1 26 2 [.int .i64 next, .slice a L.length cap], .blk b9 77 4 (nth L i).vals]) (fun _ => True) ?_ ?_
          · skip
            refine s_draw [] mixed ?_
            refine d_p 0 rfl (p_pure rfl) (by kernel_rfl) rfl rfl ?_
            refine d_p 1 rfl (p_pure rfl) (by kernel_rfl) rfl rfl ?_
            refine d_p 2 rfl (p_pure rfl) (by kernel_rfl) rfl rfl ?_
            apply d_split 43
            · exact rfl
            · intro hg11
              have hs12 := hg11; try simp only [decide_eq_true_eq, decide_eq_false_iff_not, Bool.not_eq_true', Bool.not_eq_false', Bool.and_eq_true, Bool.or_eq_true, Bool.and_eq_false_iff, Bool.or_eq_false_iff, Bool.not_true, Bool.not_false] at hs12
              refine d_pon 3 43 rfl rfl rfl hg11 (p_fieldAddr rfl rfl fd_26_1 sz_24 rfl) (by kernel_rfl) rfl rfl ?_
              refine d_qon 4 43 [] rfl rfl rfl hg11 (q_load rfl rfl sz_24 aPk rfl) (by kernel_rfl) (by kernel_rfl) (by kernel_rfl) rfl ?_
              refine d_pon 5 43 rfl rfl rfl hg11 (p_pure rfl) (by kernel_rfl) rfl rfl ?_
              refine d_pon 6 43 rfl rfl rfl hg11 (p_pure rfl) (by kernel_rfl) rfl rfl ?_
              try (refine d_slot (i64w (by omega) (by omega)) ?_)
              refine d_pon 7 43 rfl rfl rfl hg11 (p_indexAddr rfl rfl rfl sl_24 ((i - 1)) (by omega) (by omega) (Rw.some hs.1 (by omega))) (by kernel_rfl) rfl rfl ?_
              refine d_pon 8 43 rfl rfl rfl hg11 (p_fieldAddr rfl rfl fd_77_0 sz_42 rfl) (by kernel_rfl) rfl rfl ?_
              refine d_qon 9 43 [] rfl rfl rfl hg11 (q_load_oldn [.int .i64 (nth L (i - 1)).rc, .int .i64 (nth L (i - 1)).sq] rfl rfl sz_42 rfl (fun j v hv => Rw.rd hs.1 (i := i - 1) (by omega) j v (by rcases j with _ | _ | j <;> first | exact hv | (simp at hv)))) (by kernel_rfl) (by kernel_rfl) (by kernel_rfl) rfl ?_
              refine d_pon 10 43 rfl rfl rfl hg11 (p_fieldAddr rfl rfl fd_77_0 sz_42 rfl) (by kernel_rfl) rfl rfl ?_
              refine d_qon 11 43 [] rfl rfl rfl hg11 (q_loadn rfl rfl sz_42 aPk rfl) (by kernel_rfl) (by kernel_rfl) (by kernel_rfl) rfl ?_
              refine d_qon 12 43 [] rfl rfl rfl hg11 (q_call rfl fn_60 rfl (fun w1 h1 => c60 w1 _ _ _ _)) (by kernel_rfl) (by kernel_rfl) (by kernel_rfl) rfl ?_
              refine d_pon 13 43 rfl rfl rfl hg11 (p_pure rfl) (by kernel_rfl) rfl rfl ?_
              refine d_p 14 rfl (p_pickt rfl rfl hg11 rfl) (by kernel_rfl) rfl rfl ?_
              refine d_nil (by kernel_rfl) (fun w h => h.ent aEt) ?_
              exact s_joinI () trivial (sl_c (congrArg (fun e => some (Value.bool e)) (by have hq := hg11; simp at hq; first | (have h0 : i ≠ 0 := by omega); simp [h0] | (have h0 : i = 0 := by omega); simp [h0])) aSx) (fun w h => h.ent aEt)
            · intro hg13
              have hs14 := hg13; try simp only [decide_eq_true_eq, decide_eq_false_iff_not, Bool.not_eq_true', Bool.not_eq_false', Bool.and_eq_true, Bool.or_eq_true, Bool.and_eq_false_iff, Bool.or_eq_false_iff, Bool.not_true, Bool.not_false] at hs14
              refine d_off 3 43 rfl rfl rfl hg13 (by kernel_rfl) rfl rfl ?_
              refine d_off 4 43 rfl rfl rfl hg13 (by kernel_rfl) rfl rfl ?_
              refine d_off 5 43 rfl rfl rfl hg13 (by kernel_rfl) rfl rfl ?_
              refine d_off 6 43 rfl rfl rfl hg13 (by kernel_rfl) rfl rfl ?_
              refine d_off 7 43 rfl rfl rfl hg13 (by kernel_rfl) rfl rfl ?_
              refine d_off 8 43 rfl rfl rfl hg13 (by kernel_rfl) rfl rfl ?_
              refine d_off 9 43 rfl rfl rfl hg13 (by kernel_rfl) rfl rfl ?_
              refine d_off 10 43 rfl rfl rfl hg13 (by kernel_rfl) rfl rfl ?_
              refine d_off 11 43 rfl rfl rfl hg13 (by kernel_rfl) rfl rfl ?_
              refine d_off 12 43 rfl rfl rfl hg13 (by kernel_rfl) rfl rfl ?_
              refine d_off 13 43 rfl rfl rfl hg13 (by kernel_rfl) rfl rfl ?_
              refine d_p 14 rfl (p_pickf rfl rfl hg13 rfl) (by kernel_rfl) rfl rfl ?_
              refine d_nil (by kernel_rfl) (fun w h => h.ent aEt) ?_
              exact s_joinI () trivial (sl_c (congrArg (fun e => some (Value.bool e)) (by have hq := hg13; simp at hq; first | (have h0 : i ≠ 0 := by omega); simp [h0] | (have h0 : i = 0 := by omega); simp [h0])) aSx) (fun w h => h.ent aEt)
          · intro _ _
            refine s_cond rfl (fun h15 => ?_) (fun h15 => ?_)
            · try simp only [decide_eq_true_eq, decide_eq_false_iff_not, Bool.not_eq_true', Bool.not_eq_false', Bool.and_eq_true, Bool.or_eq_true, Bool.and_eq_false_iff, Bool.or_eq_false_iff, Bool.not_true, Bool.not_false] at h15
              have hB : ¬ (i = 0 ∨ refLt ((nth L (i - 1)).rc, (nth L (i - 1)).sq) ((nth L i).rc, (nth L i).sq) = true) := by have hq := h15; simpa using hq
              refine s_seq ?_
              refine s_region ?_
              refine o_p (p_pure rfl) rfl ?_
              refine o_p (p_pure rfl) rfl ?_
              refine o_p (p_pure rfl) rfl ?_
              refine o_nil ?_
              exact s_retv (rs := [.tmp 2, .tmp 3]) rfl (.tmp rfl (.tmp rfl (.nil))) (fun w' h' => ⟨by have hfe : filE next (pls L) i = 9 := (by rw [fil_r hil]; rw [if_neg (not_not_intro hA), if_pos hB]); rw [chk_at hn hc2 hi2 hil (by rw [hfe]; decide), hfe]; rfl, h'.below⟩)
            · try simp only [decide_eq_true_eq, decide_eq_false_iff_not, Bool.not_eq_true', Bool.not_eq_false', Bool.and_eq_true, Bool.or_eq_true, Bool.and_eq_false_iff, Bool.or_eq_false_iff, Bool.not_true, Bool.not_false] at h15
              have hB : i = 0 ∨ refLt ((nth L (i - 1)).rc, (nth L (i - 1)).sq) ((nth L i).rc, (nth L i).sq) = true := by have hq := h15; (try simp only [Bool.not_eq_true, decide_eq_false_iff_not, Decidable.not_not] at hq); first | exact hq | (by_cases h0 : i = 0 <;> simp_all)
              refine s_skip ?_
              refine s_seq ?_
              refine s_seq ?_
              refine s_region ?_
              refine o_p (p_fieldAddr rfl rfl fd_77_2 sz_75 rfl) rfl ?_
              refine o_q (q_load rfl rfl sz_75 aPk rfl) rfl ?_
              refine o_p (p_len_slice rfl rfl Try.underlying75) rfl ?_
              refine o_p (p_pure rfl) rfl ?_
              refine o_nil ?_
              refine s_cond rfl (fun h16 => ?_) (fun h16 => ?_)
              · try simp only [decide_eq_true_eq, decide_eq_false_iff_not, Bool.not_eq_true', Bool.not_eq_false', Bool.and_eq_true, Bool.or_eq_true, Bool.and_eq_false_iff, Bool.or_eq_false_iff, Bool.not_true, Bool.not_false] at h16
                have hC : (nth L i).op.length = 0 := by have hq := h16; omega
                refine s_seq ?_
                refine s_region ?_
                refine o_p (p_pure rfl) rfl ?_
                refine o_p (p_pure rfl) rfl ?_
                refine o_p (p_pure rfl) rfl ?_
                refine o_nil ?_
                exact s_retv (rs := [.tmp 2, .tmp 3]) rfl (.tmp rfl (.tmp rfl (.nil))) (fun w' h' => ⟨by have hfe : filE next (pls L) i = 17 := (by rw [fil_r hil]; rw [if_neg (not_not_intro hA), if_neg (not_not_intro hB), if_pos hC]); rw [chk_at hn hc2 hi2 hil (by rw [hfe]; decide), hfe]; rfl, h'.below⟩)
              · try simp only [decide_eq_true_eq, decide_eq_false_iff_not, Bool.not_eq_true', Bool.not_eq_false', Bool.and_eq_true, Bool.or_eq_true, Bool.and_eq_false_iff, Bool.or_eq_false_iff, Bool.not_true, Bool.not_false] at h16
                have hC : ¬ (nth L i).op.length = 0 := by have hq := h16; omega
                have hfi : filE next (pls L) i = hdlsE next (hds ((pls L).take i)) (plo (nth L i).op) := by rw [fil_r hil, if_neg (not_not_intro hA), if_neg (not_not_intro hB), if_neg hC]
                refine s_skip ?_
                refine s_seq ?_
                refine s_region ?_
                refine o_p (p_pure rfl) rfl ?_
                refine o_nil ?_
                refine s_block ?_
                refine s_loopI (α := Nat) [2, 3, 7, 8, 62, 63, 64, 65, 66, 67, 68, 69, 70, 71, 72, 73, 74, 75, 76] (fun k => [(7, .int .i64 (k : Int))]) (fun _ => HS w [] [.blk b1 26 2 [.int .i64 next, .slice a L.length cap], .blk b9 77 4 (nth L i).vals]) (fun k => k ≤ (nth L i).op.length ∧ eachF (hdlEs next (hds ((pls L).take i)) (plo (nth L i).op)) 0 = eachF ((hdlEs next (hds ((pls L).take i)) (plo (nth L i).op)).drop k) k ∧ ∀ j, j < k → hdlE next (hds ((pls L).take i)) (plo (nth L i).op) j = 0) (fun k => (nth L i).op.length - k) 0 ⟨Nat.zero_le _, rfl, fun j h => absurd h (Nat.not_lt_zero j)⟩ aSx (fun w h => h.ent aEt) (fun k hy => ?_)
                obtain ⟨hk1, hk2, hk3⟩ := hy
                refine s_seq ?_
                refine s_seq ?_
                refine s_region ?_
                refine o_p (p_pure rfl) rfl ?_
                refine o_p (p_fieldAddr rfl rfl fd_77_2 sz_75 rfl) rfl ?_
                refine o_q (q_load rfl rfl sz_75 aPk rfl) rfl ?_
                refine o_p (p_len_slice rfl rfl Try.underlying75) rfl ?_
                refine o_p (p_pure rfl) rfl ?_
                refine o_nil ?_
                refine s_cond rfl (fun h17 => ?_) (fun h17 => ?_)
                · try simp only [decide_eq_true_eq, decide_eq_false_iff_not, Bool.not_eq_true', Bool.not_eq_false', Bool.and_eq_true, Bool.or_eq_true, Bool.and_eq_false_iff, Bool.or_eq_false_iff, Bool.not_true, Bool.not_false] at h17
                  have hkl : k < (nth L i).op.length := by omega
                  refine s_skip ?_
                  refine s_seq ?_
                  refine s_block ?_
                  refine s_seq ?_
                  refine s_region ?_
                  refine o_q (q_loadn rfl rfl sz_26 aPk rfl) rfl ?_
                  refine o_p (p_pure rfl) rfl ?_
                  refine o_p (p_pure rfl) rfl ?_
                  refine o_q (q_call rfl fn_61 rfl (fun w1 h1 => c61 w1 next a cap L i k (hs.later h1) hm hmo hil hkl hn hk3)) rfl ?_
                  refine o_p (p_pure rfl) rfl ?_
                  refine o_nil ?_
                  refine s_seq ?_
                  refine s_region ?_
                  refine o_p (p_pure rfl) rfl ?_
                  refine o_p (p_pure rfl) rfl ?_
                  refine o_nil ?_
                  refine s_cond rfl (fun h18 => ?_) (fun h18 => ?_)
                  · try simp only [decide_eq_true_eq, decide_eq_false_iff_not, Bool.not_eq_true', Bool.not_eq_false', Bool.and_eq_true, Bool.or_eq_true, Bool.and_eq_false_iff, Bool.or_eq_false_iff, Bool.not_true, Bool.not_false] at h18
                    have hke : ¬ hdlE next (hds ((pls L).take i)) (plo (nth L i).op) k = 0 := h18
                    have hfe : filE next (pls L) i = hdlE next (hds ((pls L).take i)) (plo (nth L i).op) k := by rw [hfi]; show (eachF (hdlEs next (hds ((pls L).take i)) (plo (nth L i).op)) 0).2 = _; rw [hk2, eachF_drop (by rw [hdlEs_len]; exact hkl), hdlEs_getl hkl, if_neg hke]
                    refine s_seq ?_
                    refine s_region ?_
                    refine o_p (p_pure rfl) rfl ?_
                    refine o_p (p_pure rfl) rfl ?_
                    refine o_p (p_pure rfl) rfl ?_
                    refine o_p (p_pure rfl) rfl ?_
                    refine o_nil ?_
                    exact s_retv (rs := [.tmp 2, .tmp 3]) rfl (.tmp rfl (.tmp rfl (.nil))) (fun w' h' => ⟨by rw [chk_at hn hc2 hi2 hil (by rw [hfe]; exact hke), hfe]; rfl, h'.below⟩)
                  · try simp only [decide_eq_true_eq, decide_eq_false_iff_not, Bool.not_eq_true', Bool.not_eq_false', Bool.and_eq_true, Bool.or_eq_true, Bool.and_eq_false_iff, Bool.or_eq_false_iff, Bool.not_true, Bool.not_false] at h18
                    have hkz : hdlE next (hds ((pls L).take i)) (plo (nth L i).op) k = 0 := by have hq := h18; simpa using hq
                    refine s_skip ?_
                    refine s_blk ?_
                    refine s_region ?_
                    refine o_p (p_pure rfl) rfl ?_
                    refine o_p (p_pure rfl) rfl ?_
                    try (refine o_slot (i64w (by omega) (by omega)) ?_)
                    refine o_p (p_pure rfl) rfl ?_
                    refine o_nil ?_
                    exact s_backI (k + 1) (by omega) ⟨by omega, by rw [hk2, eachF_drop (by rw [hdlEs_len]; exact hkl), hdlEs_getl hkl, if_pos hkz], fun j hj => (Nat.lt_or_ge j k).elim (hk3 j) (fun p3 => by have e9 : j = k := (by omega); rw [e9]; exact hkz)⟩ aSx (fun w h => h.ent aEt)
                · try simp only [decide_eq_true_eq, decide_eq_false_iff_not, Bool.not_eq_true', Bool.not_eq_false', Bool.and_eq_true, Bool.or_eq_true, Bool.and_eq_false_iff, Bool.or_eq_false_iff, Bool.not_true, Bool.not_false] at h17
                  have hfz : filE next (pls L) i = 0 := by rw [hfi]; show (eachF (hdlEs next (hds ((pls L).take i)) (plo (nth L i).op)) 0).2 = 0; rw [hk2, eachF_end (by rw [hdlEs_len]; omega)]
                  refine s_exit_to rfl ?_
                  refine s_blk ?_
                  refine s_region ?_
                  refine o_p (p_pure rfl) rfl ?_
                  refine o_p (p_pure rfl) rfl ?_
                  try (refine o_slot (i64w (by omega) (by omega)) ?_)
                  refine o_p (p_pure rfl) rfl ?_
                  refine o_nil ?_
                  exact s_backI (i + 1) (by omega) ⟨by omega, by rw [hi2, eachF_drop (by omega), filEs_getl hil, if_pos hfz]⟩ aSx (fun w h => h.ent aEt)
      · try simp only [decide_eq_true_eq, decide_eq_false_iff_not, Bool.not_eq_true', Bool.not_eq_false', Bool.and_eq_true, Bool.or_eq_true, Bool.and_eq_false_iff, Bool.or_eq_false_iff, Bool.not_true, Bool.not_false] at h8
        refine s_exit_to rfl ?_
        refine s_seq ?_
        refine s_region ?_
        refine o_p (p_pure rfl) rfl ?_
        refine o_p (p_pure rfl) rfl ?_
        refine o_nil ?_
        exact s_retv (rs := [.tmp 2, .tmp 3]) rfl (.tmp rfl (.tmp rfl (.nil))) (fun w' h' => ⟨by rw [chk_r hn hc2, hi2, eachF_end (by omega)]; rfl, h'.below⟩)

set_option maxRecDepth 20000 in
theorem c31 (w : World) (next : Int) (a : Option Addr) (cap : Nat) (L : List LFil) (hs : Ft w [] a L) (hm : L.length ≤ 1000) (hmo : ∀ f ∈ L, f.op.length ≤ 1000) : Calls Try.prog 31 #[.agg #[.int .i64 next, .slice a L.length cap]] w fun en w' => en = .returned (.int .i64 (chkT next (pls L)).2) ∧ Below w.heap.size w w' := by
  refine enter (args := [_]) Try.func31 Try.ntmps31 rfl rfl (HS.refl w []) ?_
  refine s_seq ?_
  refine s_region ?_
  refine o_h (h_box rfl rfl) rfl (fun b1 _ => ?_)
  refine o_p (p_pure rfl) rfl ?_
  refine o_nil ?_
  refine s_seq ?_
  refine s_region ?_
  refine o_q (q_loadn rfl rfl sz_26 aPk rfl) rfl ?_
  refine o_q (q_call rfl fn_20 rfl (fun w1 h1 => c20 w1 next a cap L (hs.later h1) hm hmo)) rfl ?_
  refine o_p (p_pure rfl) rfl ?_
  refine o_p (p_pure rfl) rfl ?_
  refine o_p (p_pure rfl) rfl ?_
  refine o_p (p_pure rfl) rfl ?_
  refine o_p (p_pure rfl) rfl ?_
  refine o_nil ?_
  refine s_seq ?_
  refine s_region ?_
  refine o_p (p_pure rfl) rfl ?_
  refine o_p (p_pure rfl) rfl ?_
  refine o_nil ?_
  exact s_retv (rs := [.tmp 2]) rfl (.tmp rfl (.nil)) (fun w' h' => ⟨rfl, h'.below⟩)

end Go.Proofs

namespace Go.Proofs
open Go Go.RowKit Gx
set_option linter.unusedVariables false
set_option linter.unusedSimpArgs false
attribute [local irreducible] Go.Calls Gx.S Gx.O Gx.D Gx.OpP Gx.OpQ Gx.OpH

theorem fn_31 : isFn Try.prog 31 = true := by kernel_rfl
theorem fn_33 : isFn Try.prog 33 = true := by kernel_rfl


def hErr (next : Int) (L : List Fil) (h : Int) : Int := if (chkT next L).2 = 0 then (findF L h 0).2.2 else (chkT next L).2
def fErr (next : Int) (L : List Fil) (rc sq : Int) : Int := if (chkT next L).2 = 0 then if refE rc sq = 0 then if ixI (atB L rc sq) < 0 then 6 else 0 else refE rc sq else (chkT next L).2
section
variable {w0 w : World} {M : List Nat} {As As' : List HA} {a : Option Addr} {cap : Nat}
theorem HS.files_more {l : List LFil} {f : LFil} {n : Nat} {xs : List Value} (h : HS w0 M (.own (.slice a n cap) 77 4 n xs :: .star (l.map subF) :: subF f :: As) w) (hn : n = (l ++ [f]).length) (hx : xs = (l ++ [f]).flatMap LFil.vals) : HS w0 M (.files a cap (l ++ [f]) :: As) w := by
  have h1 : HS w0 M (subF f :: .star (l.map subF) :: .own (.slice a n cap) 77 4 n xs :: As) w := h.perm ((List.Perm.swap ..).trans ((List.Perm.cons _ (List.Perm.swap ..)).trans (List.Perm.swap ..)))
  exact HS.row_shut (h1.sub_app.perm (List.Perm.swap ..)) hn hx
end
theorem app_len1 {α : Type} {l : List α} {x : α} : (l ++ [x]).length = l.length + 1 := by simp
theorem app_flat1 {α : Type} {vals : α → List Value} {l : List α} {x : α} : (l ++ [x]).flatMap vals = l.flatMap vals ++ vals x := by simp
theorem pls_app1 {l : List LFil} {x : LFil} : pls (l ++ [x]) = pls l ++ [x.pl] := by simp [pls]
theorem plo_app1 {l : List LOpn} {x : LOpn} : plo (l ++ [x]) = plo l ++ [x.pl] := by simp [plo]

set_option maxRecDepth 20000 in
set_option maxHeartbeats 1000000 in
theorem c19 (w : World) (next : Int) (a : Option Addr) (cap : Nat) (L : List LFil) (hs : Ft w [] a L) (hm : L.length ≤ 1000) (hmo : ∀ f ∈ L, f.op.length ≤ 1000) (hml : ∀ f ∈ L, ∀ o ∈ f.op, o.lk.length ≤ 1000) : Calls Try.prog 19 #[.agg #[.int .i64 next, .slice a L.length cap]] w fun en w' => ∃ g : (Option Addr × Nat) × List LFil, en = .returned (.agg #[.int .i64 next, .slice g.1.1 g.2.length g.1.2]) ∧ pls g.2 = pls L ∧ HS w [] [.files g.1.1 g.1.2 g.2] w' := by
  have hpl : (pls L).length = L.length := by simp
  refine enter (args := [_]) Try.func19 Try.ntmps19 rfl rfl (HS.refl w []) ?_
  refine s_seq ?_
  refine s_region ?_
  refine o_h (h_box rfl rfl) rfl (fun b1 _ => ?_)
  refine o_h (h_alloc rfl zr_26) rfl (fun b2 _ => ?_)
  refine o_nil ?_
  refine s_seq ?_
  refine s_region ?_
  refine o_p (p_fieldAddr rfl rfl fd_26_0 sz_3 rfl) rfl ?_
  refine o_q (q_load rfl rfl sz_3 aPk rfl) rfl ?_
  refine o_p (p_build (cs := [_, _]) rfl rfl pl_26 zr_26 rfl) rfl ?_
  refine o_h (h_alloc rfl zr_26) rfl (fun b3 _ => ?_)
  refine o_h0 (h_store rfl rfl rfl sz_26 rfl aPt (by simp only [setMany_length, List.length_set, List.length_cons, List.length_nil, List.length_map]; omega) rfl) (fun _ _ => ?_)
  refine o_nil ?_
  refine s_seq ?_
  refine s_seq ?_
  refine s_region ?_
  refine o_p (p_pure rfl) rfl ?_
  refine o_nil ?_
  refine s_block ?_
  refine s_loopI (α := Nat × (Option Addr × Nat) × List LFil) [4, 5, 6, 7, 11, 12, 13, 14, 15, 16, 17, 18, 19, 20, 21, 22, 23, 24, 25, 26, 27, 28, 29, 30, 31, 32, 33, 34, 35, 36, 37, 38, 39, 40, 41, 42, 43, 44, 45, 46, 47, 48, 49, 50, 51, 52, 53, 54, 55, 56, 57, 58, 59, 60, 61, 62, 63, 64, 65, 66, 67] (fun y => [(4, .int .i64 (y.1 : Int))]) (fun y => HS w [] [.blk b3 26 2 [.int .i64 next, .slice y.2.1.1 y.2.2.length y.2.1.2], .files y.2.1.1 y.2.1.2 y.2.2, .blk b1 26 2 [.int .i64 next, .slice a L.length cap], .blk b2 26 2 [.int .i64 0, .slice none 0 0]]) (fun y => y.1 ≤ L.length ∧ pls y.2.2 = (pls L).take y.1) (fun y => L.length - y.1) (0, (none, 0), []) ⟨Nat.zero_le _, rfl⟩ aSx (fun w h => (HS.files_none h).ent aEt) (fun ⟨i, x, M⟩ hy => ?_)
  dsimp only at hy ⊢
  obtain ⟨hi1, hi2⟩ := hy
  refine s_seq ?_
  refine s_seq ?_
  refine s_region ?_
  refine o_p (p_pure rfl) rfl ?_
  refine o_p (p_fieldAddr rfl rfl fd_26_1 sz_24 rfl) rfl ?_
  refine o_q (q_load rfl rfl sz_24 aPk rfl) rfl ?_
  refine o_p (p_len_slice rfl rfl Try.underlying24) rfl ?_
  refine o_p (p_pure rfl) rfl ?_
  refine o_nil ?_
  refine s_cond rfl (fun h4 => ?_) (fun h4 => ?_)
  · try simp only [decide_eq_true_eq, decide_eq_false_iff_not, Bool.not_eq_true', Bool.not_eq_false', Bool.and_eq_true, Bool.or_eq_true, Bool.and_eq_false_iff, Bool.or_eq_false_iff, Bool.not_true, Bool.not_false] at h4
    have hil : i < L.length := by omega
    have hoi := hmo _ (mem_nth hil)
    have hMl : M.length = i := by have h9 := congrArg List.length hi2; simp at h9; omega
    refine s_skip ?_
    refine s_seq ?_
    refine s_block ?_
    refine s_seq ?_
    refine s_draw [14] mixed ?_
    refine d_p 0 rfl (p_fieldAddr rfl rfl fd_26_1 sz_24 rfl) (by kernel_rfl) rfl rfl ?_
    refine d_q 1 [[]] rfl (q_load rfl rfl sz_24 aPk rfl) (by kernel_rfl) (by kernel_rfl) (by kernel_rfl) rfl ?_
    refine d_p 2 rfl (p_pure rfl) (by kernel_rfl) rfl rfl ?_
    refine d_p 3 rfl (p_indexAddr rfl rfl rfl sl_24 (i) (by omega) (by omega) (Rw.some hs.1 (by omega))) (by kernel_rfl) rfl rfl ?_
    refine d_p 4 rfl (p_fieldAddr rfl rfl fd_77_0 sz_42 rfl) (by kernel_rfl) rfl rfl ?_
    refine d_q 5 [[]] rfl (q_load_oldn [.int .i64 (nth L i).rc, .int .i64 (nth L i).sq] rfl rfl sz_42 rfl (fun j v hv => Rw.rd hs.1 (i := i) hil j v (by rcases j with _ | _ | j <;> first | exact hv | (simp at hv)))) (by kernel_rfl) (by kernel_rfl) (by kernel_rfl) rfl ?_
    refine d_p 6 rfl (p_fieldAddr rfl rfl fd_26_1 sz_24 rfl) (by kernel_rfl) rfl rfl ?_
    refine d_q 7 [[]] rfl (q_load rfl rfl sz_24 aPk rfl) (by kernel_rfl) (by kernel_rfl) (by kernel_rfl) rfl ?_
    refine d_p 8 rfl (p_pure rfl) (by kernel_rfl) rfl rfl ?_
    refine d_p 9 rfl (p_indexAddr rfl rfl rfl sl_24 (i) (by omega) (by omega) (Rw.some hs.1 (by omega))) (by kernel_rfl) rfl rfl ?_
    refine d_p 10 rfl (p_fieldAddr rfl rfl fd_77_1 sz_4 rfl) (by kernel_rfl) rfl rfl ?_
    refine d_q 11 [[]] rfl (q_load_old rfl rfl sz_4 ((hs.1.rdj 2 hil rfl))) (by kernel_rfl) (by kernel_rfl) (by kernel_rfl) rfl ?_
    refine d_p 12 rfl (p_build (cs := [_, _, _, _]) rfl rfl pl_77 zr_77 rfl) (by kernel_rfl) rfl rfl ?_
    refine d_h 13 rfl (h_alloc rfl zr_77) (by kernel_rfl) (fun w h => h.ent aEt) rfl (fun b5 _ => ?_)
    refine d_base (fun w h => h.ent aEt) ?_
    refine d_h0 14 rfl (h_store rfl rfl rfl sz_77 rfl aPt (by simp only [setMany_length, List.length_set, List.length_cons, List.length_nil, List.length_map]; omega) rfl) (by kernel_rfl) (fun w h => h.ent aEt) (fun _ _ => ?_)
    refine d_turn [] (by kernel_rfl) ?_
    refine d_nil (by kernel_rfl) (fun w h => h.ent aEt) ?_
    refine s_seq ?_
    refine s_seq ?_
    refine s_region ?_
    refine o_p (p_pure rfl) rfl ?_
    refine o_nil ?_
    refine s_block ?_
    refine s_weaken (L' := [(0, _), (1, _), (2, _), (3, _), (4, _), (5, _), (6, _), (8, _), (9, _), (10, _)]) aSx (fun _ h => h) ?_
    refine s_loopI (α := Nat × (Option Addr × Nat) × List LOpn) [6, 7, 31, 32, 33, 34, 35, 36, 37, 38, 39, 40, 41, 42, 43, 44, 45, 46, 47, 48, 49, 50, 51, 52, 53, 54, 55, 56, 57, 58, 59, 60, 61] (fun z => [(6, .int .i64 (z.1 : Int))]) (fun z => HS w [] [.blk b5 77 4 [.int .i64 (nth L i).rc, .int .i64 (nth L i).sq, .bool (nth L i).pd, .slice z.2.1.1 z.2.2.length z.2.1.2], .opens z.2.1.1 z.2.1.2 z.2.2, .blk b3 26 2 [.int .i64 next, .slice x.1 M.length x.2], .files x.1 x.2 M, .blk b1 26 2 [.int .i64 next, .slice a L.length cap], .blk b2 26 2 [.int .i64 0, .slice none 0 0]]) (fun z => z.1 ≤ (nth L i).op.length ∧ plo z.2.2 = (plo (nth L i).op).take z.1) (fun z => (nth L i).op.length - z.1) (0, (none, 0), []) ⟨Nat.zero_le _, rfl⟩ aSx (fun w h => (HS.opens_none h).ent aEt) (fun ⟨k, o, N⟩ hz => ?_)
    dsimp only at hz ⊢
    obtain ⟨hk1, hk2⟩ := hz
    refine s_seq ?_
    refine s_seq ?_
    refine s_region ?_
    refine o_p (p_pure rfl) rfl ?_
    refine o_p (p_fieldAddr rfl rfl fd_26_1 sz_24 rfl) rfl ?_
    refine o_q (q_load rfl rfl sz_24 aPk rfl) rfl ?_
    refine o_p (p_pure rfl) rfl ?_
    refine o_p (p_indexAddr rfl rfl rfl sl_24 (i) (by omega) (by omega) (Rw.some hs.1 (by omega))) rfl ?_
    refine o_p (p_fieldAddr rfl rfl fd_77_2 sz_75 rfl) rfl ?_
    refine o_q (q_load_old rfl rfl sz_75 ((hs.1.rdj 3 hil rfl))) rfl ?_
    refine o_p (p_len_slice rfl rfl Try.underlying75) rfl ?_
    refine o_p (p_pure rfl) rfl ?_
    refine o_nil ?_
    refine s_cond rfl (fun h6 => ?_) (fun h6 => ?_)
    · try simp only [decide_eq_true_eq, decide_eq_false_iff_not, Bool.not_eq_true', Bool.not_eq_false', Bool.and_eq_true, Bool.or_eq_true, Bool.and_eq_false_iff, Bool.or_eq_false_iff, Bool.not_true, Bool.not_false] at h6
      have hkl : k < (nth L i).op.length := by omega
      have hki := hml _ (mem_nth hil) _ (mem_nth hkl)
      have hNl : N.length = k := by have h9 := congrArg List.length hk2; simp at h9; omega
      refine s_skip ?_
      refine s_seq ?_
      refine s_block ?_
      refine s_seq ?_
      refine s_region ?_
      refine o_p (p_fieldAddr rfl rfl fd_26_1 sz_24 rfl) rfl ?_
      refine o_q (q_load rfl rfl sz_24 aPk rfl) rfl ?_
      refine o_p (p_pure rfl) rfl ?_
      refine o_p (p_indexAddr rfl rfl rfl sl_24 (i) (by omega) (by omega) (Rw.some hs.1 (by omega))) rfl ?_
      refine o_p (p_fieldAddr rfl rfl fd_77_2 sz_75 rfl) rfl ?_
      refine o_q (q_load_old rfl rfl sz_75 ((hs.1.rdj 3 hil rfl))) rfl ?_
      refine o_p (p_pure rfl) rfl ?_
      refine o_p (p_indexAddr rfl rfl rfl sl_75 (k) (by omega) (by omega) (Rw.some (hs.at hil).1 (by omega))) rfl ?_
      refine o_q (q_load_oldn _ rfl rfl sz_48 rfl (Rw.rd (hs.at hil).1 hkl)) rfl ?_
      refine o_h (h_alloc rfl zr_48) rfl (fun b7 _ => ?_)
      refine o_h0 (h_store rfl rfl rfl sz_48 rfl aPt (by simp only [setMany_length, List.length_set, List.length_cons, List.length_nil, List.length_map]; omega) rfl) (fun _ _ => ?_)
      refine o_nil ?_
      refine s_seq ?_
      refine s_region ?_
      refine o_h (h_buildSlice0 rfl sl_46) rfl (fun b8 _ => ?_)
      refine o_p (p_fieldAddr rfl rfl fd_48_4 sz_46 rfl) rfl ?_
      refine o_q (q_load rfl rfl sz_46 aPk rfl) rfl ?_
      refine o_h (h_appendS (n := 0) ((nth (nth L i).op k).lk.flatMap Lock.vals) rfl rfl rfl sl_46 Try.underlying46 zr_62 rfl aPk (fun w h => Rw.src lv3 ((hs.at hil).at hkl) h) (flat_length lv3 _) (flat_one lv1 _) (by omega) (by simp only [maxLen]; omega)) rfl (fun b9 _ => ?_)
      simp only [Nat.zero_add, List.nil_append]
      refine o_p (p_fieldAddr rfl rfl fd_48_4 sz_46 rfl) rfl ?_
      refine o_h0 (h_store rfl rfl rfl sz_46 rfl aPt (by simp only [setMany_length, List.length_set, List.length_cons, List.length_nil, List.length_map]; omega) rfl) (fun _ _ => ?_)
      refine o_nil ?_
      refine s_weaken (L' := [(0, _), (1, _), (2, _), (3, _), (4, _), (5, _), (6, _), (7, _), (8, _), (9, _), (10, _)]) aSx (fun _ h => h) ?_
      refine s_region ?_
      refine o_p (p_fieldAddr rfl rfl fd_77_2 sz_75 rfl) rfl ?_
      refine o_q (q_load rfl rfl sz_75 aPk rfl) rfl ?_
      refine o_class (fun w h => HS.opens_split (a := o.1) (cap := o.2) (l := N) h aPk) ?_
      refine o_q (q_loadn rfl rfl sz_48 aPk rfl) rfl ?_
      refine o_h (h_buildSlice (cs := [_, _, _, _, _]) rfl rfl sl_75 zr_48 rfl rfl rfl) rfl (fun b10 _ => ?_)
      refine o_h (h_appendS (n := N.length) ({ (nth (nth L i).op k) with la := b9.1, lc := b9.2 } : LOpn).vals rfl rfl rfl sl_75 Try.underlying75 zr_48 rfl aPk (src_blk aPk) rfl (ov1 ({ (nth (nth L i).op k) with la := b9.1, lc := b9.2 } : LOpn)) (by omega) (by simp only [maxLen]; omega)) rfl (fun b11 _ => ?_)
      refine o_p (p_fieldAddr rfl rfl fd_77_2 sz_75 rfl) rfl ?_
      refine o_h0 (h_store rfl rfl rfl sz_75 rfl aPt (by simp only [setMany_length, List.length_set, List.length_cons, List.length_nil, List.length_map]; omega) rfl) (fun _ _ => ?_)
      refine o_nil ?_
      refine s_blk ?_
      refine s_region ?_
      refine o_p (p_pure rfl) rfl ?_
      refine o_p (p_pure rfl) rfl ?_
      try (refine o_slot (i64w (by omega) (by omega)) ?_)
      refine o_p (p_pure rfl) rfl ?_
      refine o_nil ?_
      exact s_backI (k + 1, b11, N ++ [({ (nth (nth L i).op k) with la := b9.1, lc := b9.2 } : LOpn)]) (by show (nth L i).op.length - (k + 1) < (nth L i).op.length - k; omega) ⟨by show k + 1 ≤ (nth L i).op.length; omega, by show plo (N ++ [({ (nth (nth L i).op k) with la := b9.1, lc := b9.2 } : LOpn)]) = (plo (nth L i).op).take (k + 1); rw [plo_app1, hk2, take_succ_nth (by simpa using hkl), nth_plo hkl]; rfl⟩ aSx (fun w h => by have h2 := HS.opens_more (o := ({ (nth (nth L i).op k) with la := b9.1, lc := b9.2 } : LOpn)) (l := N) (h.ent (Bs := [.own (.slice b11.1 (N.length + 1) b11.2) 48 5 (N.length + 1) _, .star (N.map subO), subO ({ (nth (nth L i).op k) with la := b9.1, lc := b9.2 } : LOpn), .blk b5 77 4 [.int .i64 (nth L i).rc, .int .i64 (nth L i).sq, .bool (nth L i).pd, .slice b11.1 (N.length + 1) b11.2], .blk b3 26 2 [.int .i64 next, .slice x.1 M.length x.2], .files x.1 x.2 M, .blk b1 26 2 [.int .i64 next, .slice a L.length cap], .blk b2 26 2 [.int .i64 0, .slice none 0 0]]) aEt) app_len1.symm app_flat1.symm; dsimp only; rw [app_len1]; exact h2.ent aEt)
    · try simp only [decide_eq_true_eq, decide_eq_false_iff_not, Bool.not_eq_true', Bool.not_eq_false', Bool.and_eq_true, Bool.or_eq_true, Bool.and_eq_false_iff, Bool.or_eq_false_iff, Bool.not_true, Bool.not_false] at h6
      refine s_exit_to rfl ?_
      refine s_region ?_
      refine o_p (p_fieldAddr rfl rfl fd_26_1 sz_24 rfl) rfl ?_
      refine o_q (q_load rfl rfl sz_24 aPk rfl) rfl ?_
      refine o_class (fun w h => HS.files_open (a := x.1) (cap := x.2) (l := M) h aPk) ?_
      refine o_q (q_loadn rfl rfl sz_77 aPk rfl) rfl ?_
      refine o_h (h_buildSlice (cs := [_, _, _, _]) rfl rfl sl_24 zr_77 rfl rfl rfl) rfl (fun b12 _ => ?_)
      refine o_h (h_appendS (n := M.length) ({ nth L i with oa := o.1, oc := o.2, op := N } : LFil).vals rfl rfl rfl sl_24 Try.underlying24 zr_77 rfl aPk (src_blk aPk) rfl (fv1 ({ nth L i with oa := o.1, oc := o.2, op := N } : LFil)) (by omega) (by simp only [maxLen]; omega)) rfl (fun b13 _ => ?_)
      refine o_p (p_fieldAddr rfl rfl fd_26_1 sz_24 rfl) rfl ?_
      refine o_h0 (h_store rfl rfl rfl sz_24 rfl aPt (by simp only [setMany_length, List.length_set, List.length_cons, List.length_nil, List.length_map]; omega) rfl) (fun _ _ => ?_)
      refine o_nil ?_
      refine s_blk ?_
      refine s_region ?_
      refine o_p (p_pure rfl) rfl ?_
      refine o_p (p_pure rfl) rfl ?_
      try (refine o_slot (i64w (by omega) (by omega)) ?_)
      refine o_p (p_pure rfl) rfl ?_
      refine o_nil ?_
      exact s_backI (i + 1, b13, M ++ [({ nth L i with oa := o.1, oc := o.2, op := N } : LFil)]) (by show L.length - (i + 1) < L.length - i; omega) ⟨by show i + 1 ≤ L.length; omega, by show pls (M ++ [({ nth L i with oa := o.1, oc := o.2, op := N } : LFil)]) = (pls L).take (i + 1); rw [pls_app1, hi2, take_succ_nth (by omega), nth_pls hil]; have e8 : k = (nth L i).op.length := (by omega); rw [e8, List.take_of_length_le (by simp)] at hk2; simp only [LFil.pl]; rw [show List.map LOpn.pl N = List.map LOpn.pl (nth L i).op from hk2]⟩ aSx (fun w h => by have h2 := HS.files_more (f := ({ nth L i with oa := o.1, oc := o.2, op := N } : LFil)) (l := M) (h.ent (Bs := [.own (.slice b13.1 (M.length + 1) b13.2) 77 4 (M.length + 1) _, .star (M.map subF), subF ({ nth L i with oa := o.1, oc := o.2, op := N } : LFil), .blk b3 26 2 [.int .i64 next, .slice b13.1 (M.length + 1) b13.2], .blk b1 26 2 [.int .i64 next, .slice a L.length cap], .blk b2 26 2 [.int .i64 0, .slice none 0 0]]) aEt) app_len1.symm app_flat1.symm; dsimp only; rw [app_len1]; exact h2.ent aEt)
  · try simp only [decide_eq_true_eq, decide_eq_false_iff_not, Bool.not_eq_true', Bool.not_eq_false', Bool.and_eq_true, Bool.or_eq_true, Bool.and_eq_false_iff, Bool.or_eq_false_iff, Bool.not_true, Bool.not_false] at h4
    refine s_exit_to rfl ?_
    refine s_seq ?_
    refine s_region ?_
    refine o_q (q_loadn rfl rfl sz_26 aPk rfl) rfl ?_
    refine o_h0 (h_store rfl rfl rfl sz_26 rfl aPt (by simp only [setMany_length, List.length_set, List.length_cons, List.length_nil, List.length_map]; omega) rfl) (fun _ _ => ?_)
    refine o_nil ?_
    exact s_retv (rs := [.cell 2 26]) rfl (.cell rfl sz_26 aPk rfl (.nil)) (fun w' h' => ⟨(x, M), rfl, by show pls M = pls L; rw [hi2, List.take_of_length_le (by omega)], h'.ent aEt⟩)

end Go.Proofs

/- Chapter 25, plain: the check accepts exactly the valid tables. -/
namespace Go.Proofs
open Go Go.RowKit Gx
set_option linter.unusedVariables false
set_option linter.unusedSimpArgs false

theorem lksE_iff {l : List Lock} : lksE l = 0 ↔ l.length ≤ 16 ∧ okL l := by
  constructor
  · exact lksE_0
  · rintro ⟨h1, h2⟩
    rw [lksE, if_neg (by omega)]
    unfold rngsE
    rw [eachF_0]
    intro e he
    obtain ⟨k, hk, rfl⟩ := List.mem_map.1 he
    exact h2 k hk
theorem lockedE_iff : ∀ {ks held : List Lock}, lockedE held ks = 0 ↔ (∀ h ∈ held, ∀ k ∈ ks, clsh h k = false) ∧ ks.Pairwise fun a b => clsh a b = false
  | [], held => by simp [lockedE]
  | k :: ks, held => by
    rw [lockedE]
    split
    · rename_i h
      constructor
      · intro h9; exact absurd h9 (by decide)
      · rintro ⟨h1, _⟩
        obtain ⟨x, hx, e⟩ := List.any_eq_true.1 h
        rw [h1 x hx k List.mem_cons_self] at e
        cases e
    · rename_i h
      rw [Bool.not_eq_true, List.any_eq_false] at h
      rw [lockedE_iff, List.pairwise_cons]
      constructor
      · rintro ⟨h1, h2⟩
        refine ⟨fun x hx y hy => ?_, fun y hy => h1 k (by simp) y hy, h2⟩
        rcases List.mem_cons.1 hy with rfl | hy
        · simpa using h x hx
        · exact h1 x (List.mem_append_left _ hx) y hy
      · rintro ⟨h1, h2, h3⟩
        refine ⟨fun x hx y hy => ?_, h3⟩
        rcases List.mem_append.1 hx with hx | hx
        · exact h1 x hx y (List.mem_cons_of_mem _ hy)
        · rw [List.mem_singleton.1 hx]; exact h2 y hy
theorem hdl_iff {next : Int} {known : List Int} {ops : List Opn} {k : Nat} : hdlE next known ops k = 0 ↔ (1 ≤ (nth ops k).hd ∧ (nth ops k).hd ≤ next - 1) ∧ openE (nth ops k).ac (nth ops k).sh = 0 ∧ (k = 0 ∨ (nth ops (k - 1)).hd < (nth ops k).hd) ∧ lksE (nth ops k).lk = 0 ∧ (nth ops k).hd ∉ known ∧ (ops.take k).any (cfl (nth ops k)) = false ∧ lockedE ((ops.take k).flatMap Opn.lk) (nth ops k).lk = 0 := by
  rw [hdl_r]
  grind
theorem fil_iff {next : Int} {L : List Fil} {i : Nat} : filE next L i = 0 ↔ refE (nth L i).rc (nth L i).sq = 0 ∧ (i = 0 ∨ refLt ((nth L (i - 1)).rc, (nth L (i - 1)).sq) ((nth L i).rc, (nth L i).sq) = true) ∧ 0 < (nth L i).op.length ∧ ∀ k, k < (nth L i).op.length → hdlE next (hds (L.take i)) (nth L i).op k = 0 := by
  have e : hdlsE next (hds (L.take i)) (nth L i).op = 0 ↔ ∀ k, k < (nth L i).op.length → hdlE next (hds (L.take i)) (nth L i).op k = 0 := by
    unfold hdlsE
    rw [eachF_0]
    simp
  rw [← e]
  unfold filE
  simp only []
  grind
theorem chk_iff {next : Int} {L : List Fil} : (chkT next L).2 = 0 ↔ (1 ≤ next ∧ next ≤ 2147483647) ∧ (L.length ≤ 32 ∧ cntT L ≤ 32) ∧ ∀ i, i < L.length → filE next L i = 0 := by
  have e : (eachF ((List.range L.length).map (filE next L)) 0).2 = 0 ↔ ∀ i, i < L.length → filE next L i = 0 := by
    rw [eachF_0]
    simp
  rw [← e]
  unfold chkT
  split
  · split
    · rename_i h1 h2; simp [h1, h2]
    · rename_i h1 h2; simp [h1, h2]
  · rename_i h1; simp [h1]
theorem pw_chain {α : Type} [Inhabited α] {R : α → α → Prop} {l : List α} (ht : ∀ a b c, R a b → R b c → R a c) (h : ∀ i, i < l.length → i = 0 ∨ R (nth l (i - 1)) (nth l i)) : l.Pairwise R := by
  have key : ∀ d i, i + d + 1 < l.length → R (nth l i) (nth l (i + d + 1)) := by
    intro d
    induction d with
    | zero =>
      intro i hi
      rcases h (i + 1) (by omega) with h1 | h1
      · omega
      · exact h1
    | succ d ih =>
      intro i hi
      rcases h (i + (d + 1) + 1) (by omega) with h1 | h1
      · omega
      · exact ht _ _ _ (ih i (by omega)) h1
  rw [List.pairwise_iff_getElem]
  intro i j hi hj hij
  have h1 := key (j - i - 1) i (by omega)
  rw [show i + (j - i - 1) + 1 = j by omega] at h1
  rw [nth_eq (List.getElem?_eq_getElem hi), nth_eq (List.getElem?_eq_getElem hj)] at h1
  exact h1
theorem pw_nth {α : Type} [Inhabited α] {R : α → α → Prop} {l : List α} : l.Pairwise R ↔ ∀ i j, i < j → j < l.length → R (nth l i) (nth l j) := by
  rw [List.pairwise_iff_getElem]
  constructor
  · intro h i j hij hj
    rw [nth_eq (List.getElem?_eq_getElem (show i < l.length by omega)), nth_eq (List.getElem?_eq_getElem hj)]
    exact h i j (by omega) hj hij
  · intro h i j hi hj hij
    have := h i j hij hj
    rwa [nth_eq (List.getElem?_eq_getElem hi), nth_eq (List.getElem?_eq_getElem hj)] at this
theorem mem_nth_ex {α : Type} [Inhabited α] {l : List α} {x : α} (h : x ∈ l) : ∃ i, i < l.length ∧ nth l i = x := by
  obtain ⟨i, hi, e⟩ := List.getElem_of_mem h
  exact ⟨i, hi, nth_eq (by rw [List.getElem?_eq_getElem hi, e])⟩
theorem mem_take_of {α : Type} [Inhabited α] {l : List α} {i j : Nat} (h : i < j) (hl : i < l.length) : nth l i ∈ l.take j := by
  have e : nth (l.take j) i = nth l i := nth_take h
  rw [← e]
  exact mem_nth (by rw [List.length_take]; omega)
theorem flat_pw {ops : List Opn} : (∀ k, k < ops.length → lockedE ((ops.take k).flatMap Opn.lk) (nth ops k).lk = 0) ↔ (ops.flatMap Opn.lk).Pairwise fun a b => clsh a b = false := by
  constructor
  · intro h
    have key : ∀ k, k ≤ ops.length → ((ops.take k).flatMap Opn.lk).Pairwise fun a b => clsh a b = false := by
      intro k
      induction k with
      | zero => intro _; simp
      | succ k ih =>
        intro hk
        rw [take_succ_nth (by omega), List.flatMap_append, List.pairwise_append]
        have h1 := lockedE_iff.1 (h k (by omega))
        exact ⟨ih (by omega), by simpa using h1.2, fun a ha b hb => h1.1 a ha b (by simpa using hb)⟩
    have := key ops.length (Nat.le_refl _)
    rwa [List.take_length] at this
  · intro h k hk
    rw [← List.take_append_drop k ops, List.flatMap_append, List.pairwise_append, drop_nth hk, List.flatMap_cons] at h
    rw [lockedE_iff]
    refine ⟨fun x hx y hy => h.2.2 x hx y (List.mem_append_left _ hy), ?_⟩
    exact (List.pairwise_append.1 h.2.1).1
theorem any_cf {ops : List Opn} : (∀ k, k < ops.length → (ops.take k).any (cfl (nth ops k)) = false) ↔ ops.Pairwise fun a b => cfl a b = false := by
  rw [pw_nth]
  constructor
  · intro h i j hij hj
    have h1 := h j hj
    rw [List.any_eq_false] at h1
    have h2 := h1 _ (mem_take_of (l := ops) hij (by omega))
    rw [cfl_comm]
    simpa using h2
  · intro h k hk
    rw [List.any_eq_false]
    intro o ho
    obtain ⟨m, h1, h2, rfl⟩ := nth_mem_take ho
    rw [cfl_comm, h m k h1 hk]
    decide
theorem hds_in {L : List Fil} {i j : Nat} {o : Opn} (h : i < j) (hi : i < L.length) (ho : o ∈ (nth L i).op) : o.hd ∈ hds (L.take j) := by
  unfold hds
  exact List.mem_flatMap.2 ⟨_, mem_take_of h hi, List.mem_map.2 ⟨o, ho, rfl⟩⟩
theorem chk_ok {next : Int} {L : List Fil} (h : (chkT next L).2 = 0) : Ok next L := by
  obtain ⟨h1, h2, h3⟩ := chk_iff.1 h
  have hf : ∀ i, i < L.length → FOk next (nth L i) := by
    intro i hi
    obtain ⟨f1, f2, f3, f4⟩ := fil_iff.1 (h3 i hi)
    have hk := fun k hk => hdl_iff.1 (f4 k hk)
    refine ⟨f1, f3, fun o ho => ?_, fun o ho => ?_, pw_chain (fun a b c p q => (by omega)) fun k hk9 => (hk k hk9).2.2.1, any_cf.1 fun k hk9 => (hk k hk9).2.2.2.2.2.1, flat_pw.1 fun k hk9 => (hk k hk9).2.2.2.2.2.2⟩
    · obtain ⟨k, hk9, rfl⟩ := mem_nth_ex ho
      exact (hk k hk9).1
    · obtain ⟨k, hk9, rfl⟩ := mem_nth_ex ho
      have h9 := lksE_iff.1 (hk k hk9).2.2.2.1
      exact ⟨(hk k hk9).2.1, h9.2, h9.1⟩
  refine ⟨h1, h2.2, fun f hf9 => ?_, pw_chain (fun a b c => refLt_tr) fun i hi => (fil_iff.1 (h3 i hi)).2.1, ?_⟩
  · obtain ⟨i, hi, rfl⟩ := mem_nth_ex hf9
    exact hf i hi
  · rw [pw_nth]
    intro i j hij hj o ho p hp he
    obtain ⟨k, hk9, rfl⟩ := mem_nth_ex hp
    have h9 := (hdl_iff.1 ((fil_iff.1 (h3 j hj)).2.2.2 k hk9)).2.2.2.2.1
    exact h9 (by rw [← he]; exact hds_in hij (by omega) ho)
theorem ok_chk {next : Int} {L : List Fil} (h : Ok next L) : (chkT next L).2 = 0 := by
  rw [chk_iff]
  refine ⟨h.nx, ⟨h.vw.len, h.cnt⟩, fun i hi => ?_⟩
  have hf := nth_Ok h hi
  rw [fil_iff]
  refine ⟨hf.rf, ?_, hf.ne, fun k hk => ?_⟩
  · by_cases h0 : i = 0
    · exact .inl h0
    · exact .inr (pw_nth.1 h.sr (i - 1) i (by omega) hi)
  · rw [hdl_iff]
    have ho := hf.op _ (mem_nth hk)
    refine ⟨hf.hd _ (mem_nth hk), ho.1, ?_, lksE_iff.2 ⟨ho.2.2, ho.2.1⟩, ?_, any_cf.2 hf.cf k hk, flat_pw.2 hf.lk k hk⟩
    · by_cases h0 : k = 0
      · exact .inl h0
      · exact .inr (pw_nth.1 hf.hs (k - 1) k (by omega) hk)
    · intro hm
      unfold hds at hm
      obtain ⟨g, hg, hx⟩ := List.mem_flatMap.1 hm
      obtain ⟨j, h1, h2, rfl⟩ := nth_mem_take hg
      obtain ⟨o, ho9, he⟩ := List.mem_map.1 hx
      exact pw_nth.1 h.ds j i h1 hi o ho9 _ (mem_nth hk) he
end Go.Proofs

namespace Go.Proofs
open Go Go.RowKit Gx
set_option linter.unusedVariables false
set_option linter.unusedSimpArgs false
attribute [local irreducible] Go.Calls Gx.S Gx.O Gx.D Gx.OpP Gx.OpQ Gx.OpH

theorem fn_19 : isFn Try.prog 19 = true := by kernel_rfl


/-- A table after something was done to it, or the error of the table, or of what was done. -/
def afT (next : Int) (L : List Fil) (r : List Fil × Int) : (List Fil × Int) × Int := if (chkT next L).2 = 0 then if r.2 = 0 then ((r.1, next), 0) else (([], 0), r.2) else (([], 0), (chkT next L).2)
theorem same_nth {N L : List LFil} {i : Nat} (h : pls N = pls L) (hi : i < L.length) : i < N.length ∧ (nth N i).pl = (nth L i).pl := by
  have hl : N.length = L.length := by
    have h9 := congrArg List.length h
    simpa using h9
  refine ⟨by omega, ?_⟩
  rw [← nth_pls (show i < N.length by omega), h, nth_pls hi]
end Go.Proofs

namespace Go.Proofs
open Go Go.RowKit Gx
set_option linter.unusedVariables false
set_option linter.unusedSimpArgs false
attribute [local irreducible] Go.Calls Gx.S Gx.O Gx.D Gx.OpP Gx.OpQ Gx.OpH



def kpW (w ex oth : Bool) : Bool := (ex && oth) || (!ex && w)
def mayR (next : Int) (L : List Fil) (h fr cnt : Int) (w : Bool) : Int := if (chkT next L).2 = 0 then mayT L h ⟨fr, cnt, false⟩ (bif w then 2 else 1) (kpW w) else (chkT next L).2
end Go.Proofs

namespace Go.Proofs
open Go Go.RowKit Gx
set_option linter.unusedVariables false
set_option linter.unusedSimpArgs false
attribute [local irreducible] Go.Calls Gx.S Gx.O Gx.D Gx.OpP Gx.OpQ Gx.OpH



theorem same_op {f f' : LFil} {k : Nat} (h : f'.pl = f.pl) (hk : k < f.op.length) : k < f'.op.length ∧ f'.op.length = f.op.length ∧ (nth f'.op k).pl = (nth f.op k).pl := by
  have h1 : plo f'.op = plo f.op := congrArg Fil.op h
  have hl : f'.op.length = f.op.length := by
    have h9 := congrArg List.length h1
    simpa using h9
  refine ⟨by omega, hl, ?_⟩
  rw [← nth_plo (show k < f'.op.length by omega), h1, nth_plo hk]

end Go.Proofs

namespace Go.Proofs
open Go Go.RowKit Gx
set_option linter.unusedVariables false
set_option linter.unusedSimpArgs false
attribute [local irreducible] Go.Calls Gx.S Gx.O Gx.D Gx.OpP Gx.OpQ Gx.OpH



end Go.Proofs

namespace Go.Proofs
open Go Go.RowKit Gx
set_option linter.unusedVariables false
set_option linter.unusedSimpArgs false
attribute [local irreducible] Go.Calls Gx.S Gx.O Gx.D Gx.OpP Gx.OpQ Gx.OpH

theorem eqk_62 : teqk Try.prog 62 = some [0, 0, 2] := by kernel_rfl


theorem same_len {L L2 : List LFil} (h : pls L2 = pls L) : L2.length = L.length := by
  have h9 := congrArg List.length h
  simpa using h9

set_option maxRecDepth 20000 in
set_option maxHeartbeats 1000000 in
theorem c14 (w : World) (next : Int) (a b : Option Addr) (cap cap2 : Nat) (L L2 : List LFil) (hs : Ft w [] a L) (ht : Ft w [] b L2) (he : pls L2 = pls L) (hm : L.length ≤ 1000) (hmo : ∀ f ∈ L, f.op.length ≤ 1000) (hml : ∀ f ∈ L, ∀ o ∈ f.op, o.lk.length ≤ 1000) : Calls Try.prog 14 #[.agg #[.int .i64 next, .slice a L.length cap], .agg #[.int .i64 next, .slice b L2.length cap2]] w fun en w' => en = .returned (.bool true) ∧ Below w.heap.size w w' := by
  have hll := same_len he
  refine enter (args := [_, _]) Try.func14 Try.ntmps14 rfl rfl (HS.refl w []) ?_
  refine s_seq ?_
  refine s_region ?_
  refine o_h (h_box rfl rfl) rfl (fun b1 _ => ?_)
  refine o_h (h_box rfl rfl) rfl (fun b2 _ => ?_)
  refine o_p (p_pure rfl) rfl ?_
  refine o_nil ?_
  refine s_seq ?_
  refine s_seq ?_
  refine s_region ?_
  refine o_p (p_fieldAddr rfl rfl fd_26_0 sz_3 rfl) rfl ?_
  refine o_q (q_load rfl rfl sz_3 aPk rfl) rfl ?_
  refine o_p (p_fieldAddr rfl rfl fd_26_0 sz_3 rfl) rfl ?_
  refine o_q (q_load rfl rfl sz_3 aPk rfl) rfl ?_
  refine o_p (p_pure rfl) rfl ?_
  refine o_p (p_pure rfl) rfl ?_
  refine o_or 8 17 25 _ _ rfl
    (by
      intro hg3
      have hs4 := hg3; try simp only [decide_eq_true_eq, decide_eq_false_iff_not, Bool.not_eq_true', Bool.not_eq_false', Bool.and_eq_true, Bool.or_eq_true, Bool.and_eq_false_iff, Bool.or_eq_false_iff, Bool.not_true, Bool.not_false] at hs4
      refine o_on 17 _ rfl rfl hg3 ?_
      refine o_p (p_fieldAddr rfl rfl fd_26_1 sz_24 rfl) rfl ?_
      refine o_on 17 _ rfl rfl hg3 ?_
      refine o_q (q_load rfl rfl sz_24 aPk rfl) rfl ?_
      refine o_on 17 _ rfl rfl hg3 ?_
      refine o_p (p_len_slice rfl rfl Try.underlying24) rfl ?_
      refine o_on 17 _ rfl rfl hg3 ?_
      refine o_p (p_fieldAddr rfl rfl fd_26_1 sz_24 rfl) rfl ?_
      refine o_on 17 _ rfl rfl hg3 ?_
      refine o_q (q_load rfl rfl sz_24 aPk rfl) rfl ?_
      refine o_on 17 _ rfl rfl hg3 ?_
      refine o_p (p_len_slice rfl rfl Try.underlying24) rfl ?_
      refine o_on 17 _ rfl rfl hg3 ?_
      refine o_p (p_pure rfl) rfl ?_
      refine o_p (p_pickf rfl rfl hg3 rfl) rfl ?_
      refine o_nil ?_
      exact s_joinN 8 25 _ rfl rfl rfl (fun w h => by first | exact h | exact h.ent aEt))
    (by
      intro hg5
      have hs6 := hg5; try simp only [decide_eq_true_eq, decide_eq_false_iff_not, Bool.not_eq_true', Bool.not_eq_false', Bool.and_eq_true, Bool.or_eq_true, Bool.and_eq_false_iff, Bool.or_eq_false_iff, Bool.not_true, Bool.not_false] at hs6
      refine o_off 17 _ rfl rfl hg5 rfl ?_
      refine o_off 17 _ rfl rfl hg5 rfl ?_
      refine o_off 17 _ rfl rfl hg5 rfl ?_
      refine o_off 17 _ rfl rfl hg5 rfl ?_
      refine o_off 17 _ rfl rfl hg5 rfl ?_
      refine o_off 17 _ rfl rfl hg5 rfl ?_
      refine o_off 17 _ rfl rfl hg5 rfl ?_
      refine o_p (p_pickt rfl rfl hg5 rfl) rfl ?_
      refine o_nil ?_
      exact s_joinN 8 25 _ rfl rfl rfl (fun w h => by first | exact h | exact h.ent aEt)) ?_
  refine o_nil ?_
  refine s_cond rfl (fun h7 => ?_) (fun h7 => ?_)
  · try simp only [decide_eq_true_eq, decide_eq_false_iff_not, Bool.not_eq_true', Bool.not_eq_false', Bool.and_eq_true, Bool.or_eq_true, Bool.and_eq_false_iff, Bool.or_eq_false_iff, Bool.not_true, Bool.not_false] at h7
    exfalso; have hq9 := h7; simp [hll] at hq9
  · try simp only [decide_eq_true_eq, decide_eq_false_iff_not, Bool.not_eq_true', Bool.not_eq_false', Bool.and_eq_true, Bool.or_eq_true, Bool.and_eq_false_iff, Bool.or_eq_false_iff, Bool.not_true, Bool.not_false] at h7
    refine s_skip ?_
    refine s_seq ?_
    refine s_seq ?_
    refine s_region ?_
    refine o_p (p_pure rfl) rfl ?_
    refine o_nil ?_
    refine s_block ?_
    refine s_loopI (α := Nat) [4, 5, 6, 7, 8, 9, 10, 11, 26, 27, 28, 29, 30, 31, 32, 33, 34, 35, 36, 37, 38, 39, 40, 41, 42, 43, 44, 45, 46, 47, 48, 49, 50, 51, 52, 53, 54, 55, 56, 57, 58, 59, 60, 61, 62, 63, 64, 65, 66, 67, 68, 69, 70, 71, 72, 73, 74, 75, 76, 77, 78, 79, 80, 81, 82, 83, 84, 85, 86, 87, 88, 89, 90, 91, 92, 93, 94, 95, 96, 97, 98, 99, 100, 101, 102, 103, 104, 105, 106, 107, 108, 109, 110, 111, 112, 113, 114, 115, 116, 117, 118, 119, 120, 121, 122, 123, 124, 125, 126, 127, 128, 129, 130, 131, 132, 133] (fun i => [(5, .int .i64 (i : Int))]) (fun _ => HS w [] [.blk b1 26 2 [.int .i64 next, .slice a L.length cap], .blk b2 26 2 [.int .i64 next, .slice b L2.length cap2]]) (fun i => i ≤ L.length) (fun i => L.length - i) 0 (Nat.zero_le _) aSx (fun w h => h.ent aEt) (fun i hi1 => ?_)
    refine s_seq ?_
    refine s_seq ?_
    refine s_region ?_
    refine o_p (p_pure rfl) rfl ?_
    refine o_p (p_fieldAddr rfl rfl fd_26_1 sz_24 rfl) rfl ?_
    refine o_q (q_load rfl rfl sz_24 aPk rfl) rfl ?_
    refine o_p (p_len_slice rfl rfl Try.underlying24) rfl ?_
    refine o_p (p_pure rfl) rfl ?_
    refine o_nil ?_
    refine s_cond rfl (fun h8 => ?_) (fun h8 => ?_)
    · try simp only [decide_eq_true_eq, decide_eq_false_iff_not, Bool.not_eq_true', Bool.not_eq_false', Bool.and_eq_true, Bool.or_eq_true, Bool.and_eq_false_iff, Bool.or_eq_false_iff, Bool.not_true, Bool.not_false] at h8
      have hi : i < L.length := by omega
      have hi2 : i < L2.length := by omega
      have hoi := hmo _ (mem_nth hi)
      have hp := (same_nth he hi).2
      have e1 : (nth L2 i).rc = (nth L i).rc := congrArg Fil.rc hp
      have e2 : (nth L2 i).sq = (nth L i).sq := congrArg Fil.sq hp
      have e3 : (nth L2 i).pd = (nth L i).pd := congrArg Fil.pd hp
      have e4 : (nth L2 i).op.length = (nth L i).op.length := by have h9 := congrArg (fun f : Fil => f.op.length) hp; simpa [LFil.pl] using h9
      refine s_skip ?_
      refine s_seq ?_
      refine s_block ?_
      refine s_seq ?_
      refine s_cutI (α := Nat × Nat) [6, 7, 33, 34, 35, 36, 37, 38, 39, 40, 41, 42] (fun y => [(6, .pointer (some ⟨y.1, 0, none⟩)), (7, .pointer (some ⟨y.2, 0, none⟩))]) (fun y => HS w [] [.blk y.1 77 4 (nth L i).vals, .blk y.2 77 4 (nth L2 i).vals, .blk b1 26 2 [.int .i64 next, .slice a L.length cap], .blk b2 26 2 [.int .i64 next, .slice b L2.length cap2]]) (fun _ => True) ?_ ?_
      · skip
        refine s_drawB [.blk b1 26 2 [.int .i64 next, .slice a L.length cap], .blk b2 26 2 [.int .i64 next, .slice b L2.length cap2]] [13] mixed ?_
        refine d_p 0 rfl (p_fieldAddr rfl rfl fd_26_1 sz_24 rfl) (by kernel_rfl) rfl rfl ?_
        refine d_q 1 [[]] rfl (q_load rfl rfl sz_24 aPk rfl) (by kernel_rfl) (by kernel_rfl) (by kernel_rfl) rfl ?_
        refine d_p 2 rfl (p_pure rfl) (by kernel_rfl) rfl rfl ?_
        refine d_p 3 rfl (p_indexAddr rfl rfl rfl sl_24 (i) (by omega) (by omega) (Rw.some hs.1 (by omega))) (by kernel_rfl) rfl rfl ?_
        refine d_q 4 [[]] rfl (q_load_oldn _ rfl rfl sz_77 rfl (Rw.rd hs.1 hi)) (by kernel_rfl) (by kernel_rfl) (by kernel_rfl) rfl ?_
        refine d_p 5 rfl (p_fieldAddr rfl rfl fd_26_1 sz_24 rfl) (by kernel_rfl) rfl rfl ?_
        refine d_q 6 [[]] rfl (q_load rfl rfl sz_24 aPk rfl) (by kernel_rfl) (by kernel_rfl) (by kernel_rfl) rfl ?_
        refine d_p 7 rfl (p_pure rfl) (by kernel_rfl) rfl rfl ?_
        refine d_p 8 rfl (p_indexAddr rfl rfl rfl sl_24 (i) (by omega) (by omega) (Rw.some ht.1 (by omega))) (by kernel_rfl) rfl rfl ?_
        refine d_q 9 [[]] rfl (q_load_oldn _ rfl rfl sz_77 rfl (Rw.rd ht.1 hi2)) (by kernel_rfl) (by kernel_rfl) (by kernel_rfl) rfl ?_
        refine d_two 10 11 rfl rfl  (h_alloc rfl zr_77) (h_alloc rfl zr_77) (by kernel_rfl) (fun w h => h.ent aEt) rfl rfl  (fun b9 _ => ?_) (fun b10 _ => ?_)
        · skip
          refine d_h 11 rfl (h_alloc rfl zr_77) (by kernel_rfl) (fun w h => h.ent aEt) rfl (fun b11 _ => ?_)
          refine d_h0 12 rfl (h_store rfl rfl rfl sz_77 rfl aPt (by simp only [setMany_length, List.length_set, List.length_cons, List.length_nil, List.length_map]; omega) rfl) (by kernel_rfl) (fun w h => h.ent aEt) (fun _ _ => ?_)
          refine d_h0 13 rfl (h_store rfl rfl rfl sz_77 rfl aPt (by simp only [setMany_length, List.length_set, List.length_cons, List.length_nil, List.length_map]; omega) rfl) (by kernel_rfl) (fun w h => h.ent aEt) (fun _ _ => ?_)
          refine d_turn [] (by kernel_rfl) ?_
          refine d_nil (by kernel_rfl) (fun w h => h.ent aEt) ?_
          exact s_joinI (_, _) trivial aSx (fun w h => h.ent aEt)
        · skip
          refine d_h 10 rfl (h_alloc rfl zr_77) (by kernel_rfl) (fun w h => h.ent aEt) rfl (fun b12 _ => ?_)
          refine d_h0 12 rfl (h_store rfl rfl rfl sz_77 rfl aPt (by simp only [setMany_length, List.length_set, List.length_cons, List.length_nil, List.length_map]; omega) rfl) (by kernel_rfl) (fun w h => h.ent aEt) (fun _ _ => ?_)
          refine d_h0 13 rfl (h_store rfl rfl rfl sz_77 rfl aPt (by simp only [setMany_length, List.length_set, List.length_cons, List.length_nil, List.length_map]; omega) rfl) (by kernel_rfl) (fun w h => h.ent aEt) (fun _ _ => ?_)
          refine d_turn [] (by kernel_rfl) ?_
          refine d_nil (by kernel_rfl) (fun w h => h.ent aEt) ?_
          exact s_joinI (_, _) trivial aSx (fun w h => h.ent aEt)
      · intro y _
        refine s_seq ?_
        refine s_seq ?_
        refine s_region ?_
        refine o_p (p_fieldAddr rfl rfl fd_77_0 sz_42 rfl) rfl ?_
        refine o_q (q_loadn rfl rfl sz_42 aPk rfl) rfl ?_
        refine o_p (p_fieldAddr rfl rfl fd_77_0 sz_42 rfl) rfl ?_
        refine o_q (q_loadn rfl rfl sz_42 aPk rfl) rfl ?_
        refine o_p (p_neq_agg rfl rfl rfl eqk_42 (by rfl) (by rfl) (by rfl)) rfl ?_
        refine o_p (p_pure rfl) rfl ?_
        refine o_or 6 48 54 _ _ rfl
          (by
            intro hg13
            have hs14 := hg13; try simp only [decide_eq_true_eq, decide_eq_false_iff_not, Bool.not_eq_true', Bool.not_eq_false', Bool.and_eq_true, Bool.or_eq_true, Bool.and_eq_false_iff, Bool.or_eq_false_iff, Bool.not_true, Bool.not_false] at hs14
            refine o_on 48 _ rfl rfl hg13 ?_
            refine o_p (p_fieldAddr rfl rfl fd_77_1 sz_4 rfl) rfl ?_
            refine o_on 48 _ rfl rfl hg13 ?_
            refine o_q (q_load rfl rfl sz_4 aPk rfl) rfl ?_
            refine o_on 48 _ rfl rfl hg13 ?_
            refine o_p (p_fieldAddr rfl rfl fd_77_1 sz_4 rfl) rfl ?_
            refine o_on 48 _ rfl rfl hg13 ?_
            refine o_q (q_load rfl rfl sz_4 aPk rfl) rfl ?_
            refine o_on 48 _ rfl rfl hg13 ?_
            refine o_p (p_neq_bool rfl rfl rfl Try.underlying4) rfl ?_
            refine o_p (p_pickf rfl rfl hg13 rfl) rfl ?_
            refine o_nil ?_
            exact s_joinN 6 54 _ rfl rfl rfl (fun w h => by first | exact h | exact h.ent aEt))
          (by
            intro hg15
            have hs16 := hg15; try simp only [decide_eq_true_eq, decide_eq_false_iff_not, Bool.not_eq_true', Bool.not_eq_false', Bool.and_eq_true, Bool.or_eq_true, Bool.and_eq_false_iff, Bool.or_eq_false_iff, Bool.not_true, Bool.not_false] at hs16
            refine o_off 48 _ rfl rfl hg15 rfl ?_
            refine o_off 48 _ rfl rfl hg15 rfl ?_
            refine o_off 48 _ rfl rfl hg15 rfl ?_
            refine o_off 48 _ rfl rfl hg15 rfl ?_
            refine o_off 48 _ rfl rfl hg15 rfl ?_
            refine o_p (p_pickt rfl rfl hg15 rfl) rfl ?_
            refine o_nil ?_
            exact s_joinN 6 54 _ rfl rfl rfl (fun w h => by first | exact h | exact h.ent aEt)) ?_
        refine o_p (p_pure rfl) rfl ?_
        refine o_or 8 55 63 _ _ rfl
          (by
            intro hg17
            have hs18 := hg17; try simp only [decide_eq_true_eq, decide_eq_false_iff_not, Bool.not_eq_true', Bool.not_eq_false', Bool.and_eq_true, Bool.or_eq_true, Bool.and_eq_false_iff, Bool.or_eq_false_iff, Bool.not_true, Bool.not_false] at hs18
            refine o_on 55 _ rfl rfl hg17 ?_
            refine o_p (p_fieldAddr rfl rfl fd_77_2 sz_75 rfl) rfl ?_
            refine o_on 55 _ rfl rfl hg17 ?_
            refine o_q (q_load rfl rfl sz_75 aPk rfl) rfl ?_
            refine o_on 55 _ rfl rfl hg17 ?_
            refine o_p (p_len_slice rfl rfl Try.underlying75) rfl ?_
            refine o_on 55 _ rfl rfl hg17 ?_
            refine o_p (p_fieldAddr rfl rfl fd_77_2 sz_75 rfl) rfl ?_
            refine o_on 55 _ rfl rfl hg17 ?_
            refine o_q (q_load rfl rfl sz_75 aPk rfl) rfl ?_
            refine o_on 55 _ rfl rfl hg17 ?_
            refine o_p (p_len_slice rfl rfl Try.underlying75) rfl ?_
            refine o_on 55 _ rfl rfl hg17 ?_
            refine o_p (p_pure rfl) rfl ?_
            refine o_p (p_pickf rfl rfl hg17 rfl) rfl ?_
            refine o_nil ?_
            exact s_joinN 8 63 _ rfl rfl rfl (fun w h => by first | exact h | exact h.ent aEt))
          (by
            intro hg19
            have hs20 := hg19; try simp only [decide_eq_true_eq, decide_eq_false_iff_not, Bool.not_eq_true', Bool.not_eq_false', Bool.and_eq_true, Bool.or_eq_true, Bool.and_eq_false_iff, Bool.or_eq_false_iff, Bool.not_true, Bool.not_false] at hs20
            refine o_off 55 _ rfl rfl hg19 rfl ?_
            refine o_off 55 _ rfl rfl hg19 rfl ?_
            refine o_off 55 _ rfl rfl hg19 rfl ?_
            refine o_off 55 _ rfl rfl hg19 rfl ?_
            refine o_off 55 _ rfl rfl hg19 rfl ?_
            refine o_off 55 _ rfl rfl hg19 rfl ?_
            refine o_off 55 _ rfl rfl hg19 rfl ?_
            refine o_p (p_pickt rfl rfl hg19 rfl) rfl ?_
            refine o_nil ?_
            exact s_joinN 8 63 _ rfl rfl rfl (fun w h => by first | exact h | exact h.ent aEt)) ?_
        refine o_nil ?_
        refine s_cond rfl (fun h21 => ?_) (fun h21 => ?_)
        · try simp only [decide_eq_true_eq, decide_eq_false_iff_not, Bool.not_eq_true', Bool.not_eq_false', Bool.and_eq_true, Bool.or_eq_true, Bool.and_eq_false_iff, Bool.or_eq_false_iff, Bool.not_true, Bool.not_false] at h21
          exfalso; have hq9 := h21; simp [e1, e2, e3, e4] at hq9
        · try simp only [decide_eq_true_eq, decide_eq_false_iff_not, Bool.not_eq_true', Bool.not_eq_false', Bool.and_eq_true, Bool.or_eq_true, Bool.and_eq_false_iff, Bool.or_eq_false_iff, Bool.not_true, Bool.not_false] at h21
          refine s_skip ?_
          refine s_seq ?_
          refine s_region ?_
          refine o_p (p_pure rfl) rfl ?_
          refine o_nil ?_
          refine s_block ?_
          refine s_weaken (L' := [(0, _), (1, _), (2, _), (3, _), (5, _), (6, _), (7, _), (8, _), (12, _), (13, _), (14, _), (15, _), (16, _), (17, _), (25, _)]) aSx (fun _ h => h) ?_
          refine s_loopI (α := Nat) [4, 8, 9, 10, 11, 64, 65, 66, 67, 68, 69, 70, 71, 72, 73, 74, 75, 76, 77, 78, 79, 80, 81, 82, 83, 84, 85, 86, 87, 88, 89, 90, 91, 92, 93, 94, 95, 96, 97, 98, 99, 100, 101, 102, 103, 104, 105, 106, 107, 108, 109, 110, 111, 112, 113, 114, 115, 116, 117, 118, 119, 120, 121, 122, 123, 124, 125, 126, 127, 128, 129, 130, 131, 132, 133] (fun i => [(8, .int .i64 (i : Int))]) (fun _ => HS w [] [.blk y.1 77 4 (nth L i).vals, .blk y.2 77 4 (nth L2 i).vals, .blk b1 26 2 [.int .i64 next, .slice a L.length cap], .blk b2 26 2 [.int .i64 next, .slice b L2.length cap2]]) (fun k => k ≤ (nth L i).op.length) (fun k => (nth L i).op.length - k) 0 (Nat.zero_le _) aSx (fun w h => h.ent aEt) (fun k hk1 => ?_)
          refine s_seq ?_
          refine s_seq ?_
          refine s_region ?_
          refine o_p (p_pure rfl) rfl ?_
          refine o_p (p_fieldAddr rfl rfl fd_77_2 sz_75 rfl) rfl ?_
          refine o_q (q_load rfl rfl sz_75 aPk rfl) rfl ?_
          refine o_p (p_len_slice rfl rfl Try.underlying75) rfl ?_
          refine o_p (p_pure rfl) rfl ?_
          refine o_nil ?_
          refine s_cond rfl (fun h22 => ?_) (fun h22 => ?_)
          · try simp only [decide_eq_true_eq, decide_eq_false_iff_not, Bool.not_eq_true', Bool.not_eq_false', Bool.and_eq_true, Bool.or_eq_true, Bool.and_eq_false_iff, Bool.or_eq_false_iff, Bool.not_true, Bool.not_false] at h22
            have hk : k < (nth L i).op.length := by omega
            have hk2 : k < (nth L2 i).op.length := by omega
            have hki := hml _ (mem_nth hi) _ (mem_nth hk)
            have hq := (same_op hp hk).2.2
            have d1 : (nth (nth L2 i).op k).hd = (nth (nth L i).op k).hd := congrArg Opn.hd hq
            have d2 : (nth (nth L2 i).op k).ac = (nth (nth L i).op k).ac := congrArg Opn.ac hq
            have d3 : (nth (nth L2 i).op k).sh = (nth (nth L i).op k).sh := congrArg Opn.sh hq
            have d4 : (nth (nth L2 i).op k).dl = (nth (nth L i).op k).dl := congrArg Opn.dl hq
            have d5 : (nth (nth L2 i).op k).lk = (nth (nth L i).op k).lk := congrArg Opn.lk hq
            have d6 : (nth (nth L2 i).op k).lk.length = (nth (nth L i).op k).lk.length := by rw [d5]
            refine s_skip ?_
            refine s_seq ?_
            refine s_block ?_
            refine s_seq ?_
            refine s_cutI (α := Nat × Nat) [9, 10, 71, 72, 73, 74, 75, 76, 77, 78, 79, 80] (fun z => [(9, .pointer (some ⟨z.1, 0, none⟩)), (10, .pointer (some ⟨z.2, 0, none⟩))]) (fun z => HS w [] [.blk z.1 48 5 (nth (nth L i).op k).vals, .blk z.2 48 5 (nth (nth L2 i).op k).vals, .blk y.1 77 4 (nth L i).vals, .blk y.2 77 4 (nth L2 i).vals, .blk b1 26 2 [.int .i64 next, .slice a L.length cap], .blk b2 26 2 [.int .i64 next, .slice b L2.length cap2]]) (fun _ => True) ?_ ?_
            · skip
              refine s_drawB [.blk y.1 77 4 (nth L i).vals, .blk y.2 77 4 (nth L2 i).vals, .blk b1 26 2 [.int .i64 next, .slice a L.length cap], .blk b2 26 2 [.int .i64 next, .slice b L2.length cap2]] [13] mixed ?_
              refine d_p 0 rfl (p_fieldAddr rfl rfl fd_77_2 sz_75 rfl) (by kernel_rfl) rfl rfl ?_
              refine d_q 1 [[]] rfl (q_load rfl rfl sz_75 aPk rfl) (by kernel_rfl) (by kernel_rfl) (by kernel_rfl) rfl ?_
              refine d_p 2 rfl (p_pure rfl) (by kernel_rfl) rfl rfl ?_
              refine d_p 3 rfl (p_indexAddr rfl rfl rfl sl_75 (k) (by omega) (by omega) (Rw.some (hs.at hi).1 (by omega))) (by kernel_rfl) rfl rfl ?_
              refine d_q 4 [[]] rfl (q_load_oldn _ rfl rfl sz_48 rfl (Rw.rd (hs.at hi).1 hk)) (by kernel_rfl) (by kernel_rfl) (by kernel_rfl) rfl ?_
              refine d_p 5 rfl (p_fieldAddr rfl rfl fd_77_2 sz_75 rfl) (by kernel_rfl) rfl rfl ?_
              refine d_q 6 [[]] rfl (q_load rfl rfl sz_75 aPk rfl) (by kernel_rfl) (by kernel_rfl) (by kernel_rfl) rfl ?_
              refine d_p 7 rfl (p_pure rfl) (by kernel_rfl) rfl rfl ?_
              refine d_p 8 rfl (p_indexAddr rfl rfl rfl sl_75 (k) (by omega) (by omega) (Rw.some (ht.at hi2).1 (by omega))) (by kernel_rfl) rfl rfl ?_
              refine d_q 9 [[]] rfl (q_load_oldn _ rfl rfl sz_48 rfl (Rw.rd (ht.at hi2).1 hk2)) (by kernel_rfl) (by kernel_rfl) (by kernel_rfl) rfl ?_
              refine d_two 10 11 rfl rfl  (h_alloc rfl zr_48) (h_alloc rfl zr_48) (by kernel_rfl) (fun w h => h.ent aEt) rfl rfl  (fun b23 _ => ?_) (fun b24 _ => ?_)
              · skip
                refine d_h 11 rfl (h_alloc rfl zr_48) (by kernel_rfl) (fun w h => h.ent aEt) rfl (fun b25 _ => ?_)
                refine d_h0 12 rfl (h_store rfl rfl rfl sz_48 rfl aPt (by simp only [setMany_length, List.length_set, List.length_cons, List.length_nil, List.length_map]; omega) rfl) (by kernel_rfl) (fun w h => h.ent aEt) (fun _ _ => ?_)
                refine d_h0 13 rfl (h_store rfl rfl rfl sz_48 rfl aPt (by simp only [setMany_length, List.length_set, List.length_cons, List.length_nil, List.length_map]; omega) rfl) (by kernel_rfl) (fun w h => h.ent aEt) (fun _ _ => ?_)
                refine d_turn [] (by kernel_rfl) ?_
                refine d_nil (by kernel_rfl) (fun w h => h.ent aEt) ?_
                exact s_joinI (_, _) trivial aSx (fun w h => h.ent aEt)
              · skip
                refine d_h 10 rfl (h_alloc rfl zr_48) (by kernel_rfl) (fun w h => h.ent aEt) rfl (fun b26 _ => ?_)
                refine d_h0 12 rfl (h_store rfl rfl rfl sz_48 rfl aPt (by simp only [setMany_length, List.length_set, List.length_cons, List.length_nil, List.length_map]; omega) rfl) (by kernel_rfl) (fun w h => h.ent aEt) (fun _ _ => ?_)
                refine d_h0 13 rfl (h_store rfl rfl rfl sz_48 rfl aPt (by simp only [setMany_length, List.length_set, List.length_cons, List.length_nil, List.length_map]; omega) rfl) (by kernel_rfl) (fun w h => h.ent aEt) (fun _ _ => ?_)
                refine d_turn [] (by kernel_rfl) ?_
                refine d_nil (by kernel_rfl) (fun w h => h.ent aEt) ?_
                exact s_joinI (_, _) trivial aSx (fun w h => h.ent aEt)
            · intro z _
              refine s_seq ?_
              refine s_seq ?_
              refine s_region ?_
              refine o_p (p_fieldAddr rfl rfl fd_48_0 sz_3 rfl) rfl ?_
              refine o_q (q_load rfl rfl sz_3 aPk rfl) rfl ?_
              refine o_p (p_fieldAddr rfl rfl fd_48_0 sz_3 rfl) rfl ?_
              refine o_q (q_load rfl rfl sz_3 aPk rfl) rfl ?_
              refine o_p (p_pure rfl) rfl ?_
              refine o_p (p_pure rfl) rfl ?_
              refine o_or 6 86 92 _ _ rfl
                (by
                  intro hg27
                  have hs28 := hg27; try simp only [decide_eq_true_eq, decide_eq_false_iff_not, Bool.not_eq_true', Bool.not_eq_false', Bool.and_eq_true, Bool.or_eq_true, Bool.and_eq_false_iff, Bool.or_eq_false_iff, Bool.not_true, Bool.not_false] at hs28
                  refine o_on 86 _ rfl rfl hg27 ?_
                  refine o_p (p_fieldAddr rfl rfl fd_48_1 sz_3 rfl) rfl ?_
                  refine o_on 86 _ rfl rfl hg27 ?_
                  refine o_q (q_load rfl rfl sz_3 aPk rfl) rfl ?_
                  refine o_on 86 _ rfl rfl hg27 ?_
                  refine o_p (p_fieldAddr rfl rfl fd_48_1 sz_3 rfl) rfl ?_
                  refine o_on 86 _ rfl rfl hg27 ?_
                  refine o_q (q_load rfl rfl sz_3 aPk rfl) rfl ?_
                  refine o_on 86 _ rfl rfl hg27 ?_
                  refine o_p (p_pure rfl) rfl ?_
                  refine o_p (p_pickf rfl rfl hg27 rfl) rfl ?_
                  refine o_nil ?_
                  exact s_joinN 6 92 _ rfl rfl rfl (fun w h => by first | exact h | exact h.ent aEt))
                (by
                  intro hg29
                  have hs30 := hg29; try simp only [decide_eq_true_eq, decide_eq_false_iff_not, Bool.not_eq_true', Bool.not_eq_false', Bool.and_eq_true, Bool.or_eq_true, Bool.and_eq_false_iff, Bool.or_eq_false_iff, Bool.not_true, Bool.not_false] at hs30
                  refine o_off 86 _ rfl rfl hg29 rfl ?_
                  refine o_off 86 _ rfl rfl hg29 rfl ?_
                  refine o_off 86 _ rfl rfl hg29 rfl ?_
                  refine o_off 86 _ rfl rfl hg29 rfl ?_
                  refine o_off 86 _ rfl rfl hg29 rfl ?_
                  refine o_p (p_pickt rfl rfl hg29 rfl) rfl ?_
                  refine o_nil ?_
                  exact s_joinN 6 92 _ rfl rfl rfl (fun w h => by first | exact h | exact h.ent aEt)) ?_
              refine o_p (p_pure rfl) rfl ?_
              refine o_or 6 93 99 _ _ rfl
                (by
                  intro hg31
                  have hs32 := hg31; try simp only [decide_eq_true_eq, decide_eq_false_iff_not, Bool.not_eq_true', Bool.not_eq_false', Bool.and_eq_true, Bool.or_eq_true, Bool.and_eq_false_iff, Bool.or_eq_false_iff, Bool.not_true, Bool.not_false] at hs32
                  refine o_on 93 _ rfl rfl hg31 ?_
                  refine o_p (p_fieldAddr rfl rfl fd_48_2 sz_3 rfl) rfl ?_
                  refine o_on 93 _ rfl rfl hg31 ?_
                  refine o_q (q_load rfl rfl sz_3 aPk rfl) rfl ?_
                  refine o_on 93 _ rfl rfl hg31 ?_
                  refine o_p (p_fieldAddr rfl rfl fd_48_2 sz_3 rfl) rfl ?_
                  refine o_on 93 _ rfl rfl hg31 ?_
                  refine o_q (q_load rfl rfl sz_3 aPk rfl) rfl ?_
                  refine o_on 93 _ rfl rfl hg31 ?_
                  refine o_p (p_pure rfl) rfl ?_
                  refine o_p (p_pickf rfl rfl hg31 rfl) rfl ?_
                  refine o_nil ?_
                  exact s_joinN 6 99 _ rfl rfl rfl (fun w h => by first | exact h | exact h.ent aEt))
                (by
                  intro hg33
                  have hs34 := hg33; try simp only [decide_eq_true_eq, decide_eq_false_iff_not, Bool.not_eq_true', Bool.not_eq_false', Bool.and_eq_true, Bool.or_eq_true, Bool.and_eq_false_iff, Bool.or_eq_false_iff, Bool.not_true, Bool.not_false] at hs34
                  refine o_off 93 _ rfl rfl hg33 rfl ?_
                  refine o_off 93 _ rfl rfl hg33 rfl ?_
                  refine o_off 93 _ rfl rfl hg33 rfl ?_
                  refine o_off 93 _ rfl rfl hg33 rfl ?_
                  refine o_off 93 _ rfl rfl hg33 rfl ?_
                  refine o_p (p_pickt rfl rfl hg33 rfl) rfl ?_
                  refine o_nil ?_
                  exact s_joinN 6 99 _ rfl rfl rfl (fun w h => by first | exact h | exact h.ent aEt)) ?_
              refine o_p (p_pure rfl) rfl ?_
              refine o_or 6 100 106 _ _ rfl
                (by
                  intro hg35
                  have hs36 := hg35; try simp only [decide_eq_true_eq, decide_eq_false_iff_not, Bool.not_eq_true', Bool.not_eq_false', Bool.and_eq_true, Bool.or_eq_true, Bool.and_eq_false_iff, Bool.or_eq_false_iff, Bool.not_true, Bool.not_false] at hs36
                  refine o_on 100 _ rfl rfl hg35 ?_
                  refine o_p (p_fieldAddr rfl rfl fd_48_3 sz_4 rfl) rfl ?_
                  refine o_on 100 _ rfl rfl hg35 ?_
                  refine o_q (q_load rfl rfl sz_4 aPk rfl) rfl ?_
                  refine o_on 100 _ rfl rfl hg35 ?_
                  refine o_p (p_fieldAddr rfl rfl fd_48_3 sz_4 rfl) rfl ?_
                  refine o_on 100 _ rfl rfl hg35 ?_
                  refine o_q (q_load rfl rfl sz_4 aPk rfl) rfl ?_
                  refine o_on 100 _ rfl rfl hg35 ?_
                  refine o_p (p_neq_bool rfl rfl rfl Try.underlying4) rfl ?_
                  refine o_p (p_pickf rfl rfl hg35 rfl) rfl ?_
                  refine o_nil ?_
                  exact s_joinN 6 106 _ rfl rfl rfl (fun w h => by first | exact h | exact h.ent aEt))
                (by
                  intro hg37
                  have hs38 := hg37; try simp only [decide_eq_true_eq, decide_eq_false_iff_not, Bool.not_eq_true', Bool.not_eq_false', Bool.and_eq_true, Bool.or_eq_true, Bool.and_eq_false_iff, Bool.or_eq_false_iff, Bool.not_true, Bool.not_false] at hs38
                  refine o_off 100 _ rfl rfl hg37 rfl ?_
                  refine o_off 100 _ rfl rfl hg37 rfl ?_
                  refine o_off 100 _ rfl rfl hg37 rfl ?_
                  refine o_off 100 _ rfl rfl hg37 rfl ?_
                  refine o_off 100 _ rfl rfl hg37 rfl ?_
                  refine o_p (p_pickt rfl rfl hg37 rfl) rfl ?_
                  refine o_nil ?_
                  exact s_joinN 6 106 _ rfl rfl rfl (fun w h => by first | exact h | exact h.ent aEt)) ?_
              refine o_p (p_pure rfl) rfl ?_
              refine o_or 8 107 115 _ _ rfl
                (by
                  intro hg39
                  have hs40 := hg39; try simp only [decide_eq_true_eq, decide_eq_false_iff_not, Bool.not_eq_true', Bool.not_eq_false', Bool.and_eq_true, Bool.or_eq_true, Bool.and_eq_false_iff, Bool.or_eq_false_iff, Bool.not_true, Bool.not_false] at hs40
                  refine o_on 107 _ rfl rfl hg39 ?_
                  refine o_p (p_fieldAddr rfl rfl fd_48_4 sz_46 rfl) rfl ?_
                  refine o_on 107 _ rfl rfl hg39 ?_
                  refine o_q (q_load rfl rfl sz_46 aPk rfl) rfl ?_
                  refine o_on 107 _ rfl rfl hg39 ?_
                  refine o_p (p_len_slice rfl rfl Try.underlying46) rfl ?_
                  refine o_on 107 _ rfl rfl hg39 ?_
                  refine o_p (p_fieldAddr rfl rfl fd_48_4 sz_46 rfl) rfl ?_
                  refine o_on 107 _ rfl rfl hg39 ?_
                  refine o_q (q_load rfl rfl sz_46 aPk rfl) rfl ?_
                  refine o_on 107 _ rfl rfl hg39 ?_
                  refine o_p (p_len_slice rfl rfl Try.underlying46) rfl ?_
                  refine o_on 107 _ rfl rfl hg39 ?_
                  refine o_p (p_pure rfl) rfl ?_
                  refine o_p (p_pickf rfl rfl hg39 rfl) rfl ?_
                  refine o_nil ?_
                  exact s_joinN 8 115 _ rfl rfl rfl (fun w h => by first | exact h | exact h.ent aEt))
                (by
                  intro hg41
                  have hs42 := hg41; try simp only [decide_eq_true_eq, decide_eq_false_iff_not, Bool.not_eq_true', Bool.not_eq_false', Bool.and_eq_true, Bool.or_eq_true, Bool.and_eq_false_iff, Bool.or_eq_false_iff, Bool.not_true, Bool.not_false] at hs42
                  refine o_off 107 _ rfl rfl hg41 rfl ?_
                  refine o_off 107 _ rfl rfl hg41 rfl ?_
                  refine o_off 107 _ rfl rfl hg41 rfl ?_
                  refine o_off 107 _ rfl rfl hg41 rfl ?_
                  refine o_off 107 _ rfl rfl hg41 rfl ?_
                  refine o_off 107 _ rfl rfl hg41 rfl ?_
                  refine o_off 107 _ rfl rfl hg41 rfl ?_
                  refine o_p (p_pickt rfl rfl hg41 rfl) rfl ?_
                  refine o_nil ?_
                  exact s_joinN 8 115 _ rfl rfl rfl (fun w h => by first | exact h | exact h.ent aEt)) ?_
              refine o_nil ?_
              refine s_cond rfl (fun h43 => ?_) (fun h43 => ?_)
              · try simp only [decide_eq_true_eq, decide_eq_false_iff_not, Bool.not_eq_true', Bool.not_eq_false', Bool.and_eq_true, Bool.or_eq_true, Bool.and_eq_false_iff, Bool.or_eq_false_iff, Bool.not_true, Bool.not_false] at h43
                exfalso; have hq9 := h43; simp [d1, d2, d3, d4, d6] at hq9
              · try simp only [decide_eq_true_eq, decide_eq_false_iff_not, Bool.not_eq_true', Bool.not_eq_false', Bool.and_eq_true, Bool.or_eq_true, Bool.and_eq_false_iff, Bool.or_eq_false_iff, Bool.not_true, Bool.not_false] at h43
                refine s_skip ?_
                refine s_seq ?_
                refine s_weaken (L' := [(0, _), (1, _), (2, _), (3, _), (5, _), (6, _), (7, _), (8, _), (9, _), (10, _), (12, _), (13, _), (14, _), (15, _), (16, _), (17, _), (25, _)]) aSx (fun _ h => h) ?_
                refine s_region ?_
                refine o_p (p_pure rfl) rfl ?_
                refine o_nil ?_
                refine s_block ?_
                refine s_loopI (α := Nat) [4, 11, 116, 117, 118, 119, 120, 121, 122, 123, 124, 125, 126, 127, 128, 129, 130, 131, 132, 133] (fun i => [(11, .int .i64 (i : Int))]) (fun _ => HS w [] [.blk z.1 48 5 (nth (nth L i).op k).vals, .blk z.2 48 5 (nth (nth L2 i).op k).vals, .blk y.1 77 4 (nth L i).vals, .blk y.2 77 4 (nth L2 i).vals, .blk b1 26 2 [.int .i64 next, .slice a L.length cap], .blk b2 26 2 [.int .i64 next, .slice b L2.length cap2]]) (fun n => n ≤ (nth (nth L i).op k).lk.length) (fun n => (nth (nth L i).op k).lk.length - n) 0 (Nat.zero_le _) aSx (fun w h => h.ent aEt) (fun n hn1 => ?_)
                refine s_seq ?_
                refine s_seq ?_
                refine s_region ?_
                refine o_p (p_pure rfl) rfl ?_
                refine o_p (p_fieldAddr rfl rfl fd_48_4 sz_46 rfl) rfl ?_
                refine o_q (q_load rfl rfl sz_46 aPk rfl) rfl ?_
                refine o_p (p_len_slice rfl rfl Try.underlying46) rfl ?_
                refine o_p (p_pure rfl) rfl ?_
                refine o_nil ?_
                refine s_cond rfl (fun h44 => ?_) (fun h44 => ?_)
                · try simp only [decide_eq_true_eq, decide_eq_false_iff_not, Bool.not_eq_true', Bool.not_eq_false', Bool.and_eq_true, Bool.or_eq_true, Bool.and_eq_false_iff, Bool.or_eq_false_iff, Bool.not_true, Bool.not_false] at h44
                  have hn : n < (nth (nth L i).op k).lk.length := by omega
                  have hn2 : n < (nth (nth L2 i).op k).lk.length := by omega
                  refine s_skip ?_
                  refine s_seq ?_
                  refine s_block ?_
                  refine s_seq ?_
                  refine s_draw [] mixed ?_
                  refine d_p 0 rfl (p_fieldAddr rfl rfl fd_48_4 sz_46 rfl) (by kernel_rfl) rfl rfl ?_
                  refine d_q 1 [] rfl (q_load rfl rfl sz_46 aPk rfl) (by kernel_rfl) (by kernel_rfl) (by kernel_rfl) rfl ?_
                  refine d_p 2 rfl (p_pure rfl) (by kernel_rfl) rfl rfl ?_
                  refine d_p 3 rfl (p_indexAddr rfl rfl rfl sl_46 (n) (by omega) (by omega) (Rw.some ((hs.at hi).at hk) (by omega))) (by kernel_rfl) rfl rfl ?_
                  refine d_q 4 [] rfl (q_load_oldn _ rfl rfl sz_62 rfl (Rw.rd ((hs.at hi).at hk) hn)) (by kernel_rfl) (by kernel_rfl) (by kernel_rfl) rfl ?_
                  refine d_p 5 rfl (p_fieldAddr rfl rfl fd_48_4 sz_46 rfl) (by kernel_rfl) rfl rfl ?_
                  refine d_q 6 [] rfl (q_load rfl rfl sz_46 aPk rfl) (by kernel_rfl) (by kernel_rfl) (by kernel_rfl) rfl ?_
                  refine d_p 7 rfl (p_pure rfl) (by kernel_rfl) rfl rfl ?_
                  refine d_p 8 rfl (p_indexAddr rfl rfl rfl sl_46 (n) (by omega) (by omega) (Rw.some ((ht.at hi2).at hk2) (by omega))) (by kernel_rfl) rfl rfl ?_
                  refine d_q 9 [] rfl (q_load_oldn _ rfl rfl sz_62 rfl (Rw.rd ((ht.at hi2).at hk2) hn2)) (by kernel_rfl) (by kernel_rfl) (by kernel_rfl) rfl ?_
                  refine d_p 10 rfl (p_neq_agg rfl rfl rfl eqk_62 (by rfl) (by rfl) (by rfl)) (by kernel_rfl) rfl rfl ?_
                  refine d_nil (by kernel_rfl) (fun w h => h.ent aEt) ?_
                  refine s_cond rfl (fun h45 => ?_) (fun h45 => ?_)
                  · try simp only [decide_eq_true_eq, decide_eq_false_iff_not, Bool.not_eq_true', Bool.not_eq_false', Bool.and_eq_true, Bool.or_eq_true, Bool.and_eq_false_iff, Bool.or_eq_false_iff, Bool.not_true, Bool.not_false] at h45
                    exfalso; have hq9 := h45; simp [d5] at hq9
                  · try simp only [decide_eq_true_eq, decide_eq_false_iff_not, Bool.not_eq_true', Bool.not_eq_false', Bool.and_eq_true, Bool.or_eq_true, Bool.and_eq_false_iff, Bool.or_eq_false_iff, Bool.not_true, Bool.not_false] at h45
                    refine s_skip ?_
                    refine s_blk ?_
                    refine s_weaken (L' := [(0, _), (1, _), (2, _), (3, _), (5, _), (6, _), (7, _), (8, _), (9, _), (10, _), (11, _), (12, _), (13, _), (14, _), (15, _), (16, _), (17, _), (25, _)]) aSx (fun _ h => h) ?_
                    refine s_region ?_
                    refine o_p (p_pure rfl) rfl ?_
                    refine o_p (p_pure rfl) rfl ?_
                    try (refine o_slot (i64w (by omega) (by omega)) ?_)
                    refine o_p (p_pure rfl) rfl ?_
                    refine o_nil ?_
                    exact s_backI (n + 1) (by omega) (by omega) aSx (fun w h => h.ent aEt)
                · try simp only [decide_eq_true_eq, decide_eq_false_iff_not, Bool.not_eq_true', Bool.not_eq_false', Bool.and_eq_true, Bool.or_eq_true, Bool.and_eq_false_iff, Bool.or_eq_false_iff, Bool.not_true, Bool.not_false] at h44
                  refine s_exit_to rfl ?_
                  refine s_blk ?_
                  refine s_region ?_
                  refine o_p (p_pure rfl) rfl ?_
                  refine o_p (p_pure rfl) rfl ?_
                  try (refine o_slot (i64w (by omega) (by omega)) ?_)
                  refine o_p (p_pure rfl) rfl ?_
                  refine o_nil ?_
                  exact s_backI (k + 1) (by omega) (by omega) aSx (fun w h => h.ent aEt)
          · try simp only [decide_eq_true_eq, decide_eq_false_iff_not, Bool.not_eq_true', Bool.not_eq_false', Bool.and_eq_true, Bool.or_eq_true, Bool.and_eq_false_iff, Bool.or_eq_false_iff, Bool.not_true, Bool.not_false] at h22
            refine s_exit_to rfl ?_
            refine s_blk ?_
            refine s_region ?_
            refine o_p (p_pure rfl) rfl ?_
            refine o_p (p_pure rfl) rfl ?_
            try (refine o_slot (i64w (by omega) (by omega)) ?_)
            refine o_p (p_pure rfl) rfl ?_
            refine o_nil ?_
            exact s_backI (i + 1) (by omega) (by omega) aSx (fun w h => h.ent aEt)
    · try simp only [decide_eq_true_eq, decide_eq_false_iff_not, Bool.not_eq_true', Bool.not_eq_false', Bool.and_eq_true, Bool.or_eq_true, Bool.and_eq_false_iff, Bool.or_eq_false_iff, Bool.not_true, Bool.not_false] at h8
      refine s_exit_to rfl ?_
      refine s_seq ?_
      refine s_region ?_
      refine o_p (p_pure rfl) rfl ?_
      refine o_nil ?_
      exact s_retv (rs := [.tmp 4]) rfl (.tmp rfl (.nil)) (fun w' h' => ⟨rfl, h'.below⟩)

end Go.Proofs

namespace Go.Proofs
open Go Go.RowKit Gx
set_option linter.unusedVariables false
set_option linter.unusedSimpArgs false
attribute [local irreducible] Go.Calls Gx.S Gx.O Gx.D Gx.OpP Gx.OpQ Gx.OpH



/-- Whether two handles conflict, or the error. -/
def cflT (a b : Opn) : Bool × Int := if openE a.ac a.sh = 0 then if openE b.ac b.sh = 0 then (cfl a b, 0) else (false, openE b.ac b.sh) else (false, openE a.ac a.sh)
theorem cflT_e {a b : Opn} (h : ¬ firstV [.int .i64 (openE a.ac a.sh), .int .i64 (openE b.ac b.sh)] = 0) : cflT a b = (false, firstV [.int .i64 (openE a.ac a.sh), .int .i64 (openE b.ac b.sh)]) := by
  rw [firstV2] at h ⊢
  unfold cflT
  grind
theorem cflT_0 {a b : Opn} (h : openE a.ac a.sh = 0 ∧ openE b.ac b.sh = 0) : cflT a b = (cfl a b, 0) := by rw [cflT, if_pos h.1, if_pos h.2]

set_option maxRecDepth 20000 in
theorem c21 (w : World) (x y : LOpn) : Calls Try.prog 21 #[.agg #[.int .i64 x.hd, .int .i64 x.ac, .int .i64 x.sh, .bool x.dl, .slice x.la x.lk.length x.lc], .agg #[.int .i64 y.hd, .int .i64 y.ac, .int .i64 y.sh, .bool y.dl, .slice y.la y.lk.length y.lc]] w fun en w' => en = .returned (.tuple #[.bool (cflT x.pl y.pl).1, .int .i64 (cflT x.pl y.pl).2]) ∧ Below w.heap.size w w' := by
  refine enter (args := [_, _]) Try.func21 Try.ntmps21 rfl rfl (HS.refl w []) ?_
  refine s_seq ?_
  refine s_region ?_
  refine o_h (h_box rfl rfl) rfl (fun b1 _ => ?_)
  refine o_h (h_box rfl rfl) rfl (fun b2 _ => ?_)
  refine o_p (p_pure rfl) rfl ?_
  refine o_p (p_pure rfl) rfl ?_
  refine o_nil ?_
  refine s_seq ?_
  refine s_seq ?_
  refine s_draw [] mixed ?_
  refine d_q 0 [] rfl (q_loadn rfl rfl sz_48 aPk rfl) (by kernel_rfl) (by kernel_rfl) (by kernel_rfl) rfl ?_
  refine d_q 1 [] rfl (q_call rfl fn_62 rfl (fun w1 h1 => c62 w1 x)) (by kernel_rfl) (by kernel_rfl) (by kernel_rfl) rfl ?_
  refine d_q 2 [] rfl (q_loadn rfl rfl sz_48 aPk rfl) (by kernel_rfl) (by kernel_rfl) (by kernel_rfl) rfl ?_
  refine d_q 3 [] rfl (q_call rfl fn_62 rfl (fun w1 h1 => c62 w1 y)) (by kernel_rfl) (by kernel_rfl) (by kernel_rfl) rfl ?_
  refine d_h 4 rfl (h_buildSlice (cs := [_, _]) rfl rfl sl_146 zr_28 rfl rfl rfl) (by kernel_rfl) (fun w h => h.ent aEt) rfl (fun b3 _ => ?_)
  refine d_base (fun w h => h.ent aEt) ?_
  refine d_q 5 [] rfl (q_call rfl fn_52 rfl (fun w1 h1 => f52 h1 aPk (by rfl) (by rfl) (by decide))) (by kernel_rfl) (by kernel_rfl) (by kernel_rfl) rfl ?_
  refine d_p 6 rfl (p_pure rfl) (by kernel_rfl) rfl rfl ?_
  refine d_nil (by kernel_rfl) (fun w h => h.ent aEt) ?_
  refine s_seq ?_
  refine s_region ?_
  refine o_p (p_pure rfl) rfl ?_
  refine o_p (p_pure rfl) rfl ?_
  refine o_nil ?_
  refine s_cond rfl (fun h4 => ?_) (fun h4 => ?_)
  · try simp only [decide_eq_true_eq, decide_eq_false_iff_not, Bool.not_eq_true', Bool.not_eq_false', Bool.and_eq_true, Bool.or_eq_true, Bool.and_eq_false_iff, Bool.or_eq_false_iff, Bool.not_true, Bool.not_false] at h4
    have he : ¬ firstV [.int .i64 (openE x.pl.ac x.pl.sh), .int .i64 (openE y.pl.ac y.pl.sh)] = 0 := h4
    refine s_seq ?_
    refine s_region ?_
    refine o_p (p_pure rfl) rfl ?_
    refine o_p (p_pure rfl) rfl ?_
    refine o_p (p_pure rfl) rfl ?_
    refine o_nil ?_
    exact s_retv (rs := [.tmp 4, .tmp 5]) rfl (.tmp rfl (.tmp rfl (.nil))) (fun w' h' => ⟨by rw [cflT_e he]; rfl, h'.below⟩)
  · try simp only [decide_eq_true_eq, decide_eq_false_iff_not, Bool.not_eq_true', Bool.not_eq_false', Bool.and_eq_true, Bool.or_eq_true, Bool.and_eq_false_iff, Bool.or_eq_false_iff, Bool.not_true, Bool.not_false] at h4
    have hz := first2_0 h4
    refine s_skip ?_
    refine s_seq ?_
    refine s_region ?_
    refine o_q (q_loadn rfl rfl sz_48 aPk rfl) rfl ?_
    refine o_q (q_loadn rfl rfl sz_48 aPk rfl) rfl ?_
    refine o_q (q_call rfl fn_63 rfl (fun w1 h1 => c63 w1 x y hz.1 hz.2)) rfl ?_
    refine o_p (p_pure rfl) rfl ?_
    refine o_p (p_pure rfl) rfl ?_
    refine o_nil ?_
    exact s_retv (rs := [.tmp 4, .tmp 5]) rfl (.tmp rfl (.tmp rfl (.nil))) (fun w' h' => ⟨by rw [cflT_0 (a := x.pl) (b := y.pl) hz]; rfl, h'.below⟩)

end Go.Proofs

namespace Go.Proofs
open Go Go.RowKit Gx
set_option linter.unusedVariables false
set_option linter.unusedSimpArgs false
attribute [local irreducible] Go.Calls Gx.S Gx.O Gx.D Gx.OpP Gx.OpQ Gx.OpH



def fewF (f : LFil) : Bool := decide (f.op.length ≤ 40) && f.op.all fun o => decide (o.lk.length ≤ 20)
/-- Few files, handles and locks. -/
def fewT (L : List LFil) : Bool := decide (L.length ≤ 40) && L.all fewF
theorem fewT_l {L : List LFil} (h : 40 < L.length) : fewT L = false := by
  unfold fewT
  simp
  omega
theorem fewT_f {L : List LFil} {i : Nat} (hi : i < L.length) (h : fewF (nth L i) = false) : fewT L = false := by
  unfold fewT
  rw [Bool.and_eq_false_iff]
  right
  rw [List.all_eq_false]
  exact ⟨_, mem_nth hi, by rw [h]; decide⟩
theorem fewF_l {f : LFil} (h : 40 < f.op.length) : fewF f = false := by
  unfold fewF
  simp
  omega
theorem fewF_k {f : LFil} {k : Nat} (hk : k < f.op.length) (h : 20 < (nth f.op k).lk.length) : fewF f = false := by
  unfold fewF
  rw [Bool.and_eq_false_iff]
  right
  rw [List.all_eq_false]
  exact ⟨_, mem_nth hk, by simp; omega⟩
theorem fewT_1 {L : List LFil} (hl : L.length ≤ 40) (h : ∀ m, m < L.length → fewF (nth L m) = true) : fewT L = true := by
  unfold fewT
  rw [Bool.and_eq_true, List.all_eq_true]
  refine ⟨by simpa using hl, fun f hf => ?_⟩
  obtain ⟨m, hm, rfl⟩ := mem_nth_ex hf
  exact h m hm
theorem fewF_1 {f : LFil} (hl : f.op.length ≤ 40) (h : ∀ m, m < f.op.length → (nth f.op m).lk.length ≤ 20) : fewF f = true := by
  unfold fewF
  rw [Bool.and_eq_true, List.all_eq_true]
  refine ⟨by simpa using hl, fun o ho => ?_⟩
  obtain ⟨m, hm, rfl⟩ := mem_nth_ex ho
  simpa using h m hm
theorem fewT_r {L : List LFil} (h : fewT L = true) : L.length ≤ 40 ∧ (∀ f ∈ L, f.op.length ≤ 40) ∧ ∀ f ∈ L, ∀ o ∈ f.op, o.lk.length ≤ 20 := by
  unfold fewT fewF at h
  simp only [Bool.and_eq_true, decide_eq_true_eq, List.all_eq_true] at h
  exact ⟨h.1, fun f hf => (h.2 f hf).1, fun f hf o ho => (h.2 f hf).2 o ho⟩
/-- What a table of few permits: the bounds that the contracts ask. -/
theorem fewT_b {L : List LFil} (h : fewT L = true) : L.length ≤ 1000 ∧ (∀ f ∈ L, f.op.length ≤ 1000) ∧ ∀ f ∈ L, ∀ o ∈ f.op, o.lk.length ≤ 1000 := by
  obtain ⟨h1, h2, h3⟩ := fewT_r h
  exact ⟨by omega, fun f hf => by have := h2 f hf; omega, fun f hf o ho => by have := h3 f hf o ho; omega⟩
theorem same_b {L N : List LFil} (h : pls N = pls L) (hb : L.length ≤ 1000 ∧ (∀ f ∈ L, f.op.length ≤ 1000) ∧ ∀ f ∈ L, ∀ o ∈ f.op, o.lk.length ≤ 1000) : N.length ≤ 1000 ∧ (∀ f ∈ N, f.op.length ≤ 1000) ∧ ∀ f ∈ N, ∀ o ∈ f.op, o.lk.length ≤ 1000 := by
  have e : N.length = L.length := same_len h
  refine ⟨by omega, fun f hf => ?_, fun f hf o ho => ?_⟩
  · obtain ⟨i, hi, rfl⟩ := mem_nth_ex hf
    have h1 := (same_nth h.symm hi).2
    have h2 : (nth L i).op.length = (nth N i).op.length := by
      have h9 := congrArg (fun f : Fil => f.op.length) h1
      simpa [LFil.pl] using h9
    rw [← h2]
    exact hb.2.1 _ (mem_nth (by omega))
  · obtain ⟨i, hi, rfl⟩ := mem_nth_ex hf
    obtain ⟨k, hk, rfl⟩ := mem_nth_ex ho
    have h1 := (same_nth h.symm hi).2
    obtain ⟨h2, _, h3⟩ := same_op h1 hk
    have h4 : (nth (nth L i).op k).lk = (nth (nth N i).op k).lk := congrArg Opn.lk h3
    rw [← h4]
    exact hb.2.2 _ (mem_nth (by omega)) _ (mem_nth h2)
set_option maxRecDepth 20000 in
theorem c17 (w : World) (next : Int) (a : Option Addr) (cap : Nat) (L : List LFil) (hs : Ft w [] a L) : Calls Try.prog 17 #[.agg #[.int .i64 next, .slice a L.length cap]] w fun en w' => en = .returned (.bool (fewT L)) ∧ Below w.heap.size w w' := by
  refine enter (args := [_]) Try.func17 Try.ntmps17 rfl rfl (HS.refl w []) ?_
  refine s_seq ?_
  refine s_region ?_
  refine o_h (h_box rfl rfl) rfl (fun b1 _ => ?_)
  refine o_p (p_pure rfl) rfl ?_
  refine o_nil ?_
  refine s_seq ?_
  refine s_seq ?_
  refine s_region ?_
  refine o_p (p_fieldAddr rfl rfl fd_26_1 sz_24 rfl) rfl ?_
  refine o_q (q_load rfl rfl sz_24 aPk rfl) rfl ?_
  refine o_p (p_len_slice rfl rfl Try.underlying24) rfl ?_
  refine o_p (p_pure rfl) rfl ?_
  refine o_nil ?_
  refine s_cond rfl (fun h2 => ?_) (fun h2 => ?_)
  · try simp only [decide_eq_true_eq, decide_eq_false_iff_not, Bool.not_eq_true', Bool.not_eq_false', Bool.and_eq_true, Bool.or_eq_true, Bool.and_eq_false_iff, Bool.or_eq_false_iff, Bool.not_true, Bool.not_false] at h2
    refine s_seq ?_
    refine s_region ?_
    refine o_p (p_pure rfl) rfl ?_
    refine o_nil ?_
    exact s_retv (rs := [.tmp 2]) rfl (.tmp rfl (.nil)) (fun w' h' => ⟨by rw [fewT_l (by have hq := h2; omega)]; rfl, h'.below⟩)
  · try simp only [decide_eq_true_eq, decide_eq_false_iff_not, Bool.not_eq_true', Bool.not_eq_false', Bool.and_eq_true, Bool.or_eq_true, Bool.and_eq_false_iff, Bool.or_eq_false_iff, Bool.not_true, Bool.not_false] at h2
    have hl40 : L.length ≤ 40 := by have hq := h2; omega
    refine s_skip ?_
    refine s_seq ?_
    refine s_seq ?_
    refine s_region ?_
    refine o_p (p_pure rfl) rfl ?_
    refine o_nil ?_
    refine s_block ?_
    refine s_loopI (α := Nat) [2, 3, 4, 9, 10, 11, 12, 13, 14, 15, 16, 17, 18, 19, 20, 21, 22, 23, 24, 25, 26, 27, 28, 29, 30, 31, 32, 33, 34, 35, 36, 37, 38, 39, 40, 41, 42, 43, 44, 45, 46] (fun i => [(3, .int .i64 (i : Int))]) (fun _ => HS w [] [.blk b1 26 2 [.int .i64 next, .slice a L.length cap]]) (fun i => i ≤ L.length ∧ ∀ m, m < i → fewF (nth L m) = true) (fun i => L.length - i) 0 ⟨Nat.zero_le _, fun m h => absurd h (Nat.not_lt_zero m)⟩ aSx (fun w h => h.ent aEt) (fun i hy => ?_)
    obtain ⟨hi1, hi2⟩ := hy
    refine s_seq ?_
    refine s_seq ?_
    refine s_region ?_
    refine o_p (p_pure rfl) rfl ?_
    refine o_p (p_fieldAddr rfl rfl fd_26_1 sz_24 rfl) rfl ?_
    refine o_q (q_load rfl rfl sz_24 aPk rfl) rfl ?_
    refine o_p (p_len_slice rfl rfl Try.underlying24) rfl ?_
    refine o_p (p_pure rfl) rfl ?_
    refine o_nil ?_
    refine s_cond rfl (fun h3 => ?_) (fun h3 => ?_)
    · try simp only [decide_eq_true_eq, decide_eq_false_iff_not, Bool.not_eq_true', Bool.not_eq_false', Bool.and_eq_true, Bool.or_eq_true, Bool.and_eq_false_iff, Bool.or_eq_false_iff, Bool.not_true, Bool.not_false] at h3
      have hil : i < L.length := by omega
      refine s_skip ?_
      refine s_seq ?_
      refine s_block ?_
      refine s_seq ?_
      refine s_seq ?_
      refine s_region ?_
      refine o_p (p_fieldAddr rfl rfl fd_26_1 sz_24 rfl) rfl ?_
      refine o_q (q_load rfl rfl sz_24 aPk rfl) rfl ?_
      refine o_p (p_pure rfl) rfl ?_
      refine o_p (p_indexAddr rfl rfl rfl sl_24 (i) (by omega) (by omega) (Rw.some hs.1 (by omega))) rfl ?_
      refine o_p (p_fieldAddr rfl rfl fd_77_2 sz_75 rfl) rfl ?_
      refine o_q (q_load_old rfl rfl sz_75 ((hs.1.rdj 3 hil rfl))) rfl ?_
      refine o_p (p_len_slice rfl rfl Try.underlying75) rfl ?_
      refine o_p (p_pure rfl) rfl ?_
      refine o_nil ?_
      refine s_cond rfl (fun h4 => ?_) (fun h4 => ?_)
      · try simp only [decide_eq_true_eq, decide_eq_false_iff_not, Bool.not_eq_true', Bool.not_eq_false', Bool.and_eq_true, Bool.or_eq_true, Bool.and_eq_false_iff, Bool.or_eq_false_iff, Bool.not_true, Bool.not_false] at h4
        refine s_seq ?_
        refine s_region ?_
        refine o_p (p_pure rfl) rfl ?_
        refine o_nil ?_
        exact s_retv (rs := [.tmp 2]) rfl (.tmp rfl (.nil)) (fun w' h' => ⟨by rw [fewT_f hil (fewF_l (by have hq := h4; omega))]; rfl, h'.below⟩)
      · try simp only [decide_eq_true_eq, decide_eq_false_iff_not, Bool.not_eq_true', Bool.not_eq_false', Bool.and_eq_true, Bool.or_eq_true, Bool.and_eq_false_iff, Bool.or_eq_false_iff, Bool.not_true, Bool.not_false] at h4
        have ho40 : (nth L i).op.length ≤ 40 := by have hq := h4; omega
        refine s_skip ?_
        refine s_seq ?_
        refine s_region ?_
        refine o_p (p_pure rfl) rfl ?_
        refine o_nil ?_
        refine s_block ?_
        refine s_weaken (L' := [(0, _), (1, _), (3, _), (4, _), (5, _), (6, _), (7, _), (8, _)]) aSx (fun _ h => h) ?_
        refine s_loopI (α := Nat) [2, 4, 24, 25, 26, 27, 28, 29, 30, 31, 32, 33, 34, 35, 36, 37, 38, 39, 40, 41, 42, 43, 44, 45, 46] (fun k => [(4, .int .i64 (k : Int))]) (fun _ => HS w [] [.blk b1 26 2 [.int .i64 next, .slice a L.length cap]]) (fun k => k ≤ (nth L i).op.length ∧ ∀ m, m < k → (nth (nth L i).op m).lk.length ≤ 20) (fun k => (nth L i).op.length - k) 0 ⟨Nat.zero_le _, fun m h => absurd h (Nat.not_lt_zero m)⟩ aSx (fun w h => h.ent aEt) (fun k hy => ?_)
        obtain ⟨hk1, hk2⟩ := hy
        refine s_seq ?_
        refine s_seq ?_
        refine s_region ?_
        refine o_p (p_pure rfl) rfl ?_
        refine o_p (p_fieldAddr rfl rfl fd_26_1 sz_24 rfl) rfl ?_
        refine o_q (q_load rfl rfl sz_24 aPk rfl) rfl ?_
        refine o_p (p_pure rfl) rfl ?_
        refine o_p (p_indexAddr rfl rfl rfl sl_24 (i) (by omega) (by omega) (Rw.some hs.1 (by omega))) rfl ?_
        refine o_p (p_fieldAddr rfl rfl fd_77_2 sz_75 rfl) rfl ?_
        refine o_q (q_load_old rfl rfl sz_75 ((hs.1.rdj 3 hil rfl))) rfl ?_
        refine o_p (p_len_slice rfl rfl Try.underlying75) rfl ?_
        refine o_p (p_pure rfl) rfl ?_
        refine o_nil ?_
        refine s_cond rfl (fun h5 => ?_) (fun h5 => ?_)
        · try simp only [decide_eq_true_eq, decide_eq_false_iff_not, Bool.not_eq_true', Bool.not_eq_false', Bool.and_eq_true, Bool.or_eq_true, Bool.and_eq_false_iff, Bool.or_eq_false_iff, Bool.not_true, Bool.not_false] at h5
          have hkl : k < (nth L i).op.length := by omega
          refine s_skip ?_
          refine s_seq ?_
          refine s_block ?_
          refine s_seq ?_
          refine s_region ?_
          refine o_p (p_fieldAddr rfl rfl fd_26_1 sz_24 rfl) rfl ?_
          refine o_q (q_load rfl rfl sz_24 aPk rfl) rfl ?_
          refine o_p (p_pure rfl) rfl ?_
          refine o_p (p_indexAddr rfl rfl rfl sl_24 (i) (by omega) (by omega) (Rw.some hs.1 (by omega))) rfl ?_
          refine o_p (p_fieldAddr rfl rfl fd_77_2 sz_75 rfl) rfl ?_
          refine o_q (q_load_old rfl rfl sz_75 ((hs.1.rdj 3 hil rfl))) rfl ?_
          refine o_p (p_pure rfl) rfl ?_
          refine o_p (p_indexAddr rfl rfl rfl sl_75 (k) (by omega) (by omega) (Rw.some (hs.at hil).1 (by omega))) rfl ?_
          refine o_p (p_fieldAddr rfl rfl fd_48_4 sz_46 rfl) rfl ?_
          refine o_q (q_load_old rfl rfl sz_46 (((hs.at hil).1.rdj 4 hkl rfl))) rfl ?_
          refine o_p (p_len_slice rfl rfl Try.underlying46) rfl ?_
          refine o_p (p_pure rfl) rfl ?_
          refine o_nil ?_
          refine s_cond rfl (fun h6 => ?_) (fun h6 => ?_)
          · try simp only [decide_eq_true_eq, decide_eq_false_iff_not, Bool.not_eq_true', Bool.not_eq_false', Bool.and_eq_true, Bool.or_eq_true, Bool.and_eq_false_iff, Bool.or_eq_false_iff, Bool.not_true, Bool.not_false] at h6
            refine s_seq ?_
            refine s_region ?_
            refine o_p (p_pure rfl) rfl ?_
            refine o_nil ?_
            exact s_retv (rs := [.tmp 2]) rfl (.tmp rfl (.nil)) (fun w' h' => ⟨by rw [fewT_f hil (fewF_k hkl (by have hq := h6; omega))]; rfl, h'.below⟩)
          · try simp only [decide_eq_true_eq, decide_eq_false_iff_not, Bool.not_eq_true', Bool.not_eq_false', Bool.and_eq_true, Bool.or_eq_true, Bool.and_eq_false_iff, Bool.or_eq_false_iff, Bool.not_true, Bool.not_false] at h6
            refine s_skip ?_
            refine s_blk ?_
            refine s_region ?_
            refine o_p (p_pure rfl) rfl ?_
            refine o_p (p_pure rfl) rfl ?_
            try (refine o_slot (i64w (by omega) (by omega)) ?_)
            refine o_p (p_pure rfl) rfl ?_
            refine o_nil ?_
            exact s_backI (k + 1) (by omega) ⟨by omega, fun m hm => (Nat.lt_or_ge m k).elim (hk2 m) (fun h9 => by have e9 : m = k := (by omega); rw [e9]; have hq := h6; omega)⟩ aSx (fun w h => h.ent aEt)
        · try simp only [decide_eq_true_eq, decide_eq_false_iff_not, Bool.not_eq_true', Bool.not_eq_false', Bool.and_eq_true, Bool.or_eq_true, Bool.and_eq_false_iff, Bool.or_eq_false_iff, Bool.not_true, Bool.not_false] at h5
          refine s_exit_to rfl ?_
          refine s_blk ?_
          refine s_region ?_
          refine o_p (p_pure rfl) rfl ?_
          refine o_p (p_pure rfl) rfl ?_
          try (refine o_slot (i64w (by omega) (by omega)) ?_)
          refine o_p (p_pure rfl) rfl ?_
          refine o_nil ?_
          exact s_backI (i + 1) (by omega) ⟨by omega, fun m hm => (Nat.lt_or_ge m i).elim (hi2 m) (fun h9 => by have e9 : m = i := (by omega); rw [e9]; exact fewF_1 ho40 (fun q hq => hk2 q (by omega)))⟩ aSx (fun w h => h.ent aEt)
    · try simp only [decide_eq_true_eq, decide_eq_false_iff_not, Bool.not_eq_true', Bool.not_eq_false', Bool.and_eq_true, Bool.or_eq_true, Bool.and_eq_false_iff, Bool.or_eq_false_iff, Bool.not_true, Bool.not_false] at h3
      refine s_exit_to rfl ?_
      refine s_seq ?_
      refine s_region ?_
      refine o_p (p_pure rfl) rfl ?_
      refine o_nil ?_
      exact s_retv (rs := [.tmp 2]) rfl (.tmp rfl (.nil)) (fun w' h' => ⟨by rw [fewT_1 hl40 (fun m hm => hi2 m (by omega))]; rfl, h'.below⟩)

end Go.Proofs

namespace Go.Proofs
open Go Go.RowKit Gx
set_option linter.unusedVariables false
set_option linter.unusedSimpArgs false
attribute [local irreducible] Go.Calls Gx.S Gx.O Gx.D Gx.OpP Gx.OpQ Gx.OpH

theorem fn_11 : isFn Try.prog 11 = true := by kernel_rfl
theorem fn_17 : isFn Try.prog 17 = true := by kernel_rfl
theorem ar_49 : tar Try.prog 49 = some (2, 48, 5) := by kernel_rfl
theorem fn_18 : isFn Try.prog 18 = true := by kernel_rfl
theorem fn_21 : isFn Try.prog 21 = true := by kernel_rfl


end Go.Proofs

namespace Go.Proofs
open Go Go.RowKit Gx
set_option linter.unusedVariables false
set_option linter.unusedSimpArgs false
attribute [local irreducible] Go.Calls Gx.S Gx.O Gx.D Gx.OpP Gx.OpQ Gx.OpH

theorem fn_111 : isFn Try.prog 111 = true := by kernel_rfl
theorem fn_112 : isFn Try.prog 112 = true := by kernel_rfl
theorem fn_113 : isFn Try.prog 113 = true := by kernel_rfl


/-- The first i elements of one list, then the others of another one. -/
def mix {α : Type} (M l : List α) (i : Nat) : List α := M ++ l.drop i
theorem mix_end {α : Type} {M l : List α} {i : Nat} (h : l.length ≤ i) : mix M l i = M := by rw [mix, List.drop_of_length_le h, List.append_nil]
theorem mix_len {α : Type} {M l : List α} {i : Nat} (hM : M.length = i) (hi : i ≤ l.length) : (mix M l i).length = l.length := by
  rw [mix, List.length_append, List.length_drop]
  omega
theorem mix_nth {α : Type} [Inhabited α] {M l : List α} {i : Nat} (hM : M.length = i) (hi : i < l.length) : (mix M l i)[i]? = some (nth l i) := by
  rw [mix, List.getElem?_append_right (by omega), List.getElem?_drop, hM, show i + (i - i) = i by omega, nth_get hi]
theorem mix_get {α : Type} {M l : List α} {x : α} {i : Nat} (hM : M.length = i) : (mix (M ++ [x]) l (i + 1))[i]? = some x := by
  rw [mix, List.append_assoc, List.getElem?_append_right (by omega), hM, Nat.sub_self]
  rfl
theorem mix_set {α : Type} {M l : List α} {x : α} {i : Nat} (hM : M.length = i) (hi : i < l.length) : (mix M l i).set i x = mix (M ++ [x]) l (i + 1) := by
  unfold mix
  rw [List.set_append_right _ _ (by omega), hM, Nat.sub_self, List.drop_eq_getElem_cons hi, List.set_cons_zero, List.append_assoc]
  rfl
theorem mix_store {α : Type} [Inhabited α] {vals : α → List Value} {sz : Nat} (hv : ∀ x, (vals x).length = sz) {M l : List α} {x : α} {i o : Nat} {vs : List Value} (hM : M.length = i) (hi : i < l.length) (he : vals x = setMany (vals (nth l i)) o vs) (ho : o + vs.length ≤ sz) : setMany ((mix M l i).flatMap vals) (i * sz + o) vs = (mix (M ++ [x]) l (i + 1)).flatMap vals := by
  rw [flat_set hv _ i o vs _ _ (mix_nth hM hi) he ho, mix_set hM hi]
theorem mix_same {α : Type} {vals : α → List Value} {M l : List α} {x y : α} {i : Nat} (h : vals x = vals y) : (mix (M ++ [x]) l i).flatMap vals = (mix (M ++ [y]) l i).flatMap vals := by
  unfold mix
  simp only [List.flatMap_append, List.flatMap_cons, List.flatMap_nil, h]
theorem mix_rd {α : Type} [Inhabited α] {vals : α → List Value} {sz : Nat} (hv : ∀ x, (vals x).length = sz) {M l : List α} {i b t tot : Nat} {w0 w : World} {N : List Nat} {As As' : List HA} (hM : M.length = i) (hi : i < l.length) (h : HS w0 N As w) (hp : Pick As (.blk b t tot ((mix M l i).flatMap vals)) As') : ∀ j v, (vals (nth l i))[j]? = some v → Rd w [] b (i * sz + j) v := fun j v hj => by
  have hlt : j < sz := by
    rcases Nat.lt_or_ge j (vals (nth l i)).length with h | h
    · rwa [hv] at h
    · rw [List.getElem?_eq_none h] at hj; cases hj
  exact h.rd_blk (Mc := []) hp (by rw [flat_get hv _ i j _ (mix_nth hM hi) hlt]; exact hj) (by simp)
section
variable {w0 w : World} {N : List Nat} {As As' : List HA} {a : Option Addr} {cap : Nat}
theorem own_to_blk {g t sz n : Nat} {xs : List Value} (hn : 0 < n) (h : HS w0 N As w) (hp : Pick As (.own (.slice (some ⟨g, 0, none⟩) n cap) t sz n xs) As') : HS w0 N (.blk g t (cap * sz) xs :: As') w := by
  obtain ⟨g', e, _, _, _, _, h2⟩ := h.own_blk hn hp
  injection e with e
  injection e with e
  subst e
  exact h2
theorem row_fill {α : Type} [Inhabited α] {sub : α → HA} {K : List α} {x : α} {g t sz n : Nat} {cs xs : List Value} (h : HS w0 N (.blk g t (cap * sz) cs :: sub x :: .star (K.map sub) :: As) w) (hc : cs = xs) (hl : xs.length = n * sz) (hn : n ≤ cap) (hm : cap ≤ maxLen) : HS w0 N (.own (.slice (some ⟨g, 0, none⟩) n cap) t sz n xs :: .star ((K ++ [x]).map sub) :: As) w := by
  subst hc
  have h1 : HS w0 N (sub x :: .star (K.map sub) :: .blk g t (cap * sz) cs :: As) w := h.perm ((List.Perm.swap ..).trans (List.Perm.cons _ (List.Perm.swap ..)))
  have h2 := h1.sub_app
  exact (h2.perm (List.Perm.swap ..)).own_shut hl hn hm
theorem opens_shut {l : List LOpn} {n : Nat} {xs : List Value} (h : HS w0 N (.own (.slice a n cap) 48 5 n xs :: .star (l.map subO) :: As) w) (hn : n = l.length) (hx : xs = l.flatMap LOpn.vals) : HS w0 N (.opens a cap l :: As) w := HS.row_shut h hn hx
end

set_option maxRecDepth 20000 in
set_option maxHeartbeats 1000000 in
theorem c80 (w : World) (next : Int) (a : Option Addr) (cap : Nat) (L : List LFil) (hs : Ft w [] a L) (hm : L.length ≤ 1000) (hmo : ∀ f ∈ L, f.op.length ≤ 1000) (hz : (chkT next (pls L)).2 = 0) : Calls Try.prog 80 #[.agg #[.int .i64 next, .slice a L.length cap]] w fun en w' => ∃ g : Nat × (Option Addr × Nat) × List LFil, en = .returned (.tuple #[.pointer (some ⟨g.1, 0, none⟩), .int .i64 0]) ∧ pls g.2.2 = pls L ∧ HS w [] [.blk g.1 106 2 [.int .i64 next, .slice g.2.1.1 g.2.2.length g.2.1.2], .files g.2.1.1 g.2.1.2 g.2.2] w' := by
  have hok := chk_ok hz
  have hV := hok.vw
  refine enter (args := [_]) Try.func80 Try.ntmps80 rfl rfl (HS.refl w []) ?_
  refine s_seq ?_
  refine s_region ?_
  refine o_h (h_box rfl rfl) rfl (fun b1 _ => ?_)
  refine o_p (p_pure rfl) rfl ?_
  refine o_p (p_pure rfl) rfl ?_
  refine o_nil ?_
  refine s_seq ?_
  refine s_seq ?_
  refine s_region ?_
  refine o_q (q_loadn rfl rfl sz_26 aPk rfl) rfl ?_
  refine o_q (q_call rfl fn_18 rfl (fun w1 h1 => c18 w1 next a cap L (hs.later h1) hm hmo)) rfl ?_
  refine o_p (p_pure rfl) rfl ?_
  refine o_p (p_pure rfl) rfl ?_
  refine o_p (p_pure rfl) rfl ?_
  refine o_p (p_pure rfl) rfl ?_
  refine o_p (p_pure rfl) rfl ?_
  refine o_nil ?_
  refine s_seq ?_
  refine s_region ?_
  refine o_p (p_pure rfl) rfl ?_
  refine o_p (p_pure rfl) rfl ?_
  refine o_nil ?_
  refine s_cond rfl (fun h2 => ?_) (fun h2 => ?_)
  · try simp only [decide_eq_true_eq, decide_eq_false_iff_not, Bool.not_eq_true', Bool.not_eq_false', Bool.and_eq_true, Bool.or_eq_true, Bool.and_eq_false_iff, Bool.or_eq_false_iff, Bool.not_true, Bool.not_false] at h2
    exfalso; exact absurd hz h2
  · try simp only [decide_eq_true_eq, decide_eq_false_iff_not, Bool.not_eq_true', Bool.not_eq_false', Bool.and_eq_true, Bool.or_eq_true, Bool.and_eq_false_iff, Bool.or_eq_false_iff, Bool.not_true, Bool.not_false] at h2
    refine s_skip ?_
    refine s_seq ?_
    refine s_region ?_
    refine o_q (q_loadn rfl rfl sz_26 aPk rfl) rfl ?_
    refine o_p (p_build (cs := [_, _]) rfl rfl pl_106 zr_106 rfl) rfl ?_
    refine o_h (h_box rfl rfl) rfl (fun b3 _ => ?_)
    refine o_p (p_pure rfl) rfl ?_
    refine o_nil ?_
    refine s_seq ?_
    refine s_region ?_
    refine o_p (p_pure rfl) rfl ?_
    refine o_p (p_fieldAddr rfl rfl fd_26_1 sz_24 rfl) rfl ?_
    refine o_q (q_load rfl rfl sz_24 aPk rfl) rfl ?_
    refine o_h (h_call rfl fn_111 rfl (fun w1 h1 => c111 w1 a cap L (Rw.later hs.1 h1) (by omega))) rfl (fun ⟨xa, xc⟩ _ => ?_)
    refine o_p (p_pure rfl) rfl ?_
    refine o_p (p_fieldAddr rfl rfl fd_106_0 sz_26 rfl) rfl ?_
    refine o_p (p_fieldAddr rfl rfl fd_26_1 sz_24 rfl) rfl ?_
    refine o_h0 (h_store rfl rfl rfl sz_24 rfl aPt (by show 1 + 1 ≤ 2; omega) rfl) (fun _ _ => ?_)
    refine o_nil ?_
    refine s_seq ?_
    refine s_seq ?_
    refine s_region ?_
    refine o_p (p_pure rfl) rfl ?_
    refine o_p (p_pure rfl) rfl ?_
    refine o_p (p_fieldAddr rfl rfl fd_106_0 sz_26 rfl) rfl ?_
    refine o_p (p_fieldAddr rfl rfl fd_26_1 sz_24 rfl) rfl ?_
    refine o_q (q_load rfl rfl sz_24 aPk rfl) rfl ?_
    refine o_p (p_len_slice rfl rfl Try.underlying24) rfl ?_
    refine o_p (p_pure rfl) rfl ?_
    refine o_nil ?_
    refine s_block ?_
    refine s_weaken (L' := [(2, _), (3, _), (6, _), (33, _), (34, _), (35, _)]) aSx (fun _ h => h) ?_
    refine s_loopI (α := Nat × List LFil) [7, 8, 9, 10, 35, 36, 37, 38, 39, 40, 41, 42, 43, 44, 45, 46, 47, 48, 49, 50, 51, 52, 53, 54, 55, 56, 57, 58, 59, 60, 61, 62, 63, 64, 65, 66, 67, 68, 69, 70, 71, 72, 73, 74, 75] (fun y => [(35, .int .i64 (y.1 : Int))]) (fun y => HS w [] [.own (.slice xa L.length xc) 77 4 L.length ((mix y.2 L y.1).flatMap LFil.vals), .star (y.2.map subF), .blk b3 106 2 [.int .i64 next, .slice xa L.length xc], .blk b1 26 2 [.int .i64 next, .slice a L.length cap]]) (fun y => y.1 ≤ L.length ∧ y.2.length = y.1 ∧ pls y.2 = (pls L).take y.1) (fun y => L.length - y.1) (0, []) ⟨Nat.zero_le _, rfl, rfl⟩ aSx (fun w h => (HS.star_nil h).ent aEt) (fun ⟨i, M⟩ hy => ?_)
    dsimp only at hy ⊢
    obtain ⟨hi1, hMl, hi2⟩ := hy
    refine s_seq ?_
    refine s_region ?_
    refine o_p (p_pure rfl) rfl ?_
    refine o_nil ?_
    refine s_seq ?_
    refine s_cond rfl (fun h4 => ?_) (fun h4 => ?_)
    · try simp only [decide_eq_true_eq, decide_eq_false_iff_not, Bool.not_eq_true', Bool.not_eq_false', Bool.and_eq_true, Bool.or_eq_true, Bool.and_eq_false_iff, Bool.or_eq_false_iff, Bool.not_true, Bool.not_false] at h4
      have hil : i < L.length := by omega
      have hoi := hmo _ (mem_nth hil)
      refine s_fact (fun w h => own_addr (a := xa) (cap := xc) (xs := (mix M L i).flatMap LFil.vals) (sz := 4) (t := 77) (n := L.length) (by omega) h aPk) (fun hga => ?_)
      obtain ⟨ga, rfl, hcap, hcm⟩ := hga
      refine s_class (fun w h => own_to_blk (g := ga) (t := 77) (sz := 4) (n := L.length) (by omega) h aPk) ?_
      refine s_skip ?_
      refine s_seq ?_
      refine s_block ?_
      refine s_seq ?_
      refine s_region ?_
      refine o_p (p_pure rfl) rfl ?_
      refine o_p (p_indexAddr rfl rfl rfl sl_24 (i) (by omega) (by omega) rfl) rfl ?_
      refine o_slot (show _ = Value.pointer (some ⟨ga, i * 4, none⟩) from by rw [Nat.zero_add]) ?_
      refine o_q (q_load_atn (nth L i).vals rfl rfl sz_77 rfl (fun w h => mix_rd fv4 hMl hil h aPk)) rfl ?_
      refine o_h (h_alloc rfl zr_77) rfl (fun b5 _ => ?_)
      refine o_p (p_pure rfl) rfl ?_
      refine o_h0 (h_store rfl rfl rfl sz_77 rfl aPt (by simp only [setMany_length, List.length_set, List.length_cons, List.length_nil, List.length_map]; omega) rfl) (fun _ _ => ?_)
      refine o_nil ?_
      refine s_seq ?_
      refine s_draw [11] mixed ?_
      refine d_p 0 rfl (p_pure rfl) (by kernel_rfl) rfl rfl ?_
      refine d_p 1 rfl (p_pure rfl) (by kernel_rfl) rfl rfl ?_
      refine d_p 2 rfl (p_fieldAddr rfl rfl fd_106_0 sz_26 rfl) (by kernel_rfl) rfl rfl ?_
      refine d_p 3 rfl (p_fieldAddr rfl rfl fd_26_1 sz_24 rfl) (by kernel_rfl) rfl rfl ?_
      refine d_q 4 [[]] rfl (q_load rfl rfl sz_24 aPk rfl) (by kernel_rfl) (by kernel_rfl) (by kernel_rfl) rfl ?_
      refine d_p 5 rfl (p_pure rfl) (by kernel_rfl) rfl rfl ?_
      refine d_p 6 rfl (p_fieldAddr rfl rfl fd_77_2 sz_75 rfl) (by kernel_rfl) rfl rfl ?_
      refine d_q 7 [[]] rfl (q_load rfl rfl sz_75 aPk rfl) (by kernel_rfl) (by kernel_rfl) (by kernel_rfl) rfl ?_
      refine d_h 8 rfl (h_call rfl fn_112 rfl (fun w1 h1 => c112 w1 _ _ (nth L i).op (Rw.later (hs.at hil).1 h1) (by omega))) (by kernel_rfl) (fun w h => h.ent aEt) rfl (fun ⟨xo, yo⟩ _ => ?_)
      refine d_base (fun w h => h.ent aEt) ?_
      refine d_p 9 rfl (p_indexAddr rfl rfl rfl sl_24 (i) (by omega) (by omega) rfl) (by kernel_rfl) rfl rfl ?_
      refine d_slot (show _ = Value.pointer (some ⟨ga, i * 4, none⟩) from by rw [Nat.zero_add]) ?_
      refine d_p 10 rfl (p_fieldAddr rfl rfl fd_77_2 sz_75 rfl) (by kernel_rfl) rfl rfl ?_
      refine d_h0 11 rfl (h_store rfl rfl rfl sz_75 rfl aPt (by rw [flat_length fv4, mix_len hMl hi1]; show i * 4 + 3 + 1 ≤ L.length * 4; omega) rfl) (by kernel_rfl) (fun w h => h.ent aEt) (fun _ _ => ?_)
      refine d_turn [] (by kernel_rfl) ?_
      refine d_nil (by kernel_rfl) (fun w h => h.ent aEt) ?_
      refine s_seq ?_
      refine s_region ?_
      refine o_p (p_fieldAddr rfl rfl fd_77_2 sz_75 rfl) rfl ?_
      refine o_q (q_load rfl rfl sz_75 aPk rfl) rfl ?_
      refine o_p (p_len_slice rfl rfl Try.underlying75) rfl ?_
      refine o_p (p_pure rfl) rfl ?_
      refine o_nil ?_
      refine s_block ?_
      refine s_weaken (L' := [(2, _), (3, _), (6, _), (7, _), (33, _), (34, _), (35, _), (52, _), (53, _), (54, _)]) aSx (fun _ h => h) ?_
      refine s_loopI (α := Nat × List LOpn) [9, 10, 54, 55, 56, 57, 58, 59, 60, 61, 62, 63, 64, 65, 66, 67, 68, 69, 70, 71, 72, 73, 74] (fun z => [(54, .int .i64 (z.1 : Int))]) (fun z => HS w [] [.own (.slice xo (nth L i).op.length yo) 48 5 (nth L i).op.length ((mix z.2 (nth L i).op z.1).flatMap LOpn.vals), .star (z.2.map subO), .blk ga 77 (xc * 4) ((mix (M ++ [({ nth L i with oa := xo, oc := yo } : LFil)]) L (i + 1)).flatMap LFil.vals), .star (M.map subF), .blk b5 77 4 (nth L i).vals, .blk b3 106 2 [.int .i64 next, .slice (some ⟨ga, 0, none⟩) L.length xc], .blk b1 26 2 [.int .i64 next, .slice a L.length cap]]) (fun z => z.1 ≤ (nth L i).op.length ∧ z.2.length = z.1 ∧ plo z.2 = (plo (nth L i).op).take z.1) (fun z => (nth L i).op.length - z.1) (0, []) ⟨Nat.zero_le _, rfl, rfl⟩ aSx (fun w h => (HS.star_nil (HS.blk_to (b := ga) h aPk (mix_store fv4 (x := ({ nth L i with oa := xo, oc := yo } : LFil)) hMl hil rfl (by show 3 + 1 ≤ 4; omega)))).ent aEt) (fun ⟨k, K⟩ hz2 => ?_)
      dsimp only at hz2 ⊢
      obtain ⟨hk1, hKl, hk2⟩ := hz2
      refine s_seq ?_
      refine s_region ?_
      refine o_p (p_pure rfl) rfl ?_
      refine o_nil ?_
      refine s_seq ?_
      refine s_cond rfl (fun h6 => ?_) (fun h6 => ?_)
      · try simp only [decide_eq_true_eq, decide_eq_false_iff_not, Bool.not_eq_true', Bool.not_eq_false', Bool.and_eq_true, Bool.or_eq_true, Bool.and_eq_false_iff, Bool.or_eq_false_iff, Bool.not_true, Bool.not_false] at h6
        have hkl : k < (nth L i).op.length := by omega
        have hv9 := VW.at hV hil hkl
        refine s_fact (fun w h => own_addr (a := xo) (cap := yo) (xs := (mix K (nth L i).op k).flatMap LOpn.vals) (sz := 5) (t := 48) (n := (nth L i).op.length) (by omega) h aPk) (fun hgo => ?_)
        obtain ⟨go, rfl, hoc, hom⟩ := hgo
        refine s_class (fun w h => own_to_blk (g := go) (t := 48) (sz := 5) (n := (nth L i).op.length) (by omega) h aPk) ?_
        refine s_skip ?_
        refine s_seq ?_
        refine s_block ?_
        refine s_seq ?_
        refine s_region ?_
        refine o_p (p_pure rfl) rfl ?_
        refine o_p (p_indexAddr rfl rfl rfl sl_75 (k) (by omega) (by omega) (Rw.some (hs.at hil).1 (by omega))) rfl ?_
        refine o_q (q_load_oldn _ rfl rfl sz_48 rfl (Rw.rd (hs.at hil).1 hkl)) rfl ?_
        refine o_h (h_alloc rfl zr_48) rfl (fun b7 _ => ?_)
        refine o_p (p_pure rfl) rfl ?_
        refine o_h0 (h_store rfl rfl rfl sz_48 rfl aPt (by simp only [setMany_length, List.length_set, List.length_cons, List.length_nil, List.length_map]; omega) rfl) (fun _ _ => ?_)
        refine o_nil ?_
        refine s_draw [15] mixed ?_
        refine d_p 0 rfl (p_pure rfl) (by kernel_rfl) rfl rfl ?_
        refine d_p 1 rfl (p_pure rfl) (by kernel_rfl) rfl rfl ?_
        refine d_p 2 rfl (p_fieldAddr rfl rfl fd_106_0 sz_26 rfl) (by kernel_rfl) rfl rfl ?_
        refine d_p 3 rfl (p_fieldAddr rfl rfl fd_26_1 sz_24 rfl) (by kernel_rfl) rfl rfl ?_
        refine d_q 4 [[]] rfl (q_load rfl rfl sz_24 aPk rfl) (by kernel_rfl) (by kernel_rfl) (by kernel_rfl) rfl ?_
        refine d_p 5 rfl (p_pure rfl) (by kernel_rfl) rfl rfl ?_
        refine d_p 6 rfl (p_indexAddr rfl rfl rfl sl_24 (i) (by omega) (by omega) rfl) (by kernel_rfl) rfl rfl ?_
        refine d_slot (show _ = Value.pointer (some ⟨ga, i * 4, none⟩) from by rw [Nat.zero_add]) ?_
        refine d_p 7 rfl (p_fieldAddr rfl rfl fd_77_2 sz_75 rfl) (by kernel_rfl) rfl rfl ?_
        refine d_q 8 [[]] rfl (q_load_at rfl rfl sz_75 (fun w h => (h.rd_blk (Mc := []) (b := ga) aPk (by rw [flat_get fv4 _ i 3 _ (mix_get hMl) (by decide)]; rfl) (by simp)))) (by kernel_rfl) (by kernel_rfl) (by kernel_rfl) rfl ?_
        refine d_p 9 rfl (p_pure rfl) (by kernel_rfl) rfl rfl ?_
        refine d_p 10 rfl (p_fieldAddr rfl rfl fd_48_4 sz_46 rfl) (by kernel_rfl) rfl rfl ?_
        refine d_q 11 [[]] rfl (q_load rfl rfl sz_46 aPk rfl) (by kernel_rfl) (by kernel_rfl) (by kernel_rfl) rfl ?_
        refine d_h 12 rfl (h_call rfl fn_113 rfl (fun w1 h1 => c113 w1 _ _ (nth (nth L i).op k).lk (Rw.later ((hs.at hil).at hkl) h1) (by have := hv9.2.2; omega))) (by kernel_rfl) (fun w h => h.ent aEt) rfl (fun ⟨xl, yl⟩ _ => ?_)
        refine d_base (fun w h => h.ent aEt) ?_
        refine d_p 13 rfl (p_indexAddr rfl rfl rfl sl_75 (k) (by omega) (by omega) rfl) (by kernel_rfl) rfl rfl ?_
        refine d_slot (show _ = Value.pointer (some ⟨go, k * 5, none⟩) from by rw [Nat.zero_add]) ?_
        refine d_p 14 rfl (p_fieldAddr rfl rfl fd_48_4 sz_46 rfl) (by kernel_rfl) rfl rfl ?_
        refine d_h0 15 rfl (h_store rfl rfl rfl sz_46 rfl aPt (by rw [flat_length ov5, mix_len hKl hk1]; show k * 5 + 4 + 1 ≤ (nth L i).op.length * 5; omega) rfl) (by kernel_rfl) (fun w h => h.ent aEt) (fun _ _ => ?_)
        refine d_turn [] (by kernel_rfl) ?_
        refine d_nil (by kernel_rfl) (fun w h => h.ent aEt) ?_
        refine s_blk ?_
        refine s_weaken (L' := [(2, _), (3, _), (6, _), (7, _), (33, _), (34, _), (35, _), (52, _), (53, _), (54, _)]) aSx (fun _ h => h) ?_
        refine s_region ?_
        refine o_p (p_pure rfl) rfl ?_
        try (refine o_slot (i64w (by omega) (by omega)) ?_)
        refine o_p (p_pure rfl) rfl ?_
        refine o_nil ?_
        exact s_backI (k + 1, K ++ [({ (nth (nth L i).op k) with la := xl, lc := yl } : LOpn)]) (by show (nth L i).op.length - (k + 1) < (nth L i).op.length - k; omega) ⟨by show k + 1 ≤ (nth L i).op.length; omega, by simp [hKl], by show plo (K ++ [({ (nth (nth L i).op k) with la := xl, lc := yl } : LOpn)]) = (plo (nth L i).op).take (k + 1); rw [plo_app1, hk2, take_succ_nth (by simpa using hkl), nth_plo hkl]; rfl⟩ aSx (fun w h => by have h3 := row_fill (sub := subO) (K := K) (x := ({ (nth (nth L i).op k) with la := xl, lc := yl } : LOpn)) (n := (nth L i).op.length) (xs := (mix (K ++ [({ (nth (nth L i).op k) with la := xl, lc := yl } : LOpn)]) (nth L i).op (k + 1)).flatMap LOpn.vals) (h.ent (Bs := [.blk go 48 (yo * 5) (setMany ((mix K (nth L i).op k).flatMap LOpn.vals) (k * 5 + 4) [.slice xl (nth (nth L i).op k).lk.length yl]), subO ({ (nth (nth L i).op k) with la := xl, lc := yl } : LOpn), .star (K.map subO), .blk ga 77 (xc * 4) ((mix (M ++ [({ nth L i with oa := some ⟨go, 0, none⟩, oc := yo } : LFil)]) L (i + 1)).flatMap LFil.vals), .star (M.map subF), .blk b5 77 4 (nth L i).vals, .blk b3 106 2 [.int .i64 next, .slice (some ⟨ga, 0, none⟩) L.length xc], .blk b1 26 2 [.int .i64 next, .slice a L.length cap]]) aEt) (mix_store ov5 hKl hkl (by simp [LOpn.vals, setMany]) (by simp)) (by rw [flat_length ov5, mix_len (by simp [hKl]) (by omega)]) hoc hom; exact h3.ent aEt)
      · try simp only [decide_eq_true_eq, decide_eq_false_iff_not, Bool.not_eq_true', Bool.not_eq_false', Bool.and_eq_true, Bool.or_eq_true, Bool.and_eq_false_iff, Bool.or_eq_false_iff, Bool.not_true, Bool.not_false] at h6
        refine s_exit_to rfl ?_
        refine s_blk ?_
        refine s_region ?_
        refine o_p (p_pure rfl) rfl ?_
        try (refine o_slot (i64w (by omega) (by omega)) ?_)
        refine o_p (p_pure rfl) rfl ?_
        refine o_nil ?_
        exact s_backI (i + 1, M ++ [({ nth L i with oa := xo, oc := yo, op := K } : LFil)]) (by show L.length - (i + 1) < L.length - i; omega) ⟨by show i + 1 ≤ L.length; omega, by simp [hMl], by show pls (M ++ [({ nth L i with oa := xo, oc := yo, op := K } : LFil)]) = (pls L).take (i + 1); rw [pls_app1, hi2, take_succ_nth (by simpa using hil), nth_pls hil]; have e8 : k = (nth L i).op.length := (by omega); rw [e8, List.take_of_length_le (by simp)] at hk2; simp only [LFil.pl]; rw [show List.map LOpn.pl K = List.map LOpn.pl (nth L i).op from hk2]⟩ aSx (fun w h => by have e8 : k = (nth L i).op.length := (by omega); have h2 := opens_shut (l := K) (h.ent (Bs := [.own (.slice xo (nth L i).op.length yo) 48 5 (nth L i).op.length ((mix K (nth L i).op k).flatMap LOpn.vals), .star (K.map subO), .blk ga 77 (xc * 4) ((mix (M ++ [({ nth L i with oa := xo, oc := yo } : LFil)]) L (i + 1)).flatMap LFil.vals), .star (M.map subF), .blk b3 106 2 [.int .i64 next, .slice (some ⟨ga, 0, none⟩) L.length xc], .blk b1 26 2 [.int .i64 next, .slice a L.length cap]]) aEt) (by omega) (by rw [mix_end (by omega)]); have h3 := row_fill (sub := subF) (K := M) (x := ({ nth L i with oa := xo, oc := yo, op := K } : LFil)) (n := L.length) (xs := (mix (M ++ [({ nth L i with oa := xo, oc := yo, op := K } : LFil)]) L (i + 1)).flatMap LFil.vals) (h2.ent (Bs := [.blk ga 77 (xc * 4) ((mix (M ++ [({ nth L i with oa := xo, oc := yo } : LFil)]) L (i + 1)).flatMap LFil.vals), subF ({ nth L i with oa := xo, oc := yo, op := K } : LFil), .star (M.map subF), .blk b3 106 2 [.int .i64 next, .slice (some ⟨ga, 0, none⟩) L.length xc], .blk b1 26 2 [.int .i64 next, .slice a L.length cap]]) aEt) (mix_same (by simp only [LFil.vals]; rw [show K.length = (nth L i).op.length by omega])) (by rw [flat_length fv4, mix_len (by simp [hMl]) (by omega)]) hcap hcm; exact h3.ent aEt)
    · try simp only [decide_eq_true_eq, decide_eq_false_iff_not, Bool.not_eq_true', Bool.not_eq_false', Bool.and_eq_true, Bool.or_eq_true, Bool.and_eq_false_iff, Bool.or_eq_false_iff, Bool.not_true, Bool.not_false] at h4
      refine s_exit_to rfl ?_
      refine s_seq ?_
      refine s_region ?_
      refine o_p (p_pure rfl) rfl ?_
      refine o_p (p_pure rfl) rfl ?_
      refine o_p (p_pure rfl) rfl ?_
      refine o_nil ?_
      exact s_retv (rs := [.tmp 2, .tmp 3]) rfl (.tmp rfl (.tmp rfl (.nil))) (fun w' h' => by have e8 : i = L.length := (by omega); exact ⟨(b3, (xa, xc), M), rfl, by show pls M = pls L; rw [hi2, List.take_of_length_le (by simp; omega)], by have h2 := HS.files_shut (l := M) (h'.ent (Bs := [.own (.slice xa L.length xc) 77 4 L.length ((mix M L i).flatMap LFil.vals), .star (M.map subF), .blk b3 106 2 [.int .i64 next, .slice xa L.length xc]]) aEt) (by omega) (by rw [mix_end (by omega)]); dsimp only; rw [show M.length = L.length by omega]; exact h2.ent aEt⟩)

set_option maxRecDepth 20000 in
theorem d80 (w : World) (next : Int) (a : Option Addr) (cap : Nat) (L : List LFil) (hs : Ft w [] a L) (hm : L.length ≤ 1000) (hmo : ∀ f ∈ L, f.op.length ≤ 1000) (hz : ¬ (chkT next (pls L)).2 = 0) : Calls Try.prog 80 #[.agg #[.int .i64 next, .slice a L.length cap]] w fun en w' => en = .returned (.tuple #[.pointer none, .int .i64 (chkT next (pls L)).2]) ∧ Below w.heap.size w w' := by
  refine enter (args := [_]) Try.func80 Try.ntmps80 rfl rfl (HS.refl w []) ?_
  refine s_seq ?_
  refine s_region ?_
  refine o_h (h_box rfl rfl) rfl (fun b1 _ => ?_)
  refine o_p (p_pure rfl) rfl ?_
  refine o_p (p_pure rfl) rfl ?_
  refine o_nil ?_
  refine s_seq ?_
  refine s_seq ?_
  refine s_region ?_
  refine o_q (q_loadn rfl rfl sz_26 aPk rfl) rfl ?_
  refine o_q (q_call rfl fn_18 rfl (fun w1 h1 => c18 w1 next a cap L (hs.later h1) hm hmo)) rfl ?_
  refine o_p (p_pure rfl) rfl ?_
  refine o_p (p_pure rfl) rfl ?_
  refine o_p (p_pure rfl) rfl ?_
  refine o_p (p_pure rfl) rfl ?_
  refine o_p (p_pure rfl) rfl ?_
  refine o_nil ?_
  refine s_seq ?_
  refine s_region ?_
  refine o_p (p_pure rfl) rfl ?_
  refine o_p (p_pure rfl) rfl ?_
  refine o_nil ?_
  refine s_cond rfl (fun h2 => ?_) (fun h2 => ?_)
  · try simp only [decide_eq_true_eq, decide_eq_false_iff_not, Bool.not_eq_true', Bool.not_eq_false', Bool.and_eq_true, Bool.or_eq_true, Bool.and_eq_false_iff, Bool.or_eq_false_iff, Bool.not_true, Bool.not_false] at h2
    refine s_seq ?_
    refine s_region ?_
    refine o_p (p_pure rfl) rfl ?_
    refine o_p (p_pure rfl) rfl ?_
    refine o_p (p_pure rfl) rfl ?_
    refine o_nil ?_
    exact s_retv (rs := [.tmp 2, .tmp 3]) rfl (.tmp rfl (.tmp rfl (.nil))) (fun w' h' => ⟨rfl, h'.below⟩)
  · try simp only [decide_eq_true_eq, decide_eq_false_iff_not, Bool.not_eq_true', Bool.not_eq_false', Bool.and_eq_true, Bool.or_eq_true, Bool.and_eq_false_iff, Bool.or_eq_false_iff, Bool.not_true, Bool.not_false] at h2
    exfalso; exact absurd h2 hz

end Go.Proofs

namespace Go.Proofs
open Go Go.RowKit Gx
set_option linter.unusedVariables false
set_option linter.unusedSimpArgs false
attribute [local irreducible] Go.Calls Gx.S Gx.O Gx.D Gx.OpP Gx.OpQ Gx.OpH

theorem fn_80 : isFn Try.prog 80 = true := by kernel_rfl
end Go.Proofs

namespace Go.Proofs
open Go Go.RowKit Gx
set_option linter.unusedVariables false
set_option linter.unusedSimpArgs false
attribute [local irreducible] Go.Calls Gx.S Gx.O Gx.D Gx.OpP Gx.OpQ Gx.OpH



def openR (next : Int) (L : List Fil) (rc sq : Int) (x : Opn) : (List Fil × Int) × Int × Int := if (chkT next L).2 = 0 then if (openT next L rc sq x).2.2.2 = 0 then (((openT next L rc sq x).1, (openT next L rc sq x).2.1), (openT next L rc sq x).2.2.1, 0) else (([], 0), 0, (openT next L rc sq x).2.2.2) else (([], 0), 0, (chkT next L).2)
def closeR (next : Int) (L : List Fil) (h : Int) : (List Fil × Int) × Bool × Int := if (chkT next L).2 = 0 then if (closeT L h).2.2 = 0 then (((closeT L h).1, next), (closeT L h).2.1, 0) else (([], 0), false, (closeT L h).2.2) else (([], 0), false, (chkT next L).2)
theorem openR_1 {next : Int} {L : List Fil} {rc sq : Int} {x : Opn} (h : ¬ (chkT next L).2 = 0) : openR next L rc sq x = (([], 0), 0, (chkT next L).2) := by rw [openR, if_neg h]
theorem openR_e {next : Int} {L : List Fil} {rc sq : Int} {x : Opn} (h : (chkT next L).2 = 0) (h2 : ¬ (openT next L rc sq x).2.2.2 = 0) : openR next L rc sq x = (([], 0), 0, (openT next L rc sq x).2.2.2) := by rw [openR, if_pos h, if_neg h2]
theorem openR_0 {next : Int} {L : List Fil} {rc sq : Int} {x : Opn} (h : (chkT next L).2 = 0) (h2 : (openT next L rc sq x).2.2.2 = 0) : openR next L rc sq x = (((openT next L rc sq x).1, (openT next L rc sq x).2.1), (openT next L rc sq x).2.2.1, 0) := by rw [openR, if_pos h, if_pos h2]
theorem closeR_1 {next : Int} {L : List Fil} {a : Int} (h : ¬ (chkT next L).2 = 0) : closeR next L a = (([], 0), false, (chkT next L).2) := by rw [closeR, if_neg h]
theorem closeR_e {next : Int} {L : List Fil} {a : Int} (h : (chkT next L).2 = 0) (h2 : ¬ (closeT L a).2.2 = 0) : closeR next L a = (([], 0), false, (closeT L a).2.2) := by rw [closeR, if_pos h, if_neg h2]
theorem closeR_0 {next : Int} {L : List Fil} {a : Int} (h : (chkT next L).2 = 0) (h2 : (closeT L a).2.2 = 0) : closeR next L a = (((closeT L a).1, next), (closeT L a).2.1, 0) := by rw [closeR, if_pos h, if_pos h2]

set_option maxRecDepth 20000 in
theorem e35 (w : World) (next : Int) (a : Option Addr) (cap : Nat) (L : List LFil) (rc sq : Int) (x : LOpn) (hs : Ft w [] a L) (hm : L.length ≤ 1000) (hmo : ∀ f ∈ L, f.op.length ≤ 1000) (hz : (chkT next (pls L)).2 = 0) : Calls Try.prog 35 #[.agg #[.int .i64 next, .slice a L.length cap], .agg #[.int .i64 rc, .int .i64 sq], .agg #[.int .i64 x.hd, .int .i64 x.ac, .int .i64 x.sh, .bool x.dl, .slice x.la x.lk.length x.lc]] w fun en w' => ∃ g : (Option Addr × Nat) × List LFil, en = .returned (.tuple #[.agg #[.int .i64 (openR next (pls L) rc sq x.pl).1.2, .slice g.1.1 g.2.length g.1.2], .int .i64 (openR next (pls L) rc sq x.pl).2.1, .int .i64 (openR next (pls L) rc sq x.pl).2.2]) ∧ pls g.2 = (openR next (pls L) rc sq x.pl).1.1 ∧ HS w [] [.files g.1.1 g.1.2 g.2] w' := by
  refine enter (args := [_, _, _]) Try.func35 Try.ntmps35 rfl rfl (HS.refl w []) ?_
  refine s_seq ?_
  refine s_region ?_
  refine o_h (h_box rfl rfl) rfl (fun b1 _ => ?_)
  refine o_h (h_box rfl rfl) rfl (fun b2 _ => ?_)
  refine o_h (h_box rfl rfl) rfl (fun b3 _ => ?_)
  refine o_h (h_alloc rfl zr_26) rfl (fun b4 _ => ?_)
  refine o_p (p_pure rfl) rfl ?_
  refine o_p (p_pure rfl) rfl ?_
  refine o_nil ?_
  refine s_seq ?_
  refine s_region ?_
  refine o_q (q_loadn rfl rfl sz_26 aPk rfl) rfl ?_
  refine o_h (h_call rfl fn_80 rfl (fun w1 h1 => c80 w1 next a cap L (hs.later h1) hm hmo hz)) rfl (fun ⟨bt, ⟨ca, cc⟩, N⟩ hgc => ?_)
  dsimp only at hgc ⊢
  refine o_p (p_pure rfl) rfl ?_
  refine o_p (p_pure rfl) rfl ?_
  refine o_p (p_pure rfl) rfl ?_
  refine o_p (p_pure rfl) rfl ?_
  refine o_p (p_pure rfl) rfl ?_
  refine o_nil ?_
  refine s_seq ?_
  refine s_seq ?_
  refine s_region ?_
  refine o_p (p_pure rfl) rfl ?_
  refine o_p (p_pure rfl) rfl ?_
  refine o_nil ?_
  refine s_cond rfl (fun h5 => ?_) (fun h5 => ?_)
  · try simp only [decide_eq_true_eq, decide_eq_false_iff_not, Bool.not_eq_true', Bool.not_eq_false', Bool.and_eq_true, Bool.or_eq_true, Bool.and_eq_false_iff, Bool.or_eq_false_iff, Bool.not_true, Bool.not_false] at h5
    exfalso; simp at h5
  · try simp only [decide_eq_true_eq, decide_eq_false_iff_not, Bool.not_eq_true', Bool.not_eq_false', Bool.and_eq_true, Bool.or_eq_true, Bool.and_eq_false_iff, Bool.or_eq_false_iff, Bool.not_true, Bool.not_false] at h5
    refine s_skip ?_
    refine s_seq ?_
    refine s_region ?_
    refine o_p (p_pure rfl) rfl ?_
    refine o_q (q_loadn rfl rfl sz_42 aPk rfl) rfl ?_
    refine o_q (q_loadn rfl rfl sz_48 aPk rfl) rfl ?_
    refine o_h (h_callF (Cs := [.blk bt 106 2 [.int .i64 next, .slice ca N.length cc], .files ca cc N]) rfl fn_81 rfl aPs (fun w1 h1 hf => c81 w1 bt next ca cc N rc sq x hf (by rw [show pls N = pls L from hgc]; exact (chk_ok hz).vw) (by have := (chk_ok hz).nx; omega))) rfl (fun ⟨⟨ga, gc⟩, G⟩ hg9 => ?_)
    dsimp only at hg9 ⊢
    rw [hgc] at hg9 ⊢
    refine o_p (p_pure rfl) rfl ?_
    refine o_p (p_pure rfl) rfl ?_
    refine o_p (p_pure rfl) rfl ?_
    refine o_p (p_pure rfl) rfl ?_
    refine o_p (p_pure rfl) rfl ?_
    refine o_nil ?_
    refine s_seq ?_
    refine s_seq ?_
    refine s_region ?_
    refine o_p (p_pure rfl) rfl ?_
    refine o_p (p_pure rfl) rfl ?_
    refine o_nil ?_
    refine s_cond rfl (fun h6 => ?_) (fun h6 => ?_)
    · try simp only [decide_eq_true_eq, decide_eq_false_iff_not, Bool.not_eq_true', Bool.not_eq_false', Bool.and_eq_true, Bool.or_eq_true, Bool.and_eq_false_iff, Bool.or_eq_false_iff, Bool.not_true, Bool.not_false] at h6
      refine s_seq ?_
      refine s_region ?_
      refine o_p (p_build (cs := [_, _]) rfl rfl pl_26 zr_26 rfl) rfl ?_
      refine o_p (p_pure rfl) rfl ?_
      refine o_h0 (h_store rfl rfl rfl sz_26 rfl aPt (by simp only [setMany_length, List.length_set, List.length_cons, List.length_nil, List.length_map]; omega) rfl) (fun _ _ => ?_)
      refine o_p (p_pure rfl) rfl ?_
      refine o_p (p_pure rfl) rfl ?_
      refine o_nil ?_
      exact s_retv (rs := [.cell 6 26, .tmp 7, .tmp 8]) rfl (.cell rfl sz_26 aPk rfl (.tmp rfl (.tmp rfl (.nil)))) (fun w' h' => by have hR := openR_e hz h6; exact ⟨((none, 0), []), by rw [hR]; rfl, by rw [hR]; rfl, (HS.files_none h').ent aEt⟩)
    · try simp only [decide_eq_true_eq, decide_eq_false_iff_not, Bool.not_eq_true', Bool.not_eq_false', Bool.and_eq_true, Bool.or_eq_true, Bool.and_eq_false_iff, Bool.or_eq_false_iff, Bool.not_true, Bool.not_false] at h6
      refine s_skip ?_
      refine s_seq ?_
      refine s_region ?_
      refine o_p (p_pure rfl) rfl ?_
      refine o_p (p_pure rfl) rfl ?_
      refine o_p (p_fieldAddr rfl rfl fd_106_0 sz_26 rfl) rfl ?_
      refine o_q (q_loadn rfl rfl sz_26 aPk rfl) rfl ?_
      refine o_p (p_pure rfl) rfl ?_
      refine o_h0 (h_store rfl rfl rfl sz_26 rfl aPt (by simp only [setMany_length, List.length_set, List.length_cons, List.length_nil, List.length_map]; omega) rfl) (fun _ _ => ?_)
      refine o_p (p_pure rfl) rfl ?_
      refine o_p (p_pure rfl) rfl ?_
      refine o_nil ?_
      exact s_retv (rs := [.cell 6 26, .tmp 7, .tmp 8]) rfl (.cell rfl sz_26 aPk rfl (.tmp rfl (.tmp rfl (.nil)))) (fun w' h' => by have hR := openR_0 hz h6; exact ⟨((ga, gc), G), by rw [hR]; rfl, by rw [hR]; exact hg9, h'.ent aEt⟩)

set_option maxRecDepth 20000 in
theorem d35 (w : World) (next : Int) (a : Option Addr) (cap : Nat) (L : List LFil) (rc sq : Int) (x : LOpn) (hs : Ft w [] a L) (hm : L.length ≤ 1000) (hmo : ∀ f ∈ L, f.op.length ≤ 1000) (hz : ¬ (chkT next (pls L)).2 = 0) : Calls Try.prog 35 #[.agg #[.int .i64 next, .slice a L.length cap], .agg #[.int .i64 rc, .int .i64 sq], .agg #[.int .i64 x.hd, .int .i64 x.ac, .int .i64 x.sh, .bool x.dl, .slice x.la x.lk.length x.lc]] w fun en w' => ∃ g : (Option Addr × Nat) × List LFil, en = .returned (.tuple #[.agg #[.int .i64 (openR next (pls L) rc sq x.pl).1.2, .slice g.1.1 g.2.length g.1.2], .int .i64 (openR next (pls L) rc sq x.pl).2.1, .int .i64 (openR next (pls L) rc sq x.pl).2.2]) ∧ pls g.2 = (openR next (pls L) rc sq x.pl).1.1 ∧ HS w [] [.files g.1.1 g.1.2 g.2] w' := by
  refine enter (args := [_, _, _]) Try.func35 Try.ntmps35 rfl rfl (HS.refl w []) ?_
  refine s_seq ?_
  refine s_region ?_
  refine o_h (h_box rfl rfl) rfl (fun b1 _ => ?_)
  refine o_h (h_box rfl rfl) rfl (fun b2 _ => ?_)
  refine o_h (h_box rfl rfl) rfl (fun b3 _ => ?_)
  refine o_h (h_alloc rfl zr_26) rfl (fun b4 _ => ?_)
  refine o_p (p_pure rfl) rfl ?_
  refine o_p (p_pure rfl) rfl ?_
  refine o_nil ?_
  refine s_seq ?_
  refine s_region ?_
  refine o_q (q_loadn rfl rfl sz_26 aPk rfl) rfl ?_
  refine o_q (q_call rfl fn_80 rfl (fun w1 h1 => d80 w1 next a cap L (hs.later h1) hm hmo hz)) rfl ?_
  refine o_p (p_pure rfl) rfl ?_
  refine o_p (p_pure rfl) rfl ?_
  refine o_p (p_pure rfl) rfl ?_
  refine o_p (p_pure rfl) rfl ?_
  refine o_p (p_pure rfl) rfl ?_
  refine o_nil ?_
  refine s_seq ?_
  refine s_seq ?_
  refine s_region ?_
  refine o_p (p_pure rfl) rfl ?_
  refine o_p (p_pure rfl) rfl ?_
  refine o_nil ?_
  refine s_cond rfl (fun h5 => ?_) (fun h5 => ?_)
  · try simp only [decide_eq_true_eq, decide_eq_false_iff_not, Bool.not_eq_true', Bool.not_eq_false', Bool.and_eq_true, Bool.or_eq_true, Bool.and_eq_false_iff, Bool.or_eq_false_iff, Bool.not_true, Bool.not_false] at h5
    refine s_seq ?_
    refine s_region ?_
    refine o_p (p_build (cs := [_, _]) rfl rfl pl_26 zr_26 rfl) rfl ?_
    refine o_p (p_pure rfl) rfl ?_
    refine o_h0 (h_store rfl rfl rfl sz_26 rfl aPt (by simp only [setMany_length, List.length_set, List.length_cons, List.length_nil, List.length_map]; omega) rfl) (fun _ _ => ?_)
    refine o_p (p_pure rfl) rfl ?_
    refine o_p (p_pure rfl) rfl ?_
    refine o_nil ?_
    exact s_retv (rs := [.cell 6 26, .tmp 7, .tmp 8]) rfl (.cell rfl sz_26 aPk rfl (.tmp rfl (.tmp rfl (.nil)))) (fun w' h' => by have hR := openR_1 (next := next) (L := pls L) (rc := rc) (sq := sq) (x := x.pl) hz; exact ⟨((none, 0), []), by rw [hR]; rfl, by rw [hR]; rfl, (HS.files_none h').ent aEt⟩)
  · try simp only [decide_eq_true_eq, decide_eq_false_iff_not, Bool.not_eq_true', Bool.not_eq_false', Bool.and_eq_true, Bool.or_eq_true, Bool.and_eq_false_iff, Bool.or_eq_false_iff, Bool.not_true, Bool.not_false] at h5
    exfalso; exact hz h5

theorem c35 (w : World) (next : Int) (a : Option Addr) (cap : Nat) (L : List LFil) (rc sq : Int) (x : LOpn) (hs : Ft w [] a L) (hm : L.length ≤ 1000) (hmo : ∀ f ∈ L, f.op.length ≤ 1000) : Calls Try.prog 35 #[.agg #[.int .i64 next, .slice a L.length cap], .agg #[.int .i64 rc, .int .i64 sq], .agg #[.int .i64 x.hd, .int .i64 x.ac, .int .i64 x.sh, .bool x.dl, .slice x.la x.lk.length x.lc]] w fun en w' => ∃ g : (Option Addr × Nat) × List LFil, en = .returned (.tuple #[.agg #[.int .i64 (openR next (pls L) rc sq x.pl).1.2, .slice g.1.1 g.2.length g.1.2], .int .i64 (openR next (pls L) rc sq x.pl).2.1, .int .i64 (openR next (pls L) rc sq x.pl).2.2]) ∧ pls g.2 = (openR next (pls L) rc sq x.pl).1.1 ∧ HS w [] [.files g.1.1 g.1.2 g.2] w' := by
  rcases Classical.em ((chkT next (pls L)).2 = 0) with hz | hz
  · exact e35 w next a cap L rc sq x hs hm hmo hz
  · exact d35 w next a cap L rc sq x hs hm hmo hz

set_option maxRecDepth 20000 in
theorem e36 (w : World) (next : Int) (a : Option Addr) (cap : Nat) (L : List LFil) (h : Int) (hs : Ft w [] a L) (hm : L.length ≤ 1000) (hmo : ∀ f ∈ L, f.op.length ≤ 1000) (hz : (chkT next (pls L)).2 = 0) : Calls Try.prog 36 #[.agg #[.int .i64 next, .slice a L.length cap], .int .i64 h] w fun en w' => ∃ g : (Option Addr × Nat) × List LFil, en = .returned (.tuple #[.agg #[.int .i64 (closeR next (pls L) h).1.2, .slice g.1.1 g.2.length g.1.2], .bool (closeR next (pls L) h).2.1, .int .i64 (closeR next (pls L) h).2.2]) ∧ pls g.2 = (closeR next (pls L) h).1.1 ∧ HS w [] [.files g.1.1 g.1.2 g.2] w' := by
  refine enter (args := [_, _]) Try.func36 Try.ntmps36 rfl rfl (HS.refl w []) ?_
  refine s_seq ?_
  refine s_region ?_
  refine o_h (h_box rfl rfl) rfl (fun b1 _ => ?_)
  refine o_h (h_alloc rfl zr_26) rfl (fun b2 _ => ?_)
  refine o_p (p_pure rfl) rfl ?_
  refine o_p (p_pure rfl) rfl ?_
  refine o_nil ?_
  refine s_seq ?_
  refine s_region ?_
  refine o_q (q_loadn rfl rfl sz_26 aPk rfl) rfl ?_
  refine o_h (h_call rfl fn_80 rfl (fun w1 h1 => c80 w1 next a cap L (hs.later h1) hm hmo hz)) rfl (fun ⟨bt, ⟨ca, cc⟩, N⟩ hgc => ?_)
  dsimp only at hgc ⊢
  refine o_p (p_pure rfl) rfl ?_
  refine o_p (p_pure rfl) rfl ?_
  refine o_p (p_pure rfl) rfl ?_
  refine o_p (p_pure rfl) rfl ?_
  refine o_p (p_pure rfl) rfl ?_
  refine o_nil ?_
  refine s_seq ?_
  refine s_seq ?_
  refine s_region ?_
  refine o_p (p_pure rfl) rfl ?_
  refine o_p (p_pure rfl) rfl ?_
  refine o_nil ?_
  refine s_cond rfl (fun h3 => ?_) (fun h3 => ?_)
  · try simp only [decide_eq_true_eq, decide_eq_false_iff_not, Bool.not_eq_true', Bool.not_eq_false', Bool.and_eq_true, Bool.or_eq_true, Bool.and_eq_false_iff, Bool.or_eq_false_iff, Bool.not_true, Bool.not_false] at h3
    exfalso; simp at h3
  · try simp only [decide_eq_true_eq, decide_eq_false_iff_not, Bool.not_eq_true', Bool.not_eq_false', Bool.and_eq_true, Bool.or_eq_true, Bool.and_eq_false_iff, Bool.or_eq_false_iff, Bool.not_true, Bool.not_false] at h3
    refine s_skip ?_
    refine s_seq ?_
    refine s_region ?_
    refine o_p (p_pure rfl) rfl ?_
    refine o_p (p_pure rfl) rfl ?_
    refine o_h (h_callF (Cs := [.blk bt 106 2 [.int .i64 next, .slice ca N.length cc], .files ca cc N]) rfl fn_82 rfl aPs (fun w1 h1 hf => c82 w1 bt next ca cc N h hf (by rw [show pls N = pls L from hgc]; exact (chk_ok hz).vw))) rfl (fun ⟨⟨ga, gc⟩, G⟩ hg9 => ?_)
    dsimp only at hg9 ⊢
    rw [hgc] at hg9 ⊢
    refine o_p (p_pure rfl) rfl ?_
    refine o_p (p_pure rfl) rfl ?_
    refine o_p (p_pure rfl) rfl ?_
    refine o_p (p_pure rfl) rfl ?_
    refine o_p (p_pure rfl) rfl ?_
    refine o_nil ?_
    refine s_seq ?_
    refine s_seq ?_
    refine s_region ?_
    refine o_p (p_pure rfl) rfl ?_
    refine o_p (p_pure rfl) rfl ?_
    refine o_nil ?_
    refine s_cond rfl (fun h4 => ?_) (fun h4 => ?_)
    · try simp only [decide_eq_true_eq, decide_eq_false_iff_not, Bool.not_eq_true', Bool.not_eq_false', Bool.and_eq_true, Bool.or_eq_true, Bool.and_eq_false_iff, Bool.or_eq_false_iff, Bool.not_true, Bool.not_false] at h4
      refine s_seq ?_
      refine s_region ?_
      refine o_p (p_build (cs := [_, _]) rfl rfl pl_26 zr_26 rfl) rfl ?_
      refine o_p (p_pure rfl) rfl ?_
      refine o_h0 (h_store rfl rfl rfl sz_26 rfl aPt (by simp only [setMany_length, List.length_set, List.length_cons, List.length_nil, List.length_map]; omega) rfl) (fun _ _ => ?_)
      refine o_p (p_pure rfl) rfl ?_
      refine o_p (p_pure rfl) rfl ?_
      refine o_nil ?_
      exact s_retv (rs := [.cell 4 26, .tmp 5, .tmp 6]) rfl (.cell rfl sz_26 aPk rfl (.tmp rfl (.tmp rfl (.nil)))) (fun w' h' => by have hR := closeR_e hz h4; exact ⟨((none, 0), []), by rw [hR]; rfl, by rw [hR]; rfl, (HS.files_none h').ent aEt⟩)
    · try simp only [decide_eq_true_eq, decide_eq_false_iff_not, Bool.not_eq_true', Bool.not_eq_false', Bool.and_eq_true, Bool.or_eq_true, Bool.and_eq_false_iff, Bool.or_eq_false_iff, Bool.not_true, Bool.not_false] at h4
      refine s_skip ?_
      refine s_seq ?_
      refine s_region ?_
      refine o_p (p_pure rfl) rfl ?_
      refine o_p (p_pure rfl) rfl ?_
      refine o_p (p_fieldAddr rfl rfl fd_106_0 sz_26 rfl) rfl ?_
      refine o_q (q_loadn rfl rfl sz_26 aPk rfl) rfl ?_
      refine o_p (p_pure rfl) rfl ?_
      refine o_h0 (h_store rfl rfl rfl sz_26 rfl aPt (by simp only [setMany_length, List.length_set, List.length_cons, List.length_nil, List.length_map]; omega) rfl) (fun _ _ => ?_)
      refine o_p (p_pure rfl) rfl ?_
      refine o_p (p_pure rfl) rfl ?_
      refine o_nil ?_
      exact s_retv (rs := [.cell 4 26, .tmp 5, .tmp 6]) rfl (.cell rfl sz_26 aPk rfl (.tmp rfl (.tmp rfl (.nil)))) (fun w' h' => by have hR := closeR_0 hz h4; exact ⟨((ga, gc), G), by rw [hR]; rfl, by rw [hR]; exact hg9, h'.ent aEt⟩)

set_option maxRecDepth 20000 in
theorem d36 (w : World) (next : Int) (a : Option Addr) (cap : Nat) (L : List LFil) (h : Int) (hs : Ft w [] a L) (hm : L.length ≤ 1000) (hmo : ∀ f ∈ L, f.op.length ≤ 1000) (hz : ¬ (chkT next (pls L)).2 = 0) : Calls Try.prog 36 #[.agg #[.int .i64 next, .slice a L.length cap], .int .i64 h] w fun en w' => ∃ g : (Option Addr × Nat) × List LFil, en = .returned (.tuple #[.agg #[.int .i64 (closeR next (pls L) h).1.2, .slice g.1.1 g.2.length g.1.2], .bool (closeR next (pls L) h).2.1, .int .i64 (closeR next (pls L) h).2.2]) ∧ pls g.2 = (closeR next (pls L) h).1.1 ∧ HS w [] [.files g.1.1 g.1.2 g.2] w' := by
  refine enter (args := [_, _]) Try.func36 Try.ntmps36 rfl rfl (HS.refl w []) ?_
  refine s_seq ?_
  refine s_region ?_
  refine o_h (h_box rfl rfl) rfl (fun b1 _ => ?_)
  refine o_h (h_alloc rfl zr_26) rfl (fun b2 _ => ?_)
  refine o_p (p_pure rfl) rfl ?_
  refine o_p (p_pure rfl) rfl ?_
  refine o_nil ?_
  refine s_seq ?_
  refine s_region ?_
  refine o_q (q_loadn rfl rfl sz_26 aPk rfl) rfl ?_
  refine o_q (q_call rfl fn_80 rfl (fun w1 h1 => d80 w1 next a cap L (hs.later h1) hm hmo hz)) rfl ?_
  refine o_p (p_pure rfl) rfl ?_
  refine o_p (p_pure rfl) rfl ?_
  refine o_p (p_pure rfl) rfl ?_
  refine o_p (p_pure rfl) rfl ?_
  refine o_p (p_pure rfl) rfl ?_
  refine o_nil ?_
  refine s_seq ?_
  refine s_seq ?_
  refine s_region ?_
  refine o_p (p_pure rfl) rfl ?_
  refine o_p (p_pure rfl) rfl ?_
  refine o_nil ?_
  refine s_cond rfl (fun h3 => ?_) (fun h3 => ?_)
  · try simp only [decide_eq_true_eq, decide_eq_false_iff_not, Bool.not_eq_true', Bool.not_eq_false', Bool.and_eq_true, Bool.or_eq_true, Bool.and_eq_false_iff, Bool.or_eq_false_iff, Bool.not_true, Bool.not_false] at h3
    refine s_seq ?_
    refine s_region ?_
    refine o_p (p_build (cs := [_, _]) rfl rfl pl_26 zr_26 rfl) rfl ?_
    refine o_p (p_pure rfl) rfl ?_
    refine o_h0 (h_store rfl rfl rfl sz_26 rfl aPt (by simp only [setMany_length, List.length_set, List.length_cons, List.length_nil, List.length_map]; omega) rfl) (fun _ _ => ?_)
    refine o_p (p_pure rfl) rfl ?_
    refine o_p (p_pure rfl) rfl ?_
    refine o_nil ?_
    exact s_retv (rs := [.cell 4 26, .tmp 5, .tmp 6]) rfl (.cell rfl sz_26 aPk rfl (.tmp rfl (.tmp rfl (.nil)))) (fun w' h' => by have hR := closeR_1 (next := next) (L := pls L) (a := h) hz; exact ⟨((none, 0), []), by rw [hR]; rfl, by rw [hR]; rfl, (HS.files_none h').ent aEt⟩)
  · try simp only [decide_eq_true_eq, decide_eq_false_iff_not, Bool.not_eq_true', Bool.not_eq_false', Bool.and_eq_true, Bool.or_eq_true, Bool.and_eq_false_iff, Bool.or_eq_false_iff, Bool.not_true, Bool.not_false] at h3
    exfalso; exact hz h3

theorem c36 (w : World) (next : Int) (a : Option Addr) (cap : Nat) (L : List LFil) (h : Int) (hs : Ft w [] a L) (hm : L.length ≤ 1000) (hmo : ∀ f ∈ L, f.op.length ≤ 1000) : Calls Try.prog 36 #[.agg #[.int .i64 next, .slice a L.length cap], .int .i64 h] w fun en w' => ∃ g : (Option Addr × Nat) × List LFil, en = .returned (.tuple #[.agg #[.int .i64 (closeR next (pls L) h).1.2, .slice g.1.1 g.2.length g.1.2], .bool (closeR next (pls L) h).2.1, .int .i64 (closeR next (pls L) h).2.2]) ∧ pls g.2 = (closeR next (pls L) h).1.1 ∧ HS w [] [.files g.1.1 g.1.2 g.2] w' := by
  rcases Classical.em ((chkT next (pls L)).2 = 0) with hz | hz
  · exact e36 w next a cap L h hs hm hmo hz
  · exact d36 w next a cap L h hs hm hmo hz

end Go.Proofs

/- Chapter 25, plain: where a handle of a valid table is, and what its locks keep others from. No program here. -/
namespace Go.Proofs
open Go Go.RowKit Gx
set_option linter.unusedVariables false
set_option linter.unusedSimpArgs false
theorem ixO_none {ops : List Opn} {h : Int} (hn : ∀ o ∈ ops, o.hd ≠ h) : ixO ops h = ops.length := by
  unfold ixO
  refine ixB_eq (by simp) (fun i hi => ?_) (fun hl => absurd hl (by simp))
  rw [List.getD_eq_getElem?_getD, List.getElem?_map, nth_get hi]
  simpa using hn _ (mem_nth hi)
theorem ixO_eq {ops : List Opn} {h : Int} {k : Nat} (hk : k < ops.length) (hn : ∀ j, j < k → (nth ops j).hd ≠ h) (he : (nth ops k).hd = h) : ixO ops h = k := by
  unfold ixO
  refine ixB_eq (by simp; omega) (fun i hi => ?_) (fun _ => ?_)
  · rw [List.getD_eq_getElem?_getD, List.getElem?_map, nth_get (show i < ops.length by omega)]
    simpa using hn i hi
  · rw [List.getD_eq_getElem?_getD, List.getElem?_map, nth_get hk]
    simpa using he
theorem find_skip {L : List Fil} {h : Int} : ∀ {i : Nat}, i ≤ L.length → (∀ j, j < i → ∀ o ∈ (nth L j).op, o.hd ≠ h) → findF L h 0 = findF (L.drop i) h i
  | 0, _, _ => rfl
  | i + 1, hi, hn => by
    rw [find_skip (i := i) (by omega) (fun j hj => hn j (by omega)), findF_drop (by omega), ixO_none (hn i (by omega)), if_neg (by omega)]
/-- A handle of a valid table is found where it is. -/
theorem find_at {next : Int} {L : List Fil} (h : Ok next L) {i k : Nat} (hi : i < L.length) (hk : k < (nth L i).op.length) : findF L (nth (nth L i).op k).hd 0 = (i, k, 0) := by
  have hf := nth_Ok h hi
  rw [find_skip (i := i) (by omega) (fun j hj o ho => by
    have h9 := (pw_nth.1 h.ds) j i hj hi o ho _ (mem_nth hk)
    exact h9), findF_drop hi]
  have e : ixO (nth L i).op (nth (nth L i).op k).hd = k := ixO_eq hk (fun j hj => by
    have h9 := (pw_nth.1 hf.hs) j k hj hk
    omega) rfl
  rw [e, if_pos hk]
theorem vw_b {L : List LFil} (hV : VW (pls L)) : L.length ≤ 1000 ∧ (∀ f ∈ L, f.op.length ≤ 1000) ∧ ∀ f ∈ L, ∀ o ∈ f.op, o.lk.length ≤ 1000 := by
  have h := VW.lens hV
  refine ⟨by omega, fun f hf => by have := h.2 f hf; omega, fun f hf o ho => ?_⟩
  obtain ⟨i, hi, rfl⟩ := mem_nth_ex hf
  obtain ⟨k, hk, rfl⟩ := mem_nth_ex ho
  have := (VW.at hV hi hk).2.2
  omega
end Go.Proofs

namespace Go.Proofs
open Go Go.RowKit Gx
set_option linter.unusedVariables false
set_option linter.unusedSimpArgs false
attribute [local irreducible] Go.Calls Gx.S Gx.O Gx.D Gx.OpP Gx.OpQ Gx.OpH

end Go.Proofs

namespace Go.Proofs
open Go Go.RowKit Gx
set_option linter.unusedVariables false
set_option linter.unusedSimpArgs false
attribute [local irreducible] Go.Calls Gx.S Gx.O Gx.D Gx.OpP Gx.OpQ Gx.OpH



end Go.Proofs

namespace Go.Proofs
open Go Go.RowKit Gx
set_option linter.unusedVariables false
set_option linter.unusedSimpArgs false
attribute [local irreducible] Go.Calls Gx.S Gx.O Gx.D Gx.OpP Gx.OpQ Gx.OpH

theorem fn_14 : isFn Try.prog 14 = true := by kernel_rfl
end Go.Proofs

namespace Go.Proofs
open Go Go.RowKit Gx
set_option linter.unusedVariables false
set_option linter.unusedSimpArgs false
attribute [local irreducible] Go.Calls Gx.S Gx.O Gx.D Gx.OpP Gx.OpQ Gx.OpH



end Go.Proofs

namespace Go.Proofs
open Go Go.RowKit Gx
set_option linter.unusedVariables false
set_option linter.unusedSimpArgs false
attribute [local irreducible] Go.Calls Gx.S Gx.O Gx.D Gx.OpP Gx.OpQ Gx.OpH



theorem ixB_at : ∀ {l : List Bool}, ixB l < l.length → l.getD (ixB l) false = true
  | [], h => absurd h (Nat.not_lt_zero _)
  | b :: l, h => by
    unfold ixB at h ⊢
    cases b
    · simp only [Bool.false_eq_true, if_false, List.length_cons] at h ⊢
      have h9 := ixB_at (l := l) (by omega)
      simpa using h9
    · simp
theorem at_miss {next : Int} {L : List LFil} {rc sq : Int} (h : Ok next (pls L)) (hp : ¬ 0 ≤ ixI (atB (pls L) rc sq)) : ¬ bsF' (cmps (pls L) rc sq) = true := by
  intro hb
  obtain ⟨h1, h2⟩ := (bsF_iff h).1 hb
  have hl : bsL (cmps (pls L) rc sq) < L.length := by simpa using h1
  have h3 : (atB (pls L) rc sq).any id = true := by
    rw [List.any_eq_true]
    refine ⟨true, ?_, rfl⟩
    rw [atB, List.mem_map]
    refine ⟨_, mem_nth h1, ?_⟩
    have e1 := congrArg Prod.fst h2
    have e2 := congrArg Prod.snd h2
    simp only [] at e1 e2
    rw [e1, e2]
    simp
  rw [ixB_any, decide_eq_true_eq] at h3
  unfold ixI at hp
  rw [if_pos h3] at hp
  omega
/-- The files laid so far: with the new one where its place was passed. -/
def dC (N : List LFil) (p : Nat) (f : LFil) (i : Nat) (b : Bool) : List LFil := if b then insAt (N.take i) p f else N.take i
section
variable {w0 w : World} {M : List Nat} {As As' : List HA} {a : Option Addr} {cap : Nat}
end

end Go.Proofs

namespace Go.Proofs
open Go Go.RowKit Gx
set_option linter.unusedVariables false
set_option linter.unusedSimpArgs false
attribute [local irreducible] Go.Calls Gx.S Gx.O Gx.D Gx.OpP Gx.OpQ Gx.OpH

theorem fn_35 : isFn Try.prog 35 = true := by kernel_rfl
theorem fn_36 : isFn Try.prog 36 = true := by kernel_rfl
theorem nil_b {G : List LFil} (h : pls G = []) : G.length ≤ 1000 ∧ (∀ f ∈ G, f.op.length ≤ 1000) ∧ ∀ f ∈ G, ∀ o ∈ f.op, o.lk.length ≤ 1000 := by
  obtain rfl : G = [] := by simpa using h
  exact ⟨by simp, fun f hf => (by cases hf), fun f hf => (by cases hf)⟩
theorem openR_b {next : Int} {L : List Fil} {rc sq : Int} {x : Opn} {G : List LFil} (hG : pls G = (openR next L rc sq x).1.1) : G.length ≤ 1000 ∧ (∀ f ∈ G, f.op.length ≤ 1000) ∧ ∀ f ∈ G, ∀ o ∈ f.op, o.lk.length ≤ 1000 := by
  unfold openR at hG
  split at hG
  · split at hG
    · rename_i h1 h2
      have h3 := (open_ok (rc := rc) (sq := sq) (x := x) (chk_ok h1)).vw
      rw [← show pls G = (openT next L rc sq x).1 from hG] at h3
      exact vw_b h3
    · exact nil_b hG
  · exact nil_b hG
end Go.Proofs

namespace Go.Proofs
open Go Go.RowKit Gx
set_option linter.unusedVariables false
set_option linter.unusedSimpArgs false
attribute [local irreducible] Go.Calls Gx.S Gx.O Gx.D Gx.OpP Gx.OpQ Gx.OpH

end Go.Proofs

namespace Go.Proofs
open Go Go.RowKit Gx
set_option linter.unusedVariables false
set_option linter.unusedSimpArgs false
attribute [local irreducible] Go.Calls Gx.S Gx.O Gx.D Gx.OpP Gx.OpQ Gx.OpH

end Go.Proofs

/- Chapter 25, plain: a count of which handles are open, beside a run of acts. No program here. -/
namespace Go.Proofs
open Go Go.RowKit Gx
set_option linter.unusedVariables false
set_option linter.unusedSimpArgs false

/-- The count: files, whether marked; of each handle its file, whether it deletes on close, whether it is closed. -/
structure DS where
  fl : List (Int × Int)
  ow : List Bool
  of : List Nat
  on : List Bool
  gn : List Bool
def ky (f : Fil) : Int × Int := (f.rc, f.sq)
structure DI (next : Int) (L : List Fil) (D : DS) : Prop where
  nx : next = (D.of.length : Int) + 1
  l1 : D.on.length = D.of.length
  l2 : D.gn.length = D.of.length
  l3 : D.ow.length = D.fl.length
  lt : ∀ h, h < D.of.length → nth D.of h < D.fl.length
  a : ∀ h, h < D.of.length → nth D.gn h = false → ∃ f ∈ L, ∃ o ∈ f.op, o.hd = (h : Int) + 1 ∧ o.dl = nth D.on h ∧ ky f = nth D.fl (nth D.of h)
  b : ∀ f ∈ L, ∀ o ∈ f.op, ∀ h, h < D.of.length → o.hd = (h : Int) + 1 → nth D.gn h = false
  c : ∀ f ∈ L, ∃ j, j < D.fl.length ∧ nth D.fl j = ky f ∧ nth D.ow j = f.pd
  e : ∀ j, j < D.fl.length → nth D.ow j = true → ∃ f ∈ L, ky f = nth D.fl j
  nd : ∀ i j, i < D.fl.length → j < D.fl.length → nth D.fl i = nth D.fl j → i = j
theorem DI.nil : DI 1 [] ⟨[], [], [], [], []⟩ :=
  ⟨rfl, rfl, rfl, rfl, fun h hh => absurd hh (Nat.not_lt_zero h), fun h hh => absurd hh (Nat.not_lt_zero h), fun f hf => (by cases hf), fun f hf => (by cases hf), fun h hh => absurd hh (Nat.not_lt_zero h), fun h _ hh => absurd hh (Nat.not_lt_zero h)⟩
theorem nth_app1 {α : Type} [Inhabited α] {l : List α} {x : α} {i : Nat} (h : i < l.length) : nth (l ++ [x]) i = nth l i := by
  simp only [nth, List.getD_eq_getElem?_getD, List.getElem?_append_left h]
theorem nth_app2 {α : Type} [Inhabited α] {l : List α} {x : α} {i : Nat} (h : i = l.length) : nth (l ++ [x]) i = x := by
  subst h
  simp only [nth, List.getD_eq_getElem?_getD, List.getElem?_concat_length, Option.getD_some]
theorem nth_set1 {α : Type} [Inhabited α] {l : List α} {x : α} {i : Nat} (h : i < l.length) : nth (l.set i x) i = x := by
  simp only [nth, List.getD_eq_getElem?_getD, List.getElem?_set_self h, Option.getD_some]
theorem nth_set2 {α : Type} [Inhabited α] {l : List α} {x : α} {i j : Nat} (h : i ≠ j) : nth (l.set i x) j = nth l j := by
  simp only [nth, List.getD_eq_getElem?_getD, List.getElem?_set_ne h]
theorem ky_lt_irr (a : Int × Int) : refLt a a = false := by simp [refLt]
/-- Files of a valid table with one name are one file. -/
theorem ky_eq {next : Int} {L : List Fil} (h : Ok next L) {i j : Nat} (hi : i < L.length) (hj : j < L.length) (he : ky (nth L i) = ky (nth L j)) : i = j := by
  have p := pw_nth.1 h.sr
  have irr := ky_lt_irr (ky (nth L j))
  rcases Nat.lt_trichotomy i j with h1 | h1 | h1
  · have h2 := p i j h1 hj
    rw [show ((nth L i).rc, (nth L i).sq) = ky (nth L j) from he] at h2
    rw [show ((nth L j).rc, (nth L j).sq) = ky (nth L j) from rfl, irr] at h2
    cases h2
  · exact h1
  · have h2 := p j i h1 hi
    rw [show ((nth L i).rc, (nth L i).sq) = ky (nth L j) from he] at h2
    rw [show ((nth L j).rc, (nth L j).sq) = ky (nth L j) from rfl, irr] at h2
    cases h2
/-- A handle of a valid table is in one file alone. -/
theorem hd_eq {next : Int} {L : List Fil} (h : Ok next L) {i j : Nat} (hi : i < L.length) (hj : j < L.length) {o p : Opn} (ho : o ∈ (nth L i).op) (hp : p ∈ (nth L j).op) (he : o.hd = p.hd) : i = j := by
  have q := pw_nth.1 h.ds
  rcases Nat.lt_trichotomy i j with h1 | h1 | h1
  · exact absurd he (q i j h1 hj o ho p hp)
  · exact h1
  · exact absurd he.symm (q j i h1 hi p hp o ho)
theorem hd_in {next : Int} {f : Fil} (h : FOk next f) {i j : Nat} (hi : i < f.op.length) (hj : j < f.op.length) (he : (nth f.op i).hd = (nth f.op j).hd) : i = j := by
  have q := pw_nth.1 h.hs
  rcases Nat.lt_trichotomy i j with h1 | h1 | h1
  · have := q i j h1 hj; omega
  · exact h1
  · have := q j i h1 hi; omega
theorem ky_eqm {next : Int} {L : List Fil} (h : Ok next L) {f g : Fil} (hf : f ∈ L) (hg : g ∈ L) (he : ky f = ky g) : f = g := by
  obtain ⟨i, hi, rfl⟩ := mem_nth_ex hf
  obtain ⟨j, hj, rfl⟩ := mem_nth_ex hg
  rw [ky_eq h hi hj he]
theorem hd_eqm {next : Int} {L : List Fil} (h : Ok next L) {f g : Fil} (hf : f ∈ L) (hg : g ∈ L) {o p : Opn} (ho : o ∈ f.op) (hp : p ∈ g.op) (he : o.hd = p.hd) : f = g ∧ o = p := by
  obtain ⟨i, hi, rfl⟩ := mem_nth_ex hf
  obtain ⟨j, hj, rfl⟩ := mem_nth_ex hg
  obtain rfl := hd_eq h hi hj ho hp he
  refine ⟨rfl, ?_⟩
  obtain ⟨k, hk, rfl⟩ := mem_nth_ex ho
  obtain ⟨m, hm, rfl⟩ := mem_nth_ex hp
  rw [hd_in (nth_Ok h hi) hk hm he]
/-- What is found. -/
theorem found {next : Int} {L : List Fil} (h : Ok next L) {hd : Int} (he : (findF L hd 0).2.2 = 0) : ∃ i k, findF L hd 0 = (i, k, 0) ∧ i < L.length ∧ k < (nth L i).op.length ∧ (nth (nth L i).op k).hd = hd := by
  obtain ⟨i, k, h1, h2, h3, h4⟩ := findF_spec he
  refine ⟨i, k, by simpa using h1, h2, h3, ?_⟩
  have h5 : ixB ((nth L i).op.map fun o => decide (o.hd = hd)) < ((nth L i).op.map fun o => decide (o.hd = hd)).length := by
    rw [List.length_map]; unfold ixO at h4; omega
  have h6 := ixB_at h5
  unfold ixO at h4
  rw [← h4, map_getD_nthB h3] at h6
  simpa using h6
theorem mem_set_ky {next : Int} {L : List Fil} (h : Ok next L) {i : Nat} (hi : i < L.length) {x : Fil} (g : Fil) : g ∈ L.set i x ↔ g = x ∨ (g ∈ L ∧ ky g ≠ ky (nth L i)) := by
  constructor
  · intro hg
    obtain ⟨j, hj, rfl⟩ := mem_nth_ex hg
    rw [List.length_set] at hj
    by_cases e : i = j
    · subst e; exact .inl (nth_set1 hi)
    · right
      rw [nth_set2 e]
      exact ⟨mem_nth hj, fun he => e (ky_eq h hj hi he).symm⟩
  · rintro (rfl | ⟨hg, hne⟩)
    · have : nth (L.set i g) i ∈ L.set i g := mem_nth (by rw [List.length_set]; exact hi)
      rwa [nth_set1 hi] at this
    · obtain ⟨j, hj, rfl⟩ := mem_nth_ex hg
      have e : i ≠ j := fun e => hne (by rw [e])
      have : nth (L.set i x) j ∈ L.set i x := mem_nth (by rw [List.length_set]; exact hj)
      rwa [nth_set2 e] at this
theorem mem_others {α : Type} [Inhabited α] {l : List α} {i : Nat} {y : α} : y ∈ others l i ↔ ∃ j, j < l.length ∧ j ≠ i ∧ nth l j = y := by
  unfold others
  rw [List.mem_append]
  constructor
  · rintro (h | h)
    · obtain ⟨j, h1, h2, h3⟩ := nth_mem_take h
      exact ⟨j, h2, by omega, h3⟩
    · obtain ⟨j, h1, h2, h3⟩ := nth_mem_drop h
      exact ⟨j, h2, by omega, h3⟩
  · rintro ⟨j, h1, h2, rfl⟩
    rcases Nat.lt_or_ge j i with h3 | h3
    · exact .inl (mem_take_of h3 h1)
    · right
      refine List.mem_iff_getElem?.2 ⟨j - (i + 1), ?_⟩
      rw [List.getElem?_drop, show i + 1 + (j - (i + 1)) = j by omega, nth_get h1]
theorem mem_others_ky {next : Int} {L : List Fil} (h : Ok next L) {i : Nat} (hi : i < L.length) (g : Fil) : g ∈ others L i ↔ (g ∈ L ∧ ky g ≠ ky (nth L i)) := by
  rw [mem_others]
  constructor
  · rintro ⟨j, hj, e, rfl⟩
    exact ⟨mem_nth hj, fun he => e (ky_eq h hj hi he)⟩
  · rintro ⟨hg, hne⟩
    obtain ⟨j, hj, rfl⟩ := mem_nth_ex hg
    exact ⟨j, hj, fun e => hne (by rw [e]), rfl⟩
theorem mem_ins {L : List Fil} {i : Nat} {x g : Fil} : g ∈ insAt L i x ↔ g = x ∨ g ∈ L := by
  constructor
  · exact ins_le g
  · unfold insAt
    rintro (rfl | h)
    · simp
    · rw [← List.take_append_drop i L] at h
      rcases List.mem_append.1 h with h | h
      · exact List.mem_append_left _ h
      · exact List.mem_append_right _ (List.mem_cons_of_mem _ h)
/-- What an opening does. -/
theorem open_mem {next : Int} {L : List Fil} (h : Ok next L) {rc sq : Int} {x : Opn} (he : (openT next L rc sq x).2.2.2 = 0) :
    (openT next L rc sq x).2.1 = next + 1 ∧ (openT next L rc sq x).2.2.1 = next ∧ ∃ f0 : Fil, f0.pd = false ∧ ky f0 = (rc, sq) ∧ ((f0 ∈ L) ∨ (f0.op = [] ∧ ∀ g ∈ L, ky g ≠ (rc, sq))) ∧ ∀ g, g ∈ (openT next L rc sq x).1 ↔ g = putO f0 x next ∨ (g ∈ L ∧ ky g ≠ (rc, sq)) := by
  unfold openT at he ⊢
  split at he
  · rename_i hz
    rw [if_pos hz]
    split at he
    · rename_i hb
      rw [if_pos hb]
      obtain ⟨hi, hk⟩ := (bsF_iff h).1 hb
      split at he
      · rename_i ho
        rw [if_pos ho]
        refine ⟨rfl, rfl, nth L (bsL (cmps L rc sq)), ?_, hk, .inl (mem_nth hi), fun g => ?_⟩
        · unfold oldE at ho
          split at ho
          · exact absurd ho (by decide)
          · simp_all
        · rw [show updF L (bsL (cmps L rc sq)) (fun f => putO f x next) = L.set (bsL (cmps L rc sq)) (putO (nth L (bsL (cmps L rc sq))) x next) from rfl, mem_set_ky h hi, ← hk]
          rfl
      · rename_i ho; exact absurd he ho
    · rename_i hb
      rw [if_neg hb]
      have hna := not_at h hb
      refine ⟨rfl, rfl, ⟨rc, sq, false, []⟩, rfl, rfl, .inr ⟨rfl, hna⟩, fun g => ?_⟩
      show g ∈ insAt _ _ _ ↔ _
      rw [mem_ins]
      constructor
      · rintro (h1 | h1)
        · exact .inl h1
        · exact .inr ⟨h1, hna g h1⟩
      · rintro (h1 | h1)
        · exact .inl h1
        · exact .inr h1.1
  · rename_i hz; exact absurd he hz
/-- What an act on a handle does: another file in the place of its file. -/
def Upd (L L' : List Fil) (f0 f1 : Fil) : Prop := f0 ∈ L ∧ ky f1 = ky f0 ∧ (∀ q ∈ f1.op, ∃ p ∈ f0.op, p.hd = q.hd ∧ p.dl = q.dl) ∧ (∀ p ∈ f0.op, ∃ q ∈ f1.op, q.hd = p.hd ∧ q.dl = p.dl) ∧ ∀ g, g ∈ L' ↔ g = f1 ∨ (g ∈ L ∧ ky g ≠ ky f0)
theorem mark_mem {next : Int} {L : List Fil} (h : Ok next L) {hd : Int} {d : Bool} (he : (markT L hd d).2 = 0) : ∃ f0 f1 : Fil, f1.pd = d ∧ (∃ o ∈ f0.op, o.hd = hd) ∧ Upd L (markT L hd d).1 f0 f1 := by
  unfold markT at he ⊢
  split at he
  · rename_i hz
    rw [if_pos hz]
    obtain ⟨i, k, e, hi, hk, hh⟩ := found h hz
    rw [e] at he ⊢
    dsimp only at he ⊢
    split at he
    · rename_i ha
      rw [if_pos ha]
      exact ⟨nth L i, { nth L i with pd := d }, rfl, ⟨_, mem_nth hk, hh⟩, mem_nth hi, rfl, fun q hq => ⟨q, hq, rfl, rfl⟩, fun q hq => ⟨q, hq, rfl, rfl⟩, fun g => mem_set_ky h hi g⟩
    · exact absurd he (by simp)
  · rename_i hz; exact absurd he hz
theorem updLk {next : Int} {L : List Fil} (h : Ok next L) {i k : Nat} (hi : i < L.length) (hk : k < (nth L i).op.length) (lk : List Lock) : Upd L (updO L i k fun o => { o with lk := lk }) (nth L i) { nth L i with op := (nth L i).op.set k { nth (nth L i).op k with lk := lk } } := by
  refine ⟨mem_nth hi, rfl, fun q hq => ?_, fun p hp => ?_, fun g => mem_set_ky h hi g⟩
  · rcases mem_set_or hq with rfl | h9
    · exact ⟨_, mem_nth hk, rfl, rfl⟩
    · exact ⟨q, h9, rfl, rfl⟩
  · obtain ⟨j, hj, rfl⟩ := mem_nth_ex hp
    by_cases e : k = j
    · subst e
      refine ⟨nth ((nth L i).op.set k { nth (nth L i).op k with lk := lk }) k, mem_nth (by rw [List.length_set]; exact hk), ?_⟩
      rw [nth_set1 hk]
      exact ⟨rfl, rfl⟩
    · refine ⟨nth ((nth L i).op.set k { nth (nth L i).op k with lk := lk }) j, mem_nth (by rw [List.length_set]; exact hj), ?_⟩
      rw [nth_set2 e]
      exact ⟨rfl, rfl⟩
theorem lock_mem {next : Int} {L : List Fil} (h : Ok next L) {hd : Int} {q : Lock} (he : (lockT L hd q).2 = 0) : ∃ f0 f1 : Fil, f1.pd = f0.pd ∧ (∃ o ∈ f0.op, o.hd = hd) ∧ Upd L (lockT L hd q).1 f0 f1 := by
  unfold lockT at he ⊢
  split at he
  · rename_i hz
    rw [if_pos hz]
    obtain ⟨i, k, e, hi, hk, hh⟩ := found h hz
    rw [e] at he ⊢
    dsimp only at he ⊢
    split at he
    · rename_i ha
      rw [if_pos ha]
      split at he
      · rename_i hb
        rw [if_pos hb]
        refine ⟨_, _, ?_, ⟨_, mem_nth hk, hh⟩, updLk h hi hk ((nth (nth L i).op k).lk ++ [q])⟩
        rfl
      · rename_i hb; exact absurd he hb
    · rename_i ha; exact absurd he ha
  · rename_i hz; exact absurd he hz
theorem unlock_mem {next : Int} {L : List Fil} (h : Ok next L) {hd fr cnt : Int} (he : (unlockT L hd fr cnt).2 = 0) : ∃ f0 f1 : Fil, f1.pd = f0.pd ∧ (∃ o ∈ f0.op, o.hd = hd) ∧ Upd L (unlockT L hd fr cnt).1 f0 f1 := by
  unfold unlockT at he ⊢
  split at he
  · rename_i hz
    rw [if_pos hz]
    obtain ⟨i, k, e, hi, hk, hh⟩ := found h hz
    rw [e] at he ⊢
    dsimp only at he ⊢
    split at he
    · rename_i ha
      rw [if_pos ha]
      split at he
      · rename_i hb
        rw [if_pos hb]
        refine ⟨_, _, ?_, ⟨_, mem_nth hk, hh⟩, updLk h hi hk (others (nth (nth L i).op k).lk (ixB ((nth (nth L i).op k).lk.map (eqK fr cnt))))⟩
        rfl
      · exact absurd he (by simp)
    · rename_i ha; exact absurd he ha
  · rename_i hz; exact absurd he hz
theorem may_mem {next : Int} {L : List Fil} (h : Ok next L) {hd : Int} {q : Lock} {n : Nat} {kp : Bool → Bool → Bool} (he : mayT L hd q n kp = 0) : ∃ f0 : Fil, (∃ o ∈ f0.op, o.hd = hd) ∧ Upd L L f0 f0 := by
  unfold mayT at he
  split at he
  · rename_i hz
    obtain ⟨i, k, e, hi, hk, hh⟩ := found h hz
    refine ⟨nth L i, ⟨_, mem_nth hk, hh⟩, mem_nth hi, rfl, fun q hq => ⟨q, hq, rfl, rfl⟩, fun q hq => ⟨q, hq, rfl, rfl⟩, fun g => ⟨fun hg => ?_, ?_⟩⟩
    · by_cases e : ky g = ky (nth L i)
      · exact .inl (ky_eqm h hg (mem_nth hi) e)
      · exact .inr ⟨hg, e⟩
    · rintro (rfl | h9)
      · exact mem_nth hi
      · exact h9.1
  · rename_i hz; exact absurd he hz
theorem close_mem {next : Int} {L : List Fil} (h : Ok next L) {hd : Int} (he : (closeT L hd).2.2 = 0) : ∃ f0 ∈ L, ∃ o ∈ f0.op, o.hd = hd ∧
    ((∃ f1 : Fil, ky f1 = ky f0 ∧ f1.pd = (f0.pd || o.dl) ∧ (∀ q, q ∈ f1.op ↔ q ∈ f0.op ∧ q.hd ≠ hd) ∧ (∃ q, q ∈ f1.op) ∧ (closeT L hd).2.1 = false ∧ ∀ g, g ∈ (closeT L hd).1 ↔ g = f1 ∨ (g ∈ L ∧ ky g ≠ ky f0)) ∨
     ((∀ q ∈ f0.op, q.hd = hd) ∧ (closeT L hd).2.1 = (f0.pd || o.dl) ∧ ∀ g, g ∈ (closeT L hd).1 ↔ (g ∈ L ∧ ky g ≠ ky f0))) := by
  unfold closeT at he ⊢
  split at he
  · rename_i hz
    rw [if_pos hz]
    obtain ⟨i, k, e, hi, hk, hh⟩ := found h hz
    rw [e] at he ⊢
    dsimp only at he ⊢
    have ho : ∀ q, q ∈ others (nth L i).op k ↔ q ∈ (nth L i).op ∧ q.hd ≠ hd := by
      intro q
      rw [mem_others]
      constructor
      · rintro ⟨j, hj, hjk, rfl⟩
        exact ⟨mem_nth hj, fun hq => hjk (hd_in (nth_Ok h hi) hj hk (hq.trans hh.symm))⟩
      · rintro ⟨hq, hne⟩
        obtain ⟨j, hj, rfl⟩ := mem_nth_ex hq
        exact ⟨j, hj, fun e => hne (by rw [e]; exact hh), rfl⟩
    refine ⟨nth L i, mem_nth hi, _, mem_nth hk, hh, ?_⟩
    by_cases hn : 0 < (closF (nth L i) k).op.length
    · rw [if_pos hn]
      exact .inl ⟨closF (nth L i) k, rfl, rfl, ho, ⟨_, mem_nth hn⟩, rfl, fun g => mem_set_ky h hi g⟩
    · rw [if_neg hn]
      refine .inr ⟨fun q hq => ?_, rfl, fun g => mem_others_ky h hi g⟩
      rcases Classical.em (q.hd = hd) with h9 | h9
      · exact h9
      · have h8 := (ho q).2 ⟨hq, h9⟩
        have h7 : (others (nth L i).op k).length = 0 := by
          have : (closF (nth L i) k).op = others (nth L i).op k := rfl
          rw [this] at hn; omega
        rw [List.length_eq_zero_iff] at h7
        rw [h7] at h8
        cases h8
  · rename_i hz; exact absurd he hz
/-- Where a handle stands in the count. -/
theorem DI.at {next : Int} {L : List Fil} {D : DS} (h : Ok next L) (d : DI next L D) {f : Fil} {o : Opn} (hf : f ∈ L) (ho : o ∈ f.op) : ∃ n, n < D.of.length ∧ o.hd = (n : Int) + 1 ∧ nth D.gn n = false ∧ ky f = nth D.fl (nth D.of n) ∧ o.dl = nth D.on n ∧ nth D.ow (nth D.of n) = f.pd := by
  have h1 := (h.fl f hf).hd o ho
  have h2 := d.nx
  have e : o.hd = (((o.hd - 1).toNat : Nat) : Int) + 1 := by omega
  have hn : (o.hd - 1).toNat < D.of.length := by omega
  have hg := d.b f hf o ho _ hn e
  obtain ⟨f', hf', o', ho', e1, e2, e3⟩ := d.a _ hn hg
  obtain ⟨rfl, rfl⟩ := hd_eqm h hf' hf ho' ho (e1.trans e.symm)
  obtain ⟨j, hj, e4, e5⟩ := d.c f' hf'
  have := d.nd _ _ hj (d.lt _ hn) (e4.trans e3)
  subst this
  exact ⟨_, hn, e, hg, e3, e2, e5⟩
theorem DI.upd {next : Int} {L L' : List Fil} {D : DS} {f0 f1 : Fil} {n : Nat} (h : Ok next L) (d : DI next L D) (u : Upd L L' f0 f1) (hn : n < D.of.length) (hk : ky f0 = nth D.fl (nth D.of n)) : DI next L' { D with ow := D.ow.set (nth D.of n) f1.pd } := by
  obtain ⟨u0, u1, u2, u3, u4⟩ := u
  have hj := d.lt n hn
  refine ⟨d.nx, d.l1, d.l2, by simp [d.l3], d.lt, fun k hk1 hk2 => ?_, fun f hf o ho k hk1 hk2 => ?_, fun f hf => ?_, fun j hj2 ht => ?_, d.nd⟩
  · obtain ⟨f, hf, o, ho, e1, e2, e3⟩ := d.a k hk1 hk2
    by_cases e : ky f = ky f0
    · obtain rfl := ky_eqm h hf u0 e
      obtain ⟨q, hq, q1, q2⟩ := u3 o ho
      exact ⟨f1, (u4 f1).2 (.inl rfl), q, hq, q1.trans e1, q2.trans e2, u1.trans e3⟩
    · exact ⟨f, (u4 f).2 (.inr ⟨hf, e⟩), o, ho, e1, e2, e3⟩
  · rcases (u4 f).1 hf with rfl | ⟨h9, _⟩
    · obtain ⟨p, hp, p1, p2⟩ := u2 o ho
      exact d.b f0 u0 p hp k hk1 (p1.trans hk2)
    · exact d.b f h9 o ho k hk1 hk2
  · rcases (u4 f).1 hf with rfl | ⟨h9, h8⟩
    · exact ⟨nth D.of n, hj, by rw [u1, hk], nth_set1 (by rw [d.l3]; exact hj)⟩
    · obtain ⟨j, hj2, e1, e2⟩ := d.c f h9
      refine ⟨j, hj2, e1, ?_⟩
      show nth (D.ow.set (nth D.of n) f1.pd) j = f.pd
      rw [nth_set2 (fun e => h8 (by rw [← e1, ← e, hk])), e2]
  · by_cases e : nth D.of n = j
    · subst e
      exact ⟨f1, (u4 f1).2 (.inl rfl), u1.trans hk⟩
    · change nth (D.ow.set (nth D.of n) f1.pd) j = true at ht
      rw [nth_set2 e] at ht
      obtain ⟨f, hf, e1⟩ := d.e j hj2 ht
      exact ⟨f, (u4 f).2 (.inr ⟨hf, fun e2 => e (d.nd _ _ hj hj2 (by rw [← hk, ← e2, e1]))⟩), e1⟩
theorem set_same {α : Type} [Inhabited α] {l : List α} {i : Nat} {x : α} (h : i < l.length) (e : nth l i = x) : l.set i x = l := by
  subst e
  apply List.ext_getElem?
  intro j
  by_cases e : i = j
  · subst e; rw [List.getElem?_set_self h, nth_get h]
  · rw [List.getElem?_set_ne e]
/-- Acts that leave who is open and what is marked. -/
theorem DI.same {next : Int} {L L' : List Fil} {D : DS} {f0 f1 : Fil} {hd : Int} (h : Ok next L) (d : DI next L D) (hp : f1.pd = f0.pd) (hx : ∃ o ∈ f0.op, o.hd = hd) (u : Upd L L' f0 f1) : (∃ n, n < D.of.length ∧ hd = (n : Int) + 1 ∧ nth D.gn n = false) ∧ DI next L' D := by
  obtain ⟨o, ho, rfl⟩ := hx
  obtain ⟨n, hn, e1, e2, e3, e4, e5⟩ := d.at h u.1 ho
  have h9 := d.upd h u hn e3
  rw [set_same (by rw [d.l3]; exact d.lt n hn) (by rw [e5, hp])] at h9
  exact ⟨⟨n, hn, e1, e2⟩, h9⟩
theorem DI.mark {next : Int} {L : List Fil} {D : DS} {hd : Int} {fl : Bool} (h : Ok next L) (d : DI next L D) (he : (markT L hd fl).2 = 0) : ∃ n, n < D.of.length ∧ hd = (n : Int) + 1 ∧ nth D.gn n = false ∧ DI next (markT L hd fl).1 { D with ow := D.ow.set (nth D.of n) fl } := by
  obtain ⟨f0, f1, hp, ⟨o, ho, rfl⟩, u⟩ := mark_mem h he
  obtain ⟨n, hn, e1, e2, e3, e4, e5⟩ := d.at h u.1 ho
  have h9 := d.upd h u hn e3
  rw [hp] at h9
  exact ⟨n, hn, e1, e2, h9⟩
theorem DI.open {next : Int} {L : List Fil} {D : DS} {rc sq : Int} {x : Opn} {j : Nat} (h : Ok next L) (d : DI next L D) (he : (openT next L rc sq x).2.2.2 = 0) (hj : j < D.fl.length) (hk : nth D.fl j = (rc, sq)) :
    (openT next L rc sq x).2.2.1 = (D.of.length : Int) + 1 ∧ nth D.ow j = false ∧ DI (openT next L rc sq x).2.1 (openT next L rc sq x).1 { D with of := D.of ++ [j], on := D.on ++ [x.dl], gn := D.gn ++ [false] } := by
  obtain ⟨o1, o2, f0, p0, k0, hin, hm⟩ := open_mem h he
  have hnx := d.nx
  rw [o1, o2]
  have hw : nth D.ow j = false := by
    cases hb : nth D.ow j with
    | false => rfl
    | true =>
      obtain ⟨f, hf, e⟩ := d.e j hj hb
      rcases hin with h1 | ⟨_, h1⟩
      · obtain ⟨j', hj', e1, e2⟩ := d.c f0 h1
        have := d.nd _ _ hj' hj (by rw [e1, k0, hk])
        subst this
        rw [hb, p0] at e2
        cases e2
      · exact absurd (e.trans hk) (h1 f hf)
  refine ⟨hnx, hw, ?_, by simp [d.l1], by simp [d.l2], d.l3, fun n hn => ?_, fun n hn hg => ?_, fun f hf o ho n hn e => ?_, fun f hf => ?_, fun i hi ht => ?_, d.nd⟩
  · show _ = ((D.of ++ [j]).length : Int) + 1
    rw [List.length_append, List.length_singleton]; omega
  · show nth (D.of ++ [j]) n < _
    simp only [List.length_append, List.length_singleton] at hn
    rcases Nat.lt_or_ge n D.of.length with h1 | h1
    · rw [nth_app1 h1]; exact d.lt n h1
    · rw [nth_app2 (by omega)]; exact hj
  · simp only [List.length_append, List.length_singleton] at hn
    change nth (D.gn ++ [false]) n = false at hg
    rcases Nat.lt_or_ge n D.of.length with h1 | h1
    · rw [nth_app1 (by rw [d.l2]; exact h1)] at hg
      obtain ⟨f, hf, o, ho, e1, e2, e3⟩ := d.a n h1 hg
      by_cases e : ky f = (rc, sq)
      · have : f = f0 := by
          rcases hin with h2 | ⟨_, h2⟩
          · exact ky_eqm h hf h2 (e.trans k0.symm)
          · exact absurd e (h2 f hf)
        subst this
        refine ⟨putO f x next, (hm _).2 (.inl rfl), o, List.mem_append_left _ ho, e1, ?_, ?_⟩
        · show _ = nth (D.on ++ [x.dl]) n
          rw [nth_app1 (by rw [d.l1]; exact h1)]; exact e2
        · show ky f = nth D.fl (nth (D.of ++ [j]) n)
          rw [nth_app1 h1]; exact e3
      · refine ⟨f, (hm _).2 (.inr ⟨hf, e⟩), o, ho, e1, ?_, ?_⟩
        · show _ = nth (D.on ++ [x.dl]) n
          rw [nth_app1 (by rw [d.l1]; exact h1)]; exact e2
        · show ky f = nth D.fl (nth (D.of ++ [j]) n)
          rw [nth_app1 h1]; exact e3
    · refine ⟨putO f0 x next, (hm _).2 (.inl rfl), { x with hd := next, lk := [] }, List.mem_append_right _ (List.mem_singleton.2 rfl), ?_, ?_, ?_⟩
      · show next = _; omega
      · show x.dl = nth (D.on ++ [x.dl]) n
        rw [nth_app2 (by rw [d.l1]; omega)]
      · show ky f0 = nth D.fl (nth (D.of ++ [j]) n)
        rw [nth_app2 (by omega), k0, hk]
  · show nth (D.gn ++ [false]) n = false
    simp only [List.length_append, List.length_singleton] at hn
    rcases Nat.lt_or_ge n D.of.length with h1 | h1
    · rw [nth_app1 (by rw [d.l2]; exact h1)]
      rcases (hm f).1 hf with rfl | ⟨h9, _⟩
      · rcases List.mem_append.1 ho with h8 | h8
        · rcases hin with h2 | ⟨h2, _⟩
          · exact d.b f0 h2 o h8 n h1 e
          · rw [h2] at h8; cases h8
        · rw [List.mem_singleton.1 h8] at e
          change next = _ at e
          omega
      · exact d.b f h9 o ho n h1 e
    · rw [nth_app2 (by rw [d.l2]; omega)]
  · rcases (hm f).1 hf with rfl | ⟨h9, _⟩
    · exact ⟨j, hj, by rw [hk, ← k0]; rfl, by rw [hw]; exact p0.symm⟩
    · exact d.c f h9
  · obtain ⟨f, hf, e⟩ := d.e i hi ht
    by_cases e2 : ky f = (rc, sq)
    · exact ⟨putO f0 x next, (hm _).2 (.inl rfl), by show ky f0 = _; rw [k0, ← e2]; exact e⟩
    · exact ⟨f, (hm f).2 (.inr ⟨hf, e2⟩), e⟩
/-- Whether another handle of the file is open. -/
def lft (of : List Nat) (gn : List Bool) (j k : Nat) : Nat := (List.range k).countP fun n => decide (nth of n = j) && !nth gn n
theorem lft_pos {of : List Nat} {gn : List Bool} {j k n : Nat} (h : n < k) (h1 : nth of n = j) (h2 : nth gn n = false) : ¬ lft of gn j k = 0 := by
  unfold lft
  rw [List.countP_eq_zero]
  intro hh
  exact absurd (hh n (List.mem_range.2 h)) (by simp [h1, h2])
theorem lft_zero {of : List Nat} {gn : List Bool} {j k : Nat} (h : ∀ n, n < k → nth of n = j → nth gn n = true) : lft of gn j k = 0 := by
  unfold lft
  rw [List.countP_eq_zero]
  intro n hn
  have := h n (List.mem_range.1 hn)
  by_cases e : nth of n = j
  · simp [this e]
  · simp [e]
theorem DI.close {next : Int} {L : List Fil} {D : DS} {hd : Int} (h : Ok next L) (d : DI next L D) (he : (closeT L hd).2.2 = 0) : ∃ n, n < D.of.length ∧ hd = (n : Int) + 1 ∧ nth D.gn n = false ∧
    (closeT L hd).2.1 = (decide (lft D.of (D.gn.set n true) (nth D.of n) D.of.length = 0) && (nth D.ow (nth D.of n) || nth D.on n)) ∧
    DI next (closeT L hd).1 { D with gn := D.gn.set n true, ow := D.ow.set (nth D.of n) (if lft D.of (D.gn.set n true) (nth D.of n) D.of.length = 0 then false else nth D.ow (nth D.of n) || nth D.on n) } := by
  obtain ⟨f0, hf0, o, ho, rfl, hc⟩ := close_mem h he
  obtain ⟨n, hn, e1, e2, e3, e4, e5⟩ := d.at h hf0 ho
  have hj := d.lt n hn
  have hjw : nth D.of n < D.ow.length := by rw [d.l3]; exact hj
  have hgl : n < D.gn.length := by rw [d.l2]; exact hn
  refine ⟨n, hn, e1, e2, ?_⟩
  rcases hc with ⟨f1, c1, c2, c3, ⟨q, hq⟩, c4, c5⟩ | ⟨c1, c2, c3⟩
  · have hq2 := (c3 q).1 hq
    obtain ⟨m, hm, q1, q2, q3, q4, q5⟩ := d.at h hf0 hq2.1
    have hmn : n ≠ m := fun e => hq2.2 (by rw [q1, e1, e])
    have hof : nth D.of m = nth D.of n := d.nd _ _ (d.lt m hm) hj (by rw [← q3, e3])
    have hl := lft_pos (gn := D.gn.set n true) hm hof (by rw [nth_set2 hmn]; exact q2)
    rw [if_neg hl, c4]
    refine ⟨by simp [hl], d.nx, d.l1, by simp [d.l2], by simp [d.l3], d.lt, fun k hk hg => ?_, fun f hf p hp k hk e => ?_, fun f hf => ?_, fun i hi ht => ?_, d.nd⟩
    · change nth (D.gn.set n true) k = false at hg
      have hnk : n ≠ k := fun e => by subst e; rw [nth_set1 hgl] at hg; cases hg
      rw [nth_set2 hnk] at hg
      obtain ⟨f, hf, p, hp, p1, p2, p3⟩ := d.a k hk hg
      by_cases e : ky f = ky f0
      · obtain rfl := ky_eqm h hf hf0 e
        exact ⟨f1, (c5 f1).2 (.inl rfl), p, (c3 p).2 ⟨hp, by rw [p1, e1]; omega⟩, p1, p2, c1.trans p3⟩
      · exact ⟨f, (c5 f).2 (.inr ⟨hf, e⟩), p, hp, p1, p2, p3⟩
    · show nth (D.gn.set n true) k = false
      rcases (c5 f).1 hf with rfl | ⟨h9, h8⟩
      · have h7 := (c3 p).1 hp
        rw [nth_set2 (fun e' => h7.2 (by rw [e, e1, e']))]
        exact d.b f0 hf0 p h7.1 k hk e
      · rw [nth_set2 (fun e' => h8 (by rw [(hd_eqm h h9 hf0 hp ho (by rw [e, e1, e'])).1]))]
        exact d.b f h9 p hp k hk e
    · rcases (c5 f).1 hf with rfl | ⟨h9, h8⟩
      · exact ⟨nth D.of n, hj, by rw [c1, e3], by show nth (D.ow.set _ _) _ = _; rw [nth_set1 hjw, c2, e5, e4]⟩
      · obtain ⟨i, hi, i1, i2⟩ := d.c f h9
        exact ⟨i, hi, i1, by show nth (D.ow.set _ _) _ = _; rw [nth_set2 (fun e => h8 (by rw [← i1, ← e, e3]))]; exact i2⟩
    · change nth (D.ow.set _ _) i = true at ht
      by_cases e : nth D.of n = i
      · exact ⟨f1, (c5 f1).2 (.inl rfl), by rw [c1, e3, e]⟩
      · rw [nth_set2 e] at ht
        obtain ⟨f, hf, f1e⟩ := d.e i hi ht
        exact ⟨f, (c5 f).2 (.inr ⟨hf, fun e' => e (d.nd _ _ hj hi (by rw [← e3, ← e', f1e]))⟩), f1e⟩
  · have hl : lft D.of (D.gn.set n true) (nth D.of n) D.of.length = 0 := by
      refine lft_zero fun k hk hof => ?_
      by_cases e : n = k
      · subst e; exact nth_set1 hgl
      · rw [nth_set2 e]
        cases hg : nth D.gn k with
        | true => rfl
        | false =>
          obtain ⟨f, hf, p, hp, p1, p2, p3⟩ := d.a k hk hg
          obtain rfl := ky_eqm h hf hf0 (by rw [p3, hof, e3])
          have := c1 p hp
          rw [p1, e1] at this
          omega
    rw [if_pos hl, c2]
    refine ⟨by simp [hl, e4, e5], d.nx, d.l1, by simp [d.l2], by simp [d.l3], d.lt, fun k hk hg => ?_, fun f hf p hp k hk e => ?_, fun f hf => ?_, fun i hi ht => ?_, d.nd⟩
    · change nth (D.gn.set n true) k = false at hg
      have hnk : n ≠ k := fun e => by subst e; rw [nth_set1 hgl] at hg; cases hg
      rw [nth_set2 hnk] at hg
      obtain ⟨f, hf, p, hp, p1, p2, p3⟩ := d.a k hk hg
      refine ⟨f, (c3 f).2 ⟨hf, fun e => ?_⟩, p, hp, p1, p2, p3⟩
      obtain rfl := ky_eqm h hf hf0 e
      have := c1 p hp
      rw [p1, e1] at this
      omega
    · show nth (D.gn.set n true) k = false
      obtain ⟨h9, h8⟩ := (c3 f).1 hf
      rw [nth_set2 (fun e' => h8 (by rw [(hd_eqm h h9 hf0 hp ho (by rw [e, e1, e'])).1]))]
      exact d.b f h9 p hp k hk e
    · obtain ⟨h9, h8⟩ := (c3 f).1 hf
      obtain ⟨i, hi, i1, i2⟩ := d.c f h9
      exact ⟨i, hi, i1, by show nth (D.ow.set _ _) _ = _; rw [nth_set2 (fun e => h8 (by rw [← i1, ← e, e3]))]; exact i2⟩
    · change nth (D.ow.set _ _) i = true at ht
      by_cases e : nth D.of n = i
      · subst e
        rw [nth_set1 hjw] at ht
        cases ht
      · rw [nth_set2 e] at ht
        obtain ⟨f, hf, f1e⟩ := d.e i hi ht
        exact ⟨f, (c3 f).2 ⟨hf, fun e' => e (d.nd _ _ hj hi (by rw [← e3, ← e', f1e]))⟩, f1e⟩
theorem may_same {next : Int} {L : List Fil} {D : DS} {hd : Int} {q : Lock} {n : Nat} {kp : Bool → Bool → Bool} (h : Ok next L) (d : DI next L D) (he : mayT L hd q n kp = 0) : (∃ n, n < D.of.length ∧ hd = (n : Int) + 1 ∧ nth D.gn n = false) ∧ DI next L D := by
  obtain ⟨f0, hx, u⟩ := may_mem h he
  exact d.same h rfl hx u
theorem DI.act {next : Int} {L : List Fil} {D : DS} {a : HAct} (h : Ok next L) (d : DI next L D) (hk : ¬ a.kd = 0) (hk6 : 0 ≤ a.kd ∧ a.kd ≤ 6) (he : (doT next L a).2.2.2 = 0) : ∃ n, n < D.of.length ∧ a.hd = (n : Int) + 1 ∧ nth D.gn n = false ∧
    (¬ a.kd = 1 → ¬ a.kd = 2 → DI (doT next L a).2.1 (doT next L a).1 D) ∧
    (a.kd = 2 → DI (doT next L a).2.1 (doT next L a).1 { D with ow := D.ow.set (nth D.of n) a.fl }) ∧
    (a.kd = 1 → (doT next L a).2.2.1 = (if (decide (lft D.of (D.gn.set n true) (nth D.of n) D.of.length = 0) && (nth D.ow (nth D.of n) || nth D.on n)) = true then 1 else 0) ∧
      DI (doT next L a).2.1 (doT next L a).1 { D with gn := D.gn.set n true, ow := D.ow.set (nth D.of n) (if lft D.of (D.gn.set n true) (nth D.of n) D.of.length = 0 then false else nth D.ow (nth D.of n) || nth D.on n) }) := by
  unfold doT at he ⊢
  rw [if_neg hk] at he ⊢
  by_cases h1 : a.kd = 1
  · rw [if_pos h1] at he ⊢
    obtain ⟨n, n1, n2, n3, n4, n5⟩ := d.close h he
    exact ⟨n, n1, n2, n3, fun e => absurd h1 e, fun e => by omega, fun _ => ⟨by rw [← n4], n5⟩⟩
  rw [if_neg h1] at he ⊢
  by_cases h2 : a.kd = 2
  · rw [if_pos h2] at he ⊢
    obtain ⟨n, n1, n2, n3, n4⟩ := d.mark h he
    exact ⟨n, n1, n2, n3, fun _ e => absurd h2 e, fun _ => n4, fun e => absurd e h1⟩
  rw [if_neg h2] at he ⊢
  by_cases h3 : a.kd = 3
  · rw [if_pos h3] at he ⊢
    obtain ⟨f0, f1, hp, hx, u⟩ := lock_mem h he
    obtain ⟨⟨n, n1, n2, n3⟩, n4⟩ := d.same h hp hx u
    exact ⟨n, n1, n2, n3, fun _ _ => n4, fun e => absurd e h2, fun e => absurd e h1⟩
  rw [if_neg h3] at he ⊢
  by_cases h4 : a.kd = 4
  · rw [if_pos h4] at he ⊢
    obtain ⟨f0, f1, hp, hx, u⟩ := unlock_mem h he
    obtain ⟨⟨n, n1, n2, n3⟩, n4⟩ := d.same h hp hx u
    exact ⟨n, n1, n2, n3, fun _ _ => n4, fun e => absurd e h2, fun e => absurd e h1⟩
  rw [if_neg h4] at he ⊢
  by_cases h5 : a.kd = 5
  · rw [if_pos h5] at he ⊢
    obtain ⟨⟨n, n1, n2, n3⟩, n4⟩ := may_same h d he
    exact ⟨n, n1, n2, n3, fun _ _ => n4, fun e => absurd e h2, fun e => absurd e h1⟩
  rw [if_neg h5] at he ⊢
  have h6 : a.kd = 6 := by omega
  rw [if_pos h6] at he ⊢
  obtain ⟨⟨n, n1, n2, n3⟩, n4⟩ := may_same h d he
  exact ⟨n, n1, n2, n3, fun _ _ => n4, fun e => absurd e h2, fun e => absurd e h1⟩
end Go.Proofs

namespace Go.Proofs
open Go Go.RowKit Gx
set_option linter.unusedVariables false
set_option linter.unusedSimpArgs false
attribute [local irreducible] Go.Calls Gx.S Gx.O Gx.D Gx.OpP Gx.OpQ Gx.OpH

def kyV (p : Int × Int) : List Value := [.int .i64 p.1, .int .i64 p.2]
def boV (b : Bool) : List Value := [.bool b]
def naV (n : Nat) : List Value := [.int .i64 (n : Int)]
structure DA where
  fa : Option Addr
  fc : Nat
  wa : Option Addr
  wc : Nat
  na : Option Addr
  nc : Nat
  ga : Option Addr
  gc : Nat
  oa : Option Addr
  oc : Nat
  nf : Nat
  nn : Nat
section
variable {w0 w : World} {M : List Nat} {As As' : List HA} {a : Option Addr} {cap n t sz g : Nat} {xs : List Value}
end
end Go.Proofs

/- Chapter 25, plain: a handle opened on a file that nobody has open, another one beside it, and closed again. No program here. -/
namespace Go.Proofs
open Go Go.RowKit Gx
set_option linter.unusedVariables false
set_option linter.unusedSimpArgs false
theorem others_ins {α : Type} {l : List α} {i : Nat} {x : α} (h : i ≤ l.length) : others (insAt l i x) i = l := by
  have e : (l.take i).length = i := by rw [List.length_take]; omega
  unfold others insAt
  apply List.ext_getElem?
  intro j
  simp only [List.getElem?_append, List.getElem?_take, List.getElem?_drop, List.length_append, List.length_take, List.length_cons, List.length_drop, List.getElem?_cons]
  grind
theorem open_new {next : Int} {L : List Fil} {rc sq : Int} {x : Opn} (h : Ok next L) (hr : refE rc sq = 0) (hn : ¬ bsF' (cmps L rc sq) = true) (hc : cntT L ≤ 30) (hx : next ≤ 2147483642) (ho : openE x.ac x.sh = 0) :
    openT next L rc sq x = (insAt L (bsL (cmps L rc sq)) (putO ⟨rc, sq, false, []⟩ x next), next + 1, next, 0) := by
  have hz : opnE next L rc sq x = 0 := by rw [opnE, if_pos hr, if_pos ho, if_pos (by omega)]
  rw [openT, if_pos hz, if_neg hn]
theorem sym {next : Int} {L : List Fil} {rc sq : Int} {x y : Opn} (h : Ok next L) (hr : refE rc sq = 0) (hn : ¬ bsF' (cmps L rc sq) = true) (hc : cntT L ≤ 30) (hx : next ≤ 2147483642) (ho : openE x.ac x.sh = 0) (hp : openE y.ac y.sh = 0) :
    ∃ L1, openR next L rc sq x = ((L1, next + 1), next, 0) ∧ (openR (next + 1) L1 rc sq y).2.2 = (if cfl x y = true then 28 else 0) ∧ closeR (next + 1) L1 next = ((L, next + 1), x.dl, 0) := by
  have e1 := open_new h hr hn hc hx ho
  have h1 := open_ok (rc := rc) (sq := sq) (x := x) h
  rw [e1] at h1
  dsimp only at h1
  obtain ⟨p1, _, _⟩ := place_spec (rc := rc) (sq := sq) h
  have hN := ins_nth (x := putO ⟨rc, sq, false, []⟩ x next) p1
  have hil : bsL (cmps L rc sq) < (insAt L (bsL (cmps L rc sq)) (putO ⟨rc, sq, false, []⟩ x next)).length := by rw [ins_len p1]; omega
  refine ⟨insAt L (bsL (cmps L rc sq)) (putO ⟨rc, sq, false, []⟩ x next), ?_, ?_, ?_⟩
  · rw [openR_0 (ok_chk h) (by rw [e1]), e1]
  · have hb : bsF' (cmps (insAt L (bsL (cmps L rc sq)) (putO ⟨rc, sq, false, []⟩ x next)) rc sq) = true := by
      rcases Classical.em (bsF' (cmps (insAt L (bsL (cmps L rc sq)) (putO ⟨rc, sq, false, []⟩ x next)) rc sq) = true) with h9 | h9
      · exact h9
      · exact absurd rfl (not_at h1 h9 (putO ⟨rc, sq, false, []⟩ x next) (by have := mem_nth hil; rwa [hN] at this))
    obtain ⟨hi, hk⟩ := (bsF_iff h1).1 hb
    have hj := ky_eq h1 hi hil (by rw [hN]; exact hk)
    have hz : opnE (next + 1) (insAt L (bsL (cmps L rc sq)) (putO ⟨rc, sq, false, []⟩ x next)) rc sq y = 0 := by
      rw [opnE, if_pos hr, if_pos hp, if_pos]
      rw [cnt_ins]
      simp only [putO, List.nil_append, List.length_singleton]
      omega
    have hol : oldE (putO ⟨rc, sq, false, []⟩ x next) y = if cfl x y = true then 28 else 0 := by
      unfold oldE putO
      simp only [List.nil_append, List.any_cons, List.any_nil, Bool.or_false]
      rw [if_neg (by simp), cfl_comm x y]
      rfl
    have he : (openT (next + 1) (insAt L (bsL (cmps L rc sq)) (putO ⟨rc, sq, false, []⟩ x next)) rc sq y).2.2.2 = if cfl x y = true then 28 else 0 := by
      rw [openT, if_pos hz, if_pos hb, hj, hN, hol]
      split
      · rfl
      · rfl
    rw [openR, if_pos (ok_chk h1), he]
    split
    · rfl
    · rfl
  · have hf := find_at (k := 0) h1 hil (by rw [hN]; simp [putO])
    rw [hN] at hf
    change findF _ next 0 = _ at hf
    have ht : closeT (insAt L (bsL (cmps L rc sq)) (putO ⟨rc, sq, false, []⟩ x next)) next = (L, x.dl, 0) := by
      rw [closeT, hf]
      dsimp only
      rw [if_pos rfl, hN, if_neg (by simp [closF, putO, others]), others_ins p1]
      simp [closF, putO, nth]
    rw [closeR_0 (ok_chk h1) (by rw [ht]), ht]
end Go.Proofs

