/- Contracts of the program's functions, proved by walking them with the rules of the Gx texts; without conditions beyond those that each contract names. -/
import Derived.WalkKit
import Derived.Deep.Draws
import Derived.Lib.Strings
import Derived.Laws.BytesArg
import Derived.Laws.IdiomStrings
import Derived.Deep.Quiet
import Derived.Laws.StructEq
import Derived.ChangeKeysEq
import Derived.Laws.Externs
import Derived.Lib.Overlaps
import Derived.Carry
import Derived.Laws.Small
import Derived.Test.YtgdigngojonbhaaProg
import Derived.KernelRfl
import Derived.ProofKit
import Derived.OpenShut
import Derived.Test.YtgdigngojonbhaaP4
namespace Go.Proofs
open Go Go.RowKit Gx
set_option linter.unusedVariables false
set_option linter.unusedSimpArgs false
attribute [local irreducible] Go.Calls Gx.S Gx.O Gx.D Gx.OpP Gx.OpQ Gx.OpH

theorem sl_36 : tsl Try.prog 36 = some (42, 2, 16) := by kernel_rfl
theorem sl_37 : tsl Try.prog 37 = some (4, 1, 1) := by kernel_rfl
theorem zr_4 : tzero Try.prog 4 = some [.bool false] := by kernel_rfl


def kyV (p : Int × Int) : List Value := [.int .i64 p.1, .int .i64 p.2]
def boV (b : Bool) : List Value := [.bool b]
def naV (n : Nat) : List Value := [.int .i64 (n : Int)]
structure DA where
  fa : Option Addr
  fc : Nat
  wa : Option Addr
  wc : Nat
  na : Option Addr
  nc : Nat
  ga : Option Addr
  gc : Nat
  oa : Option Addr
  oc : Nat
  nf : Nat
  nn : Nat
section
variable {w0 w : World} {M : List Nat} {As As' : List HA} {a : Option Addr} {cap n t sz g : Nat} {xs : List Value}
theorem HS.own_to (h : HS w0 M As w) (hp : Pick As (.own (.slice a n cap) t sz n xs) As') (hn : 0 < n) (ha : a = some ⟨g, 0, none⟩) : HS w0 M (.blk g t (cap * sz) xs :: As') w := by
  obtain ⟨g', e, _, _, _, _, h2⟩ := HS.own_blk hn hp h
  rw [ha] at e
  injection e with e
  injection e with e
  subst e
  exact h2
theorem HS.to_own1 {n' : Nat} (h : HS w0 M As w) (hp : Pick As (.blk g t (cap * sz) xs) As') (ha : a = some ⟨g, 0, none⟩) (hl : xs.length = n * sz) (hn : n ≤ cap) (hc : cap ≤ maxLen) : HS w0 M (.own (.slice a n cap) t sz n xs :: As') w := by
  subst ha
  exact HS.own_shut (h.pick hp) hl hn hc
end
theorem set_fl {α : Type} [Inhabited α] {f : α → Value} {l : List α} {i : Nat} {x : α} (h : i < l.length) : setMany (l.flatMap fun b => [f b]) (i * 1) [f x] = (l.set i x).flatMap fun b => [f b] := by
  have h9 := flat_set (vals := fun b => [f b]) (sz := 1) (fun _ => rfl) l i 0 [f x] (nth l i) x (nth_get h) rfl (by simp)
  simpa using h9
theorem bo_len {l : List Bool} : (l.flatMap boV).length = l.length * 1 := flat_length (vals := boV) (sz := 1) (fun _ => rfl) l
theorem set_bo {l : List Bool} {i : Nat} {x : Bool} (h : i < l.length) : setMany (l.flatMap boV) (i * 1) [.bool x] = (l.set i x).flatMap boV := set_fl (f := .bool) h
theorem set_boE {l : List Bool} {i : Nat} {x y : Bool} (h : i < l.length) (e : y = x) : setMany (l.flatMap boV) (i * 1) [.bool y] = (l.set i x).flatMap boV := by subst e; exact set_bo h
theorem set_bo2 {l : List Bool} {i : Nat} {x y : Bool} (h : i < l.length) : setMany ((l.set i y).flatMap boV) (i * 1) [.bool x] = (l.set i x).flatMap boV := by
  rw [set_bo (by rw [List.length_set]; exact h), List.set_set]

set_option maxRecDepth 20000 in
set_option maxHeartbeats 4000000 in
theorem c4 (w : World) (a : Option Addr) (cap : Nat) (l : List HAct) (hs : Rw HAct.vals 9 w [] a l) : Calls Try.prog 4 #[.slice a l.length cap] w fun en w' => en = .returned (.bool true) ∧ Below w.heap.size w w' := by
  refine enter (args := [_]) Try.func4 Try.ntmps4 rfl rfl (HS.refl w []) ?_
  refine s_seq ?_
  refine s_region ?_
  refine o_p (p_pure rfl) rfl ?_
  refine o_nil ?_
  refine s_seq ?_
  refine s_seq ?_
  refine s_region ?_
  refine o_q (q_call rfl fn_11 rfl (fun w1 h1 => c11 w1)) rfl ?_
  refine o_p (p_pure rfl) rfl ?_
  refine o_nil ?_
  refine s_cond rfl (fun h1 => ?_) (fun h1 => ?_)
  · try simp only [decide_eq_true_eq, decide_eq_false_iff_not, Bool.not_eq_true', Bool.not_eq_false', Bool.and_eq_true, Bool.or_eq_true, Bool.and_eq_false_iff, Bool.or_eq_false_iff, Bool.not_true, Bool.not_false] at h1
    exfalso; first | omega | (simp at h1; done) | (simp_all; done)
  · try simp only [decide_eq_true_eq, decide_eq_false_iff_not, Bool.not_eq_true', Bool.not_eq_false', Bool.and_eq_true, Bool.or_eq_true, Bool.and_eq_false_iff, Bool.or_eq_false_iff, Bool.not_true, Bool.not_false] at h1
    refine s_skip ?_
    refine s_seq ?_
    refine s_seq ?_
    refine s_region ?_
    refine o_p (p_pure rfl) rfl ?_
    refine o_p (p_len_slice rfl rfl Try.underlying22) rfl ?_
    refine o_p (p_pure rfl) rfl ?_
    refine o_nil ?_
    refine s_cond rfl (fun h2 => ?_) (fun h2 => ?_)
    · try simp only [decide_eq_true_eq, decide_eq_false_iff_not, Bool.not_eq_true', Bool.not_eq_false', Bool.and_eq_true, Bool.or_eq_true, Bool.and_eq_false_iff, Bool.or_eq_false_iff, Bool.not_true, Bool.not_false] at h2
      refine s_seq ?_
      refine s_region ?_
      refine o_p (p_pure rfl) rfl ?_
      refine o_nil ?_
      exact s_retv (rs := [.tmp 2]) rfl (.tmp rfl (.nil)) (fun w' h' => ⟨by rfl, h'.below⟩)
    · try simp only [decide_eq_true_eq, decide_eq_false_iff_not, Bool.not_eq_true', Bool.not_eq_false', Bool.and_eq_true, Bool.or_eq_true, Bool.and_eq_false_iff, Bool.or_eq_false_iff, Bool.not_true, Bool.not_false] at h2
      have hl60 : l.length ≤ 60 := by have hq := h2; omega
      refine s_skip ?_
      refine s_seq ?_
      refine s_region ?_
      refine o_h (h_buildSlice0 rfl sl_22) rfl (fun b3 _ => ?_)
      refine o_p (p_pure rfl) rfl ?_
      refine o_h (h_appendS (n := 0) (l.flatMap HAct.vals) rfl rfl rfl sl_22 Try.underlying22 zr_44 rfl aPk (fun w h => Rw.src hv9 hs h) (flat_length hv9 _) (flat_one hv1 _) (by omega) (by simp only [maxLen]; omega)) rfl (fun b4 _ => ?_)
      simp only [Nat.zero_add, List.nil_append]
      refine o_h (h_call rfl fn_12 rfl (fun w1 h1 => c12 w1 b4.1 b4.2 l (h1.rw_own hv9 aPk rfl) (by omega))) rfl (fun ⟨⟨⟨ta, tc⟩, N⟩, o⟩ hN => ?_)
      dsimp only at hN ⊢
      refine o_p (p_pure rfl) rfl ?_
      refine o_p (p_pure rfl) rfl ?_
      refine o_p (p_pure rfl) rfl ?_
      refine o_p (p_pure rfl) rfl ?_
      refine o_h (h_alloc rfl zr_26) rfl (fun b5 _ => ?_)
      refine o_h0 (h_store rfl rfl rfl sz_26 rfl aPt (by simp only [setMany_length, List.length_set, List.length_cons, List.length_nil, List.length_map]; omega) rfl) (fun _ _ => ?_)
      refine o_p (p_pure rfl) rfl ?_
      refine o_p (p_pure rfl) rfl ?_
      refine o_nil ?_
      refine s_seq ?_
      refine s_seq ?_
      refine s_region ?_
      refine o_p (p_pure rfl) rfl ?_
      refine o_p (p_pure rfl) rfl ?_
      refine o_nil ?_
      refine s_cond rfl (fun h6 => ?_) (fun h6 => ?_)
      · try simp only [decide_eq_true_eq, decide_eq_false_iff_not, Bool.not_eq_true', Bool.not_eq_false', Bool.and_eq_true, Bool.or_eq_true, Bool.and_eq_false_iff, Bool.or_eq_false_iff, Bool.not_true, Bool.not_false] at h6
        have hre : ¬ runE l = 0 := h6
        have hr15 := runE_15 hl60 hre
        refine s_seq ?_
        refine s_region ?_
        refine o_p (p_pure rfl) rfl ?_
        refine o_p (p_pure rfl) rfl ?_
        refine o_p (p_pure rfl) rfl ?_
        refine o_nil ?_
        exact s_retv (rs := [.tmp 2]) rfl (.tmp rfl (.nil)) (fun w' h' => ⟨by rw [hr15]; rfl, h'.below⟩)
      · try simp only [decide_eq_true_eq, decide_eq_false_iff_not, Bool.not_eq_true', Bool.not_eq_false', Bool.and_eq_true, Bool.or_eq_true, Bool.and_eq_false_iff, Bool.or_eq_false_iff, Bool.not_true, Bool.not_false] at h6
        have hre : runE l = 0 := h6
        have hrr := runR_0 hre
        have hrl := runS_len l
        refine s_skip ?_
        refine s_seq ?_
        refine s_seq ?_
        refine s_region ?_
        refine o_p (p_pure rfl) rfl ?_
        refine o_p (p_len_slice rfl rfl Try.underlying27) rfl ?_
        refine o_p (p_pure rfl) rfl ?_
        refine o_p (p_len_slice rfl rfl Try.underlying22) rfl ?_
        refine o_p (p_pure rfl) rfl ?_
        refine o_nil ?_
        refine s_cond rfl (fun h7 => ?_) (fun h7 => ?_)
        · try simp only [decide_eq_true_eq, decide_eq_false_iff_not, Bool.not_eq_true', Bool.not_eq_false', Bool.and_eq_true, Bool.or_eq_true, Bool.and_eq_false_iff, Bool.or_eq_false_iff, Bool.not_true, Bool.not_false] at h7
          exfalso; have hq := h7; rw [hrr, runS_len] at hq; simp at hq
        · try simp only [decide_eq_true_eq, decide_eq_false_iff_not, Bool.not_eq_true', Bool.not_eq_false', Bool.and_eq_true, Bool.or_eq_true, Bool.and_eq_false_iff, Bool.or_eq_false_iff, Bool.not_true, Bool.not_false] at h7
          refine s_skip ?_
          refine s_seq ?_
          refine s_region ?_
          refine o_p (p_pure rfl) rfl ?_
          refine o_nil ?_
          refine s_seq ?_
          refine s_region ?_
          refine o_p (p_pure rfl) rfl ?_
          refine o_p (p_pure rfl) rfl ?_
          refine o_p (p_pure rfl) rfl ?_
          refine o_nil ?_
          refine s_seq ?_
          refine s_region ?_
          refine o_p (p_pure rfl) rfl ?_
          refine o_nil ?_
          refine s_seq ?_
          refine s_seq ?_
          refine s_weaken (L' := [(0, _), (2, _), (4, _), (6, _), (7, _), (8, _), (9, _), (10, _)]) aSx (fun _ h => h) ?_
          refine s_region ?_
          refine o_p (p_pure rfl) rfl ?_
          refine o_nil ?_
          refine s_block ?_
          refine s_loopI (α := Nat × DS × DA) [2, 6, 7, 8, 9, 10, 11, 12, 13, 14, 15, 16, 39, 40, 41, 42, 43, 44, 45, 46, 47, 48, 49, 50, 51, 52, 53, 54, 55, 56, 57, 58, 59, 60, 61, 62, 63, 64, 65, 66, 67, 68, 69, 70, 71, 72, 73, 74, 75, 76, 77, 78, 79, 80, 81, 82, 83, 84, 85, 86, 87, 88, 89, 90, 91, 92, 93, 94, 95, 96, 97, 98, 99, 100, 101, 102, 103, 104, 105, 106, 107, 108, 109, 110, 111, 112, 113, 114, 115, 116, 117, 118, 119, 120, 121, 122, 123, 124, 125, 126, 127, 128, 129, 130, 131, 132, 133, 134, 135, 136, 137, 138, 139, 140, 141, 142, 143, 144, 145, 146, 147, 148, 149, 150, 151, 152, 153, 154, 155, 156, 157, 158, 159, 160, 161, 162, 163, 164, 165, 166, 167, 168, 169, 170, 171, 172, 173, 174, 175, 176, 177, 178, 179, 180, 181, 182, 183, 184, 185, 186, 187, 188, 189, 190, 191, 192, 193, 194, 195, 196, 197, 198, 199, 200, 201, 202, 203, 204, 205, 206, 207, 208, 209, 210, 211, 212, 213, 214, 215, 216, 217, 218, 219, 220, 221, 222, 223, 224, 225, 226, 227, 228, 229] (fun y => [(11, .int .i64 (y.1 : Int)), (6, .slice y.2.2.fa y.2.2.nf y.2.2.fc), (7, .slice y.2.2.wa y.2.2.nf y.2.2.wc), (8, .slice y.2.2.na y.2.2.nn y.2.2.nc), (9, .slice y.2.2.ga y.2.2.nn y.2.2.gc), (10, .slice y.2.2.oa y.2.2.nn y.2.2.oc)]) (fun y => HS w [] [.own (.slice o.1 (runR l).2.length o.2) 40 2 (runR l).2.length ((runR l).2.flatMap ansV), .own (.slice y.2.2.fa y.2.2.nf y.2.2.fc) 42 2 y.2.2.nf (y.2.1.fl.flatMap kyV), .own (.slice y.2.2.wa y.2.2.nf y.2.2.wc) 4 1 y.2.2.nf (y.2.1.ow.flatMap boV), .own (.slice y.2.2.na y.2.2.nn y.2.2.nc) 4 1 y.2.2.nn (y.2.1.on.flatMap boV), .own (.slice y.2.2.ga y.2.2.nn y.2.2.gc) 4 1 y.2.2.nn (y.2.1.gn.flatMap boV), .own (.slice y.2.2.oa y.2.2.nn y.2.2.oc) 3 1 y.2.2.nn (y.2.1.of.flatMap naV)]) (fun y => y.1 ≤ l.length ∧ DI (runS (l.take y.1)).1.2 (runS (l.take y.1)).1.1 y.2.1 ∧ y.2.2.nf = y.2.1.fl.length ∧ y.2.2.nn = y.2.1.of.length ∧ y.2.2.nn ≤ y.1 ∧ y.2.2.nf ≤ y.1) (fun y => l.length - y.1) (0, ⟨[], [], [], [], []⟩, ⟨none, 0, none, 0, none, 0, none, 0, none, 0, 0, 0⟩) ⟨Nat.zero_le _, DI.nil, rfl, rfl, Nat.zero_le _, Nat.zero_le _⟩ aSx (fun w h => (((((h.own_nil 3 1).own_nil 4 1).own_nil 4 1).own_nil 4 1).own_nil 42 2).ent aEt) (fun ⟨i, D, A⟩ hy => ?_)
          dsimp only at hy ⊢
          obtain ⟨hi1, hD, hA1, hA2, hA3, hA4⟩ := hy
          refine s_seq ?_
          refine s_seq ?_
          refine s_region ?_
          refine o_p (p_pure rfl) rfl ?_
          refine o_p (p_pure rfl) rfl ?_
          refine o_p (p_len_slice rfl rfl Try.underlying22) rfl ?_
          refine o_p (p_pure rfl) rfl ?_
          refine o_nil ?_
          refine s_cond rfl (fun h8 => ?_) (fun h8 => ?_)
          · try simp only [decide_eq_true_eq, decide_eq_false_iff_not, Bool.not_eq_true', Bool.not_eq_false', Bool.and_eq_true, Bool.or_eq_true, Bool.and_eq_false_iff, Bool.or_eq_false_iff, Bool.not_true, Bool.not_false] at h8
            have hil : i < l.length := by omega
            have hok := runS_ok (l.take i)
            have hen := nth_run hil
            rw [← hrr] at hen
            have e3 : runS (l.take (i + 1)) = stepT (runS (l.take i)) (nth l i) := runS_succ hil
            have hkd := kind_of hl60 hre hil
            have hra : i < (runR l).2.length := by rw [hrr, hrl]; exact hil
            refine s_fact (fun w h => own_addr (a := o.1) (cap := o.2) (n := (runR l).2.length) (by omega) h aPk) (fun hga => ?_)
            obtain ⟨go, hgo, _, _⟩ := hga
            refine s_skip ?_
            refine s_seq ?_
            refine s_block ?_
            refine s_seq ?_
            refine s_seq ?_
            refine s_region ?_
            refine o_p (p_pure rfl) rfl ?_
            refine o_p (p_pure rfl) rfl ?_
            refine o_p (p_indexAddr rfl rfl rfl sl_27 (i) (by omega) (by omega) hgo) rfl ?_
            refine o_p (p_fieldAddr rfl rfl fd_40_0 sz_28 rfl) rfl ?_
            refine o_q (q_load_at rfl rfl sz_28 (fun w h => by have h9 := (h.rw_own (vals := ansV) (fun _ => rfl) (a := o.1) aPk (by first | rfl | omega)).rdj 0 hra rfl; rw [hgo] at h9; exact h9)) rfl ?_
            refine o_p (p_pure rfl) rfl ?_
            refine o_nil ?_
            refine s_cond rfl (fun h9 => ?_) (fun h9 => ?_)
            · try simp only [decide_eq_true_eq, decide_eq_false_iff_not, Bool.not_eq_true', Bool.not_eq_false', Bool.and_eq_true, Bool.or_eq_true, Bool.and_eq_false_iff, Bool.or_eq_false_iff, Bool.not_true, Bool.not_false] at h9
              have he1 : ¬ (doT (runS (l.take i)).1.2 (runS (l.take i)).1.1 (nth l i)).2.2.2 = 0 := by have hq := h9; rw [hen] at hq; exact hq
              have hD2 : DI (runS (l.take (i + 1))).1.2 (runS (l.take (i + 1))).1.1 D := by rw [e3]; simp only [stepT]; rw [(do_bad he1).1, (do_bad he1).2]; exact hD
              refine s_exit_to rfl ?_
              refine s_region ?_
              refine o_p (p_pure rfl) rfl ?_
              refine o_p (p_pure rfl) rfl ?_
              try (refine o_slot (i64w (by omega) (by omega)) ?_)
              refine o_p (p_pure rfl) rfl ?_
              refine o_nil ?_
              exact s_backI (i + 1, D, A) (by show l.length - (i + 1) < l.length - i; omega) ⟨by show i + 1 ≤ l.length; omega, hD2, hA1, hA2, by show A.nn ≤ i + 1; omega, by show A.nf ≤ i + 1; omega⟩ aSx (fun w h => h.ent aEt)
            · try simp only [decide_eq_true_eq, decide_eq_false_iff_not, Bool.not_eq_true', Bool.not_eq_false', Bool.and_eq_true, Bool.or_eq_true, Bool.and_eq_false_iff, Bool.or_eq_false_iff, Bool.not_true, Bool.not_false] at h9
              have he0 : (doT (runS (l.take i)).1.2 (runS (l.take i)).1.1 (nth l i)).2.2.2 = 0 := by have hq := h9; rw [hen] at hq; exact hq
              refine s_skip ?_
              refine s_seq ?_
              refine s_seq ?_
              refine s_region ?_
              refine o_p (p_pure rfl) rfl ?_
              refine o_p (p_pure rfl) rfl ?_
              refine o_p (p_indexAddr rfl rfl rfl sl_22 (i) (by omega) (by omega) (Rw.some hs (by omega))) rfl ?_
              refine o_p (p_fieldAddr rfl rfl fd_44_0 sz_3 rfl) rfl ?_
              refine o_q (q_load_old rfl rfl sz_3 (by first | exact hs.rdj 0 hil rfl)) rfl ?_
              refine o_p (p_pure rfl) rfl ?_
              refine o_nil ?_
              refine s_cond rfl (fun h10 => ?_) (fun h10 => ?_)
              · try simp only [decide_eq_true_eq, decide_eq_false_iff_not, Bool.not_eq_true', Bool.not_eq_false', Bool.and_eq_true, Bool.or_eq_true, Bool.and_eq_false_iff, Bool.or_eq_false_iff, Bool.not_true, Bool.not_false] at h10
                have hk0 : (nth l i).kd = 0 := h10
                refine s_seq ?_
                refine s_seq ?_
                refine s_region ?_
                refine o_p (p_pure rfl) rfl ?_
                refine o_p (p_pure rfl) rfl ?_
                refine o_p (p_indexAddr rfl rfl rfl sl_27 (i) (by omega) (by omega) hgo) rfl ?_
                refine o_p (p_fieldAddr rfl rfl fd_40_1 sz_3 rfl) rfl ?_
                refine o_q (q_load_at rfl rfl sz_3 (fun w h => by have h9 := (h.rw_own (vals := ansV) (fun _ => rfl) (a := o.1) aPk (by first | rfl | omega)).rdj 1 hra rfl; rw [hgo] at h9; exact h9)) rfl ?_
                refine o_p (p_pure rfl) rfl ?_
                refine o_p (p_len_slice rfl rfl Try.underlying38) rfl ?_
                refine o_p (p_pure rfl) rfl ?_
                try (refine o_slot (i64w (by omega) (by omega)) ?_)
                refine o_p (p_pure rfl) rfl ?_
                refine o_nil ?_
                refine s_cond rfl (fun h11 => ?_) (fun h11 => ?_)
                · try simp only [decide_eq_true_eq, decide_eq_false_iff_not, Bool.not_eq_true', Bool.not_eq_false', Bool.and_eq_true, Bool.or_eq_true, Bool.and_eq_false_iff, Bool.or_eq_false_iff, Bool.not_true, Bool.not_false] at h11
                  exfalso; have hq := h11; have h9 := do_open_val hok hD hk0 he0; (try rw [hen] at hq); (try simp only [] at hq); omega
                · try simp only [decide_eq_true_eq, decide_eq_false_iff_not, Bool.not_eq_true', Bool.not_eq_false', Bool.and_eq_true, Bool.or_eq_true, Bool.and_eq_false_iff, Bool.or_eq_false_iff, Bool.not_true, Bool.not_false] at h11
                  refine s_skip ?_
                  refine s_seq ?_
                  refine s_weaken (L' := [(0, _), (4, _), (6, _), (7, _), (8, _), (9, _), (10, _), (11, _)]) aSx (fun _ h => h) ?_
                  refine s_region ?_
                  refine o_p (p_pure rfl) rfl ?_
                  refine o_nil ?_
                  refine s_seq ?_
                  refine s_seq ?_
                  refine s_region ?_
                  refine o_p (p_pure rfl) rfl ?_
                  refine o_nil ?_
                  refine s_block ?_
                  refine s_loopI (α := Nat × Int) [12, 13, 66, 67, 68, 69, 70, 71, 72, 73, 74, 75, 76, 77, 78, 79, 80, 81, 82] (fun z => [(13, .int .i64 (z.1 : Int)), (12, .int .i64 z.2)]) (fun _ => HS w [] [.own (.slice o.1 (runR l).2.length o.2) 40 2 (runR l).2.length ((runR l).2.flatMap ansV), .own (.slice A.fa A.nf A.fc) 42 2 A.nf (D.fl.flatMap kyV), .own (.slice A.wa A.nf A.wc) 4 1 A.nf (D.ow.flatMap boV), .own (.slice A.na A.nn A.nc) 4 1 A.nn (D.on.flatMap boV), .own (.slice A.ga A.nn A.gc) 4 1 A.nn (D.gn.flatMap boV), .own (.slice A.oa A.nn A.oc) 3 1 A.nn (D.of.flatMap naV)]) (fun z => z.1 ≤ A.nf ∧ ((z.2 = -1 ∧ ∀ m, m < z.1 → nth D.fl m ≠ ((nth l i).rc, (nth l i).sq)) ∨ ∃ j, j < z.1 ∧ z.2 = (j : Int) ∧ nth D.fl j = ((nth l i).rc, (nth l i).sq))) (fun z => A.nf - z.1) (0, -1) ⟨Nat.zero_le _, .inl ⟨rfl, fun m hm => absurd hm (Nat.not_lt_zero m)⟩⟩ aSx (fun w h => h.ent aEt) (fun ⟨k, tt⟩ hz => ?_)
                  dsimp only at hz ⊢
                  obtain ⟨hz1, hz2⟩ := hz
                  refine s_seq ?_
                  refine s_seq ?_
                  refine s_region ?_
                  refine o_p (p_pure rfl) rfl ?_
                  refine o_p (p_pure rfl) rfl ?_
                  refine o_p (p_len_slice rfl rfl Try.underlying36) rfl ?_
                  refine o_p (p_pure rfl) rfl ?_
                  refine o_nil ?_
                  refine s_cond rfl (fun h12 => ?_) (fun h12 => ?_)
                  · try simp only [decide_eq_true_eq, decide_eq_false_iff_not, Bool.not_eq_true', Bool.not_eq_false', Bool.and_eq_true, Bool.or_eq_true, Bool.and_eq_false_iff, Bool.or_eq_false_iff, Bool.not_true, Bool.not_false] at h12
                    have hkf : k < D.fl.length := by omega
                    refine s_fact (fun w h => own_addr (a := A.fa) (cap := A.fc) (n := A.nf) (by omega) h aPk) (fun hga => ?_)
                    obtain ⟨gfl, hgfl, _, _⟩ := hga
                    refine s_skip ?_
                    refine s_seq ?_
                    refine s_block ?_
                    refine s_seq ?_
                    refine s_draw [] mixed ?_
                    refine d_p 0 rfl (p_pure rfl) (by kernel_rfl) rfl rfl ?_
                    refine d_p 1 rfl (p_pure rfl) (by kernel_rfl) rfl rfl ?_
                    refine d_p 2 rfl (p_indexAddr rfl rfl rfl sl_36 (k) (by omega) (by omega) hgfl) (by kernel_rfl) rfl rfl ?_
                    refine d_q 3 [] rfl (q_load_atn (kyV (nth D.fl k)) rfl rfl sz_42 rfl (fun w h q v hq => by have h9 := (h.rw_own (vals := kyV) (fun _ => rfl) (a := A.fa) aPk (by first | rfl | omega)).rd hkf q v hq; rw [hgfl] at h9; exact h9)) (by kernel_rfl) (by kernel_rfl) (by kernel_rfl) rfl ?_
                    refine d_p 4 rfl (p_pure rfl) (by kernel_rfl) rfl rfl ?_
                    refine d_p 5 rfl (p_pure rfl) (by kernel_rfl) rfl rfl ?_
                    refine d_p 6 rfl (p_indexAddr rfl rfl rfl sl_22 (i) (by omega) (by omega) (Rw.some hs (by omega))) (by kernel_rfl) rfl rfl ?_
                    refine d_p 7 rfl (p_fieldAddr rfl rfl fd_44_6 sz_42 rfl) (by kernel_rfl) rfl rfl ?_
                    refine d_q 8 [] rfl (q_load_oldn [.int .i64 (nth l i).rc, .int .i64 (nth l i).sq] rfl rfl sz_42 rfl (fun q v hv => by have h9 := Rw.rd hs (i := i) hil (6 + q) v (by rcases q with _ | _ | q <;> first | exact hv | (simp at hv)); rw [← Nat.add_assoc] at h9; exact h9)) (by kernel_rfl) (by kernel_rfl) (by kernel_rfl) rfl ?_
                    refine d_p 9 rfl (p_eql_agg rfl rfl rfl eqk_42 (by rfl) (by rfl) (by rfl)) (by kernel_rfl) rfl rfl ?_
                    refine d_nil (by kernel_rfl) (fun w h => h.ent aEt) ?_
                    refine s_cond rfl (fun h13 => ?_) (fun h13 => ?_)
                    · try simp only [decide_eq_true_eq, decide_eq_false_iff_not, Bool.not_eq_true', Bool.not_eq_false', Bool.and_eq_true, Bool.or_eq_true, Bool.and_eq_false_iff, Bool.or_eq_false_iff, Bool.not_true, Bool.not_false] at h13
                      refine s_region ?_
                      refine o_p (p_pure rfl) rfl ?_
                      refine o_p (p_pure rfl) rfl ?_
                      refine o_nil ?_
                      refine s_blk ?_
                      refine s_region ?_
                      refine o_p (p_pure rfl) rfl ?_
                      refine o_p (p_pure rfl) rfl ?_
                      try (refine o_slot (i64w (by omega) (by omega)) ?_)
                      refine o_p (p_pure rfl) rfl ?_
                      refine o_nil ?_
                      have hkk : nth D.fl k = ((nth l i).rc, (nth l i).sq) := by have hq := h13; (try simp at hq); exact Prod.ext (by omega) (by omega)
                      exact s_backI (k + 1, (k : Int)) (by show A.nf - (k + 1) < A.nf - k; omega) ⟨by show k + 1 ≤ A.nf; omega, .inr ⟨k, Nat.lt_succ_self k, rfl, hkk⟩⟩ aSx (fun w h => h.ent aEt)
                    · try simp only [decide_eq_true_eq, decide_eq_false_iff_not, Bool.not_eq_true', Bool.not_eq_false', Bool.and_eq_true, Bool.or_eq_true, Bool.and_eq_false_iff, Bool.or_eq_false_iff, Bool.not_true, Bool.not_false] at h13
                      refine s_skip ?_
                      refine s_blk ?_
                      refine s_region ?_
                      refine o_p (p_pure rfl) rfl ?_
                      refine o_p (p_pure rfl) rfl ?_
                      try (refine o_slot (i64w (by omega) (by omega)) ?_)
                      refine o_p (p_pure rfl) rfl ?_
                      refine o_nil ?_
                      have hkk : ¬ nth D.fl k = ((nth l i).rc, (nth l i).sq) := by have hq := h13; intro h9; rw [h9] at hq; simp at hq
                      exact s_backI (k + 1, tt) (by show A.nf - (k + 1) < A.nf - k; omega) ⟨by show k + 1 ≤ A.nf; omega, by rcases hz2 with ⟨h8, h9⟩ | ⟨j, h7, h8, h9⟩; (exact .inl ⟨h8, fun m hm => by rcases Nat.lt_succ_iff_lt_or_eq.1 hm with h6 | rfl; (exact h9 m h6); (exact hkk)⟩); (exact .inr ⟨j, Nat.lt_succ_of_lt h7, h8, h9⟩)⟩ aSx (fun w h => h.ent aEt)
                  · try simp only [decide_eq_true_eq, decide_eq_false_iff_not, Bool.not_eq_true', Bool.not_eq_false', Bool.and_eq_true, Bool.or_eq_true, Bool.and_eq_false_iff, Bool.or_eq_false_iff, Bool.not_true, Bool.not_false] at h12
                    refine s_exit_to rfl ?_
                    refine s_seq ?_
                    refine s_seq ?_
                    refine s_region ?_
                    refine o_p (p_pure rfl) rfl ?_
                    refine o_p (p_pure rfl) rfl ?_
                    refine o_nil ?_
                    refine s_cutI (α := DS × DA × Nat) [6, 7, 12, 85, 86, 87, 88, 89, 90, 91, 92, 93, 94, 95, 96, 97] (fun x => [(12, .int .i64 (x.2.2 : Int)), (6, .slice x.2.1.fa x.2.1.nf x.2.1.fc), (7, .slice x.2.1.wa x.2.1.nf x.2.1.wc)]) (fun x => HS w [] [.own (.slice o.1 (runR l).2.length o.2) 40 2 (runR l).2.length ((runR l).2.flatMap ansV), .own (.slice x.2.1.fa x.2.1.nf x.2.1.fc) 42 2 x.2.1.nf (x.1.fl.flatMap kyV), .own (.slice x.2.1.wa x.2.1.nf x.2.1.wc) 4 1 x.2.1.nf (x.1.ow.flatMap boV), .own (.slice A.na A.nn A.nc) 4 1 A.nn (D.on.flatMap boV), .own (.slice A.ga A.nn A.gc) 4 1 A.nn (D.gn.flatMap boV), .own (.slice A.oa A.nn A.oc) 3 1 A.nn (D.of.flatMap naV)]) (fun x => DI (runS (l.take i)).1.2 (runS (l.take i)).1.1 x.1 ∧ x.2.2 < x.1.fl.length ∧ nth x.1.fl x.2.2 = ((nth l i).rc, (nth l i).sq) ∧ x.2.1.nf = x.1.fl.length ∧ x.1.of = D.of ∧ x.2.1.nf ≤ i + 1 ∧ x.1.on = D.on ∧ x.1.gn = D.gn) ?_ ?_
                    · skip
                      refine s_cond rfl (fun h14 => ?_) (fun h14 => ?_)
                      · try simp only [decide_eq_true_eq, decide_eq_false_iff_not, Bool.not_eq_true', Bool.not_eq_false', Bool.and_eq_true, Bool.or_eq_true, Bool.and_eq_false_iff, Bool.or_eq_false_iff, Bool.not_true, Bool.not_false] at h14
                        have hnk : ∀ m, m < D.fl.length → nth D.fl m ≠ ((nth l i).rc, (nth l i).sq) := by rcases hz2 with ⟨_, h9⟩ | ⟨j, h7, h8, h9⟩; (intro m hm; exact h9 m (by omega)); (exfalso; omega)
                        have hDx := hD.ext hnk
                        refine s_seq ?_
                        refine s_region ?_
                        refine o_p (p_pure rfl) rfl ?_
                        refine o_p (p_len_slice rfl rfl Try.underlying36) rfl ?_
                        refine o_p (p_pure rfl) rfl ?_
                        refine o_nil ?_
                        refine s_seq ?_
                        refine s_region ?_
                        refine o_p (p_pure rfl) rfl ?_
                        refine o_p (p_pure rfl) rfl ?_
                        refine o_p (p_pure rfl) rfl ?_
                        refine o_p (p_indexAddr rfl rfl rfl sl_22 (i) (by omega) (by omega) (Rw.some hs (by omega))) rfl ?_
                        refine o_p (p_fieldAddr rfl rfl fd_44_6 sz_42 rfl) rfl ?_
                        refine o_q (q_load_oldn [.int .i64 (nth l i).rc, .int .i64 (nth l i).sq] rfl rfl sz_42 rfl (fun q v hv => by have h9 := Rw.rd hs (i := i) hil (6 + q) v (by rcases q with _ | _ | q <;> first | exact hv | (simp at hv)); rw [← Nat.add_assoc] at h9; exact h9)) rfl ?_
                        refine o_h (h_buildSlice (cs := [_, _]) rfl rfl sl_36 zr_42 rfl rfl rfl) rfl (fun b15 _ => ?_)
                        refine o_h (h_appendS (n := A.nf) [.int .i64 (nth l i).rc, .int .i64 (nth l i).sq] rfl rfl rfl sl_36 Try.underlying36 zr_42 rfl aPk (src_blk aPk) rfl (by intro u hu; simp only [List.mem_cons, List.mem_nil_iff, or_false] at hu; (try rcases hu with rfl | rfl) <;> (try subst hu) <;> rfl) (by omega) (by simp only [maxLen]; omega)) rfl (fun b16 _ => ?_)
                        refine o_p (p_pure rfl) rfl ?_
                        refine o_nil ?_
                        refine s_region ?_
                        refine o_p (p_pure rfl) rfl ?_
                        refine o_h (h_buildSlice (cs := [_]) rfl rfl sl_37 zr_4 rfl rfl rfl) rfl (fun b17 _ => ?_)
                        refine o_h (h_appendS (n := A.nf) [.bool false] rfl rfl rfl sl_37 Try.underlying37 zr_4 rfl aPk (src_blk aPk) rfl (by intro u hu; simp only [List.mem_cons, List.mem_nil_iff, or_false] at hu; (try rcases hu with rfl | rfl) <;> (try subst hu) <;> rfl) (by omega) (by simp only [maxLen]; omega)) rfl (fun b18 _ => ?_)
                        refine o_p (p_pure rfl) rfl ?_
                        refine o_nil ?_
                        exact s_joinI (⟨D.fl ++ [((nth l i).rc, (nth l i).sq)], D.ow ++ [false], D.of, D.on, D.gn⟩, ⟨b16.1, b16.2, b18.1, b18.2, none, 0, none, 0, none, 0, A.nf + 1, 0⟩, A.nf) ⟨hDx, by show A.nf < (D.fl ++ [_]).length; simp; omega, nth_app2 hA1, by show A.nf + 1 = (D.fl ++ [_]).length; simp; omega, rfl, by show A.nf + 1 ≤ i + 1; omega, rfl, rfl⟩ aSx (fun w h => by dsimp only; simp only [app_flat1]; exact h.ent aEt)
                      · try simp only [decide_eq_true_eq, decide_eq_false_iff_not, Bool.not_eq_true', Bool.not_eq_false', Bool.and_eq_true, Bool.or_eq_true, Bool.and_eq_false_iff, Bool.or_eq_false_iff, Bool.not_true, Bool.not_false] at h14
                        have hfj : ∃ j, j < D.fl.length ∧ (tt : Int) = (j : Int) ∧ nth D.fl j = ((nth l i).rc, (nth l i).sq) := by rcases hz2 with ⟨h8, _⟩ | ⟨j, h7, h8, h9⟩; (exfalso; omega); (exact ⟨j, by omega, h8, h9⟩)
                        obtain ⟨j, hj1, hj2, hj3⟩ := hfj
                        subst hj2
                        refine s_skip ?_
                        exact s_joinI (D, A, j) ⟨hD, hj1, hj3, hA1, rfl, by show A.nf ≤ i + 1; omega, rfl, rfl⟩ aSx (fun w h => h.ent aEt)
                    · intro ⟨D1, A1, j⟩ hx
                      dsimp only at hx ⊢
                      obtain ⟨hD1, hx1, hx2, hx3, hx4, hx5, hx6, hx7⟩ := hx
                      obtain ⟨hj3, hj4⟩ := hD1.do_open hok hk0 he0 hx1 hx2
                      have hw3 := hD1.l3
                      have hl1 := hD.l1
                      have hl2 := hD.l2
                      refine s_fact (fun w h => own_addr (a := A1.wa) (cap := A1.wc) (n := A1.nf) (by omega) h aPk) (fun hga => ?_)
                      obtain ⟨gow, hgow, _, _⟩ := hga
                      refine s_seq ?_
                      refine s_seq ?_
                      refine s_region ?_
                      refine o_p (p_pure rfl) rfl ?_
                      refine o_p (p_pure rfl) rfl ?_
                      refine o_p (p_indexAddr rfl rfl rfl sl_37 (j) (by omega) (by omega) hgow) rfl ?_
                      refine o_q (q_load_at rfl rfl sz_4 (fun w h => by have h9 := (h.rw_own (vals := boV) (fun _ => rfl) (a := A1.wa) aPk (by first | rfl | omega)).rdj 0 (by omega : j < D1.ow.length) rfl; rw [hgow] at h9; exact h9)) rfl ?_
                      refine o_nil ?_
                      refine s_cond rfl (fun h19 => ?_) (fun h19 => ?_)
                      · try simp only [decide_eq_true_eq, decide_eq_false_iff_not, Bool.not_eq_true', Bool.not_eq_false', Bool.and_eq_true, Bool.or_eq_true, Bool.and_eq_false_iff, Bool.or_eq_false_iff, Bool.not_true, Bool.not_false] at h19
                        exfalso; have hq := h19; rw [hj3] at hq; cases hq
                      · try simp only [decide_eq_true_eq, decide_eq_false_iff_not, Bool.not_eq_true', Bool.not_eq_false', Bool.and_eq_true, Bool.or_eq_true, Bool.and_eq_false_iff, Bool.or_eq_false_iff, Bool.not_true, Bool.not_false] at h19
                        refine s_skip ?_
                        refine s_seq ?_
                        refine s_region ?_
                        refine o_p (p_pure rfl) rfl ?_
                        refine o_p (p_pure rfl) rfl ?_
                        refine o_h (h_buildSlice (cs := [_]) rfl rfl sl_38 zr_3 rfl rfl rfl) rfl (fun b20 _ => ?_)
                        refine o_h (h_appendS (n := A.nn) [.int .i64 (j : Int)] rfl rfl rfl sl_38 Try.underlying38 zr_3 rfl aPk (src_blk aPk) rfl (by intro u hu; simp only [List.mem_cons, List.mem_nil_iff, or_false] at hu; (try rcases hu with rfl | rfl) <;> (try subst hu) <;> rfl) (by omega) (by simp only [maxLen]; omega)) rfl (fun b21 _ => ?_)
                        refine o_p (p_pure rfl) rfl ?_
                        refine o_nil ?_
                        refine s_seq ?_
                        refine s_region ?_
                        refine o_p (p_pure rfl) rfl ?_
                        refine o_p (p_pure rfl) rfl ?_
                        refine o_p (p_pure rfl) rfl ?_
                        refine o_p (p_indexAddr rfl rfl rfl sl_22 (i) (by omega) (by omega) (Rw.some hs (by omega))) rfl ?_
                        refine o_p (p_fieldAddr rfl rfl fd_44_7 sz_4 rfl) rfl ?_
                        refine o_q (q_load_old rfl rfl sz_4 (by first | exact hs.rdj 8 hil rfl)) rfl ?_
                        refine o_h (h_buildSlice (cs := [_]) rfl rfl sl_37 zr_4 rfl rfl rfl) rfl (fun b22 _ => ?_)
                        refine o_h (h_appendS (n := A.nn) [.bool (nth l i).fl] rfl rfl rfl sl_37 Try.underlying37 zr_4 rfl aPk (src_blk aPk) rfl (by intro u hu; simp only [List.mem_cons, List.mem_nil_iff, or_false] at hu; (try rcases hu with rfl | rfl) <;> (try subst hu) <;> rfl) (by omega) (by simp only [maxLen]; omega)) rfl (fun b23 _ => ?_)
                        refine o_p (p_pure rfl) rfl ?_
                        refine o_nil ?_
                        refine s_seq ?_
                        refine s_weaken (L' := [(0, _), (4, _), (6, _), (7, _), (8, _), (9, _), (10, _), (11, _), (12, _), (13, _)]) aSx (fun _ h => h) ?_
                        refine s_region ?_
                        refine o_p (p_pure rfl) rfl ?_
                        refine o_h (h_buildSlice (cs := [_]) rfl rfl sl_37 zr_4 rfl rfl rfl) rfl (fun b24 _ => ?_)
                        refine o_h (h_appendS (n := A.nn) [.bool false] rfl rfl rfl sl_37 Try.underlying37 zr_4 rfl aPk (src_blk aPk) rfl (by intro u hu; simp only [List.mem_cons, List.mem_nil_iff, or_false] at hu; (try rcases hu with rfl | rfl) <;> (try subst hu) <;> rfl) (by omega) (by simp only [maxLen]; omega)) rfl (fun b25 _ => ?_)
                        refine o_p (p_pure rfl) rfl ?_
                        refine o_nil ?_
                        refine s_exit_to rfl ?_
                        refine s_region ?_
                        refine o_p (p_pure rfl) rfl ?_
                        refine o_p (p_pure rfl) rfl ?_
                        try (refine o_slot (i64w (by omega) (by omega)) ?_)
                        refine o_p (p_pure rfl) rfl ?_
                        refine o_nil ?_
                        exact s_backI (i + 1, ⟨D1.fl, D1.ow, D1.of ++ [j], D1.on ++ [(nth l i).fl], D1.gn ++ [false]⟩, ⟨A1.fa, A1.fc, A1.wa, A1.wc, b23.1, b23.2, b25.1, b25.2, b21.1, b21.2, A1.nf, A.nn + 1⟩) (by show l.length - (i + 1) < l.length - i; omega) ⟨by show i + 1 ≤ l.length; omega, by rw [e3]; exact hj4, hx3, by show A.nn + 1 = (D1.of ++ [j]).length; rw [hx4, List.length_append]; simp; omega, by show A.nn + 1 ≤ i + 1; omega, hx5⟩ aSx (fun w h => by dsimp only; simp only [app_flat1]; rw [hx4, hx6, hx7]; exact h.ent aEt)
              · try simp only [decide_eq_true_eq, decide_eq_false_iff_not, Bool.not_eq_true', Bool.not_eq_false', Bool.and_eq_true, Bool.or_eq_true, Bool.and_eq_false_iff, Bool.or_eq_false_iff, Bool.not_true, Bool.not_false] at h10
                have hk0 : ¬ (nth l i).kd = 0 := h10
                obtain ⟨n, hn1, hn2, hn3, hn4, hn5, hn6⟩ := hD.act hok hk0 hkd he0
                have hlt := hD.lt n hn1
                have hl1 := hD.l1
                have hl2 := hD.l2
                have hl3 := hD.l3
                refine s_fact (fun w h => own_addr (a := A.oa) (cap := A.oc) (n := A.nn) (by omega) h aPk) (fun hga => ?_)
                obtain ⟨gof, hgof, hofc, hofm⟩ := hga
                refine s_fact (fun w h => own_addr (a := A.ga) (cap := A.gc) (n := A.nn) (by omega) h aPk) (fun hga => ?_)
                obtain ⟨ggn, hggn, hgnc, hgnm⟩ := hga
                refine s_fact (fun w h => own_addr (a := A.na) (cap := A.nc) (n := A.nn) (by omega) h aPk) (fun hga => ?_)
                obtain ⟨gon, hgon, honc, honm⟩ := hga
                refine s_fact (fun w h => own_addr (a := A.wa) (cap := A.wc) (n := A.nf) (by omega) h aPk) (fun hga => ?_)
                obtain ⟨gow, hgow, howc, howm⟩ := hga
                refine s_skip ?_
                refine s_seq ?_
                refine s_region ?_
                refine o_p (p_pure rfl) rfl ?_
                refine o_p (p_pure rfl) rfl ?_
                refine o_p (p_indexAddr rfl rfl rfl sl_22 (i) (by omega) (by omega) (Rw.some hs (by omega))) rfl ?_
                refine o_p (p_fieldAddr rfl rfl fd_44_1 sz_3 rfl) rfl ?_
                refine o_q (q_load_old rfl rfl sz_3 (by first | exact hs.rdj 1 hil rfl)) rfl ?_
                refine o_p (p_pure rfl) rfl ?_
                try (refine o_slot (i64w (by omega) (by omega)) ?_)
                refine o_slot (show Value.int .i64 ((nth l i).hd - 1) = .int .i64 (n : Int) from by rw [hn2]; congr 1; omega) ?_
                refine o_p (p_pure rfl) rfl ?_
                refine o_nil ?_
                refine s_seq ?_
                refine s_seq ?_
                refine s_weaken (L' := [(0, _), (4, _), (6, _), (7, _), (8, _), (9, _), (10, _), (11, _), (14, _)]) aSx (fun _ h => h) ?_
                refine s_region ?_
                refine o_p (p_pure rfl) rfl ?_
                refine o_p (p_pure rfl) rfl ?_
                refine o_p (p_len_slice rfl rfl Try.underlying38) rfl ?_
                refine o_p (p_pure rfl) rfl ?_
                try (refine o_slot (i64w (by omega) (by omega)) ?_)
                refine o_q (q_call rfl fn_16 rfl (fun w1 h1 => c16 w1 _ _ _)) rfl ?_
                refine o_p (p_pure rfl) rfl ?_
                refine o_p (p_pure rfl) rfl ?_
                refine o_or 5 129 134 _ _ rfl
                  (by
                    intro hg26
                    have hs27 := hg26; try simp only [decide_eq_true_eq, decide_eq_false_iff_not, Bool.not_eq_true', Bool.not_eq_false', Bool.and_eq_true, Bool.or_eq_true, Bool.and_eq_false_iff, Bool.or_eq_false_iff, Bool.not_true, Bool.not_false] at hs27
                    refine o_on 129 _ rfl rfl hg26 ?_
                    refine o_p (p_pure rfl) rfl ?_
                    refine o_on 129 _ rfl rfl hg26 ?_
                    refine o_p (p_pure rfl) rfl ?_
                    refine o_on 129 _ rfl rfl hg26 ?_
                    refine o_p (p_indexAddr rfl rfl rfl sl_37 (n) (by omega) (by omega) hggn) rfl ?_
                    refine o_on 129 _ rfl rfl hg26 ?_
                    refine o_q (q_load_at rfl rfl sz_4 (fun w h => by have h9 := (h.rw_own (vals := boV) (fun _ => rfl) (a := A.ga) aPk (by first | rfl | omega)).rdj 0 (by omega : n < D.gn.length) rfl; rw [hggn] at h9; exact h9)) rfl ?_
                    refine o_p (p_pickf rfl rfl hg26 rfl) rfl ?_
                    refine o_nil ?_
                    exact s_joinN 5 134 _ rfl rfl rfl (fun w h => by first | exact h | exact h.ent aEt))
                  (by
                    intro hg28
                    have hs29 := hg28; try simp only [decide_eq_true_eq, decide_eq_false_iff_not, Bool.not_eq_true', Bool.not_eq_false', Bool.and_eq_true, Bool.or_eq_true, Bool.and_eq_false_iff, Bool.or_eq_false_iff, Bool.not_true, Bool.not_false] at hs29
                    refine o_off 129 _ rfl rfl hg28 rfl ?_
                    refine o_off 129 _ rfl rfl hg28 rfl ?_
                    refine o_off 129 _ rfl rfl hg28 rfl ?_
                    refine o_off 129 _ rfl rfl hg28 rfl ?_
                    refine o_p (p_pickt rfl rfl hg28 rfl) rfl ?_
                    refine o_nil ?_
                    exact s_joinN 5 134 _ rfl rfl rfl (fun w h => by first | exact h | exact h.ent aEt)) ?_
                refine o_nil ?_
                refine s_cond rfl (fun h30 => ?_) (fun h30 => ?_)
                · try simp only [decide_eq_true_eq, decide_eq_false_iff_not, Bool.not_eq_true', Bool.not_eq_false', Bool.and_eq_true, Bool.or_eq_true, Bool.and_eq_false_iff, Bool.or_eq_false_iff, Bool.not_true, Bool.not_false] at h30
                  exfalso; have hq := h30; simp at hq; first | omega | (rw [hn3] at hq; simp at hq; omega) | grind
                · try simp only [decide_eq_true_eq, decide_eq_false_iff_not, Bool.not_eq_true', Bool.not_eq_false', Bool.and_eq_true, Bool.or_eq_true, Bool.and_eq_false_iff, Bool.or_eq_false_iff, Bool.not_true, Bool.not_false] at h30
                  refine s_skip ?_
                  refine s_seq ?_
                  refine s_seq ?_
                  refine s_region ?_
                  refine o_p (p_pure rfl) rfl ?_
                  refine o_p (p_pure rfl) rfl ?_
                  refine o_p (p_indexAddr rfl rfl rfl sl_22 (i) (by omega) (by omega) (Rw.some hs (by omega))) rfl ?_
                  refine o_p (p_fieldAddr rfl rfl fd_44_0 sz_3 rfl) rfl ?_
                  refine o_q (q_load_old rfl rfl sz_3 (by first | exact hs.rdj 0 hil rfl)) rfl ?_
                  refine o_p (p_pure rfl) rfl ?_
                  refine o_nil ?_
                  refine s_weaken (L' := [(0, _), (4, _), (6, _), (7, _), (8, _), (9, _), (10, _), (11, _), (14, _), (140, _)]) aSx (fun _ h => h) ?_
                  refine s_cutI (α := List Bool) [141, 142, 143, 144, 145, 146, 147, 148, 149, 150, 151] (fun _ => []) (fun W => HS w [] [.own (.slice o.1 (runR l).2.length o.2) 40 2 (runR l).2.length ((runR l).2.flatMap ansV), .own (.slice A.fa A.nf A.fc) 42 2 A.nf (D.fl.flatMap kyV), .own (.slice A.wa A.nf A.wc) 4 1 A.nf (W.flatMap boV), .own (.slice A.na A.nn A.nc) 4 1 A.nn (D.on.flatMap boV), .own (.slice A.ga A.nn A.gc) 4 1 A.nn (D.gn.flatMap boV), .own (.slice A.oa A.nn A.oc) 3 1 A.nn (D.of.flatMap naV)]) (fun W => (¬ (nth l i).kd = 1 → DI (stepT (runS (l.take i)) (nth l i)).1.2 (stepT (runS (l.take i)) (nth l i)).1.1 ⟨D.fl, W, D.of, D.on, D.gn⟩) ∧ ((nth l i).kd = 1 → W = D.ow)) ?_ ?_
                  · skip
                    refine s_cond rfl (fun h31 => ?_) (fun h31 => ?_)
                    · try simp only [decide_eq_true_eq, decide_eq_false_iff_not, Bool.not_eq_true', Bool.not_eq_false', Bool.and_eq_true, Bool.or_eq_true, Bool.and_eq_false_iff, Bool.or_eq_false_iff, Bool.not_true, Bool.not_false] at h31
                      have hk2 : (nth l i).kd = 2 := h31
                      refine s_class (fun w h => HS.own_to (a := A.wa) (cap := A.wc) (n := A.nf) h aPk (by omega) hgow) ?_
                      refine s_draw [11] mixed ?_
                      refine d_p 0 rfl (p_pure rfl) (by kernel_rfl) rfl rfl ?_
                      refine d_p 1 rfl (p_pure rfl) (by kernel_rfl) rfl rfl ?_
                      refine d_p 2 rfl (p_pure rfl) (by kernel_rfl) rfl rfl ?_
                      refine d_p 3 rfl (p_indexAddr rfl rfl rfl sl_38 (n) (by omega) (by omega) hgof) (by kernel_rfl) rfl rfl ?_
                      refine d_q 4 [[]] rfl (q_load_at rfl rfl sz_3 (fun w h => by have h9 := (h.rw_own (vals := naV) (fun _ => rfl) (a := A.oa) aPk (by first | rfl | omega)).rdj 0 hn1 rfl; rw [hgof] at h9; exact h9)) (by kernel_rfl) (by kernel_rfl) (by kernel_rfl) rfl ?_
                      refine d_p 5 rfl (p_pure rfl) (by kernel_rfl) rfl rfl ?_
                      refine d_p 6 rfl (p_pure rfl) (by kernel_rfl) rfl rfl ?_
                      refine d_p 7 rfl (p_indexAddr rfl rfl rfl sl_22 (i) (by omega) (by omega) (Rw.some hs (by omega))) (by kernel_rfl) rfl rfl ?_
                      refine d_p 8 rfl (p_fieldAddr rfl rfl fd_44_7 sz_4 rfl) (by kernel_rfl) rfl rfl ?_
                      refine d_q 9 [[]] rfl (q_load_old rfl rfl sz_4 (by first | exact hs.rdj 8 hil rfl)) (by kernel_rfl) (by kernel_rfl) (by kernel_rfl) rfl ?_
                      refine d_p 10 rfl (p_indexAddr rfl rfl rfl sl_37 ((nth D.of n)) (by omega) (by omega) hgow) (by kernel_rfl) rfl rfl ?_
                      refine d_slot (show _ = Value.pointer (some ⟨gow, nth D.of n * 1, none⟩) from by rw [Nat.zero_add]) ?_
                      refine d_h0 11 rfl (h_store rfl rfl rfl sz_4 rfl aPt (by rw [bo_len]; (try rw [List.length_set]); omega) rfl) (by kernel_rfl) (fun w h => h.ent aEt) (fun _ _ => ?_)
                      refine d_turn [] (by kernel_rfl) ?_
                      refine d_nil (by kernel_rfl) (fun w h => h.ent aEt) ?_
                      exact s_joinI (D.ow.set (nth D.of n) (nth l i).fl) ⟨fun _ => hn5 hk2, fun h9 => by omega⟩ aSx (fun w h => by have h1 := HS.blk_to (b := gow) h aPk (set_bo (x := (nth l i).fl) (by omega : nth D.of n < D.ow.length)); have h2 := HS.to_own1 (n' := 0) (a := A.wa) (n := A.nf) (cap := A.wc) h1 aPk hgow (by rw [bo_len, List.length_set]; omega) howc howm; exact h2.ent aEt)
                    · try simp only [decide_eq_true_eq, decide_eq_false_iff_not, Bool.not_eq_true', Bool.not_eq_false', Bool.and_eq_true, Bool.or_eq_true, Bool.and_eq_false_iff, Bool.or_eq_false_iff, Bool.not_true, Bool.not_false] at h31
                      have hk2 : ¬ (nth l i).kd = 2 := h31
                      refine s_skip ?_
                      exact s_joinI D.ow ⟨fun h9 => hn4 h9 hk2, fun _ => rfl⟩ aSx (fun w h => h.ent aEt)
                  · intro W hx
                    obtain ⟨hx1, hx2⟩ := hx
                    refine s_seq ?_
                    refine s_seq ?_
                    refine s_region ?_
                    refine o_p (p_pure rfl) rfl ?_
                    refine o_p (p_pure rfl) rfl ?_
                    refine o_p (p_indexAddr rfl rfl rfl sl_22 (i) (by omega) (by omega) (Rw.some hs (by omega))) rfl ?_
                    refine o_p (p_fieldAddr rfl rfl fd_44_0 sz_3 rfl) rfl ?_
                    refine o_q (q_load_old rfl rfl sz_3 (by first | exact hs.rdj 0 hil rfl)) rfl ?_
                    refine o_p (p_pure rfl) rfl ?_
                    refine o_nil ?_
                    refine s_cond rfl (fun h32 => ?_) (fun h32 => ?_)
                    · try simp only [decide_eq_true_eq, decide_eq_false_iff_not, Bool.not_eq_true', Bool.not_eq_false', Bool.and_eq_true, Bool.or_eq_true, Bool.and_eq_false_iff, Bool.or_eq_false_iff, Bool.not_true, Bool.not_false] at h32
                      have hk1 : ¬ (nth l i).kd = 1 := h32
                      have hD2 : DI (runS (l.take (i + 1))).1.2 (runS (l.take (i + 1))).1.1 ⟨D.fl, W, D.of, D.on, D.gn⟩ := by rw [e3]; exact hx1 hk1
                      refine s_exit_to rfl ?_
                      refine s_region ?_
                      refine o_p (p_pure rfl) rfl ?_
                      refine o_p (p_pure rfl) rfl ?_
                      try (refine o_slot (i64w (by omega) (by omega)) ?_)
                      refine o_p (p_pure rfl) rfl ?_
                      refine o_nil ?_
                      exact s_backI (i + 1, ⟨D.fl, W, D.of, D.on, D.gn⟩, ⟨A.fa, A.fc, A.wa, A.wc, A.na, A.nc, A.ga, A.gc, A.oa, A.oc, A.nf, A.nn⟩) (by show l.length - (i + 1) < l.length - i; omega) ⟨by show i + 1 ≤ l.length; omega, hD2, hA1, hA2, by show A.nn ≤ i + 1; omega, by show A.nf ≤ i + 1; omega⟩ aSx (fun w h => h.ent aEt)
                    · try simp only [decide_eq_true_eq, decide_eq_false_iff_not, Bool.not_eq_true', Bool.not_eq_false', Bool.and_eq_true, Bool.or_eq_true, Bool.and_eq_false_iff, Bool.or_eq_false_iff, Bool.not_true, Bool.not_false] at h32
                      have hk1 : (nth l i).kd = 1 := by have hq := h32; omega
                      obtain rfl := hx2 hk1
                      obtain ⟨hcv, hcD⟩ := hn6 hk1
                      have hv1 : (nth (runR l).2 i).2 = (if (decide (lft D.of (D.gn.set n true) (nth D.of n) D.of.length = 0) && (nth D.ow (nth D.of n) || nth D.on n)) = true then 1 else 0) := by rw [hen]; exact hcv
                      have hv2 : nth (D.ow.set (nth D.of n) (nth D.ow (nth D.of n) || nth D.on n)) (nth D.of n) = (nth D.ow (nth D.of n) || nth D.on n) := nth_set1 (by omega)
                      refine s_class (fun w h => HS.own_to (a := A.wa) (cap := A.wc) (n := A.nf) h aPk (by omega) hgow) ?_
                      refine s_class (fun w h => HS.own_to (a := A.ga) (cap := A.gc) (n := A.nn) h aPk (by omega) hggn) ?_
                      refine s_skip ?_
                      refine s_seq ?_
                      refine s_region ?_
                      refine o_p (p_pure rfl) rfl ?_
                      refine o_p (p_pure rfl) rfl ?_
                      refine o_p (p_indexAddr rfl rfl rfl sl_37 (n) (by omega) (by omega) hggn) rfl ?_
                      refine o_slot (show _ = Value.pointer (some ⟨ggn, n * 1, none⟩) from by rw [Nat.zero_add]) ?_
                      refine o_h0 (h_store rfl rfl rfl sz_4 rfl aPt (by rw [bo_len]; (try rw [List.length_set]); omega) rfl) (fun _ _ => ?_)
                      refine o_nil ?_
                      refine s_seq ?_
                      refine s_draw [19] mixed ?_
                      refine d_p 0 rfl (p_pure rfl) (by kernel_rfl) rfl rfl ?_
                      refine d_p 1 rfl (p_pure rfl) (by kernel_rfl) rfl rfl ?_
                      refine d_p 2 rfl (p_pure rfl) (by kernel_rfl) rfl rfl ?_
                      refine d_p 3 rfl (p_indexAddr rfl rfl rfl sl_38 (n) (by omega) (by omega) hgof) (by kernel_rfl) rfl rfl ?_
                      refine d_q 4 [[]] rfl (q_load_at rfl rfl sz_3 (fun w h => by have h9 := (h.rw_own (vals := naV) (fun _ => rfl) (a := A.oa) aPk (by first | rfl | omega)).rdj 0 hn1 rfl; rw [hgof] at h9; exact h9)) (by kernel_rfl) (by kernel_rfl) (by kernel_rfl) rfl ?_
                      refine d_p 5 rfl (p_pure rfl) (by kernel_rfl) rfl rfl ?_
                      refine d_p 6 rfl (p_pure rfl) (by kernel_rfl) rfl rfl ?_
                      refine d_p 7 rfl (p_pure rfl) (by kernel_rfl) rfl rfl ?_
                      refine d_p 8 rfl (p_indexAddr rfl rfl rfl sl_38 (n) (by omega) (by omega) hgof) (by kernel_rfl) rfl rfl ?_
                      refine d_q 9 [[]] rfl (q_load_at rfl rfl sz_3 (fun w h => by have h9 := (h.rw_own (vals := naV) (fun _ => rfl) (a := A.oa) aPk (by first | rfl | omega)).rdj 0 hn1 rfl; rw [hgof] at h9; exact h9)) (by kernel_rfl) (by kernel_rfl) (by kernel_rfl) rfl ?_
                      refine d_p 10 rfl (p_indexAddr rfl rfl rfl sl_37 ((nth D.of n)) (by omega) (by omega) hgow) (by kernel_rfl) rfl rfl ?_
                      refine d_q 11 [[]] rfl (q_load_at rfl rfl sz_4 (fun w h => by rw [Nat.zero_add]; have h9 := row_rd (vals := boV) (sz := 1) (l := D.ow) (i := (nth D.of n)) (b := gow) (fun _ => rfl) (by omega) h aPk 0 _ rfl; exact h9)) (by kernel_rfl) (by kernel_rfl) (by kernel_rfl) rfl ?_
                      refine d_p 12 rfl (p_pure rfl) (by kernel_rfl) rfl rfl ?_
                      apply d_split 173
                      · exact rfl
                      · intro hg33
                        have hs34 := hg33; try simp only [decide_eq_true_eq, decide_eq_false_iff_not, Bool.not_eq_true', Bool.not_eq_false', Bool.and_eq_true, Bool.or_eq_true, Bool.and_eq_false_iff, Bool.or_eq_false_iff, Bool.not_true, Bool.not_false] at hs34
                        refine d_off 13 173 rfl rfl rfl hg33 (by kernel_rfl) rfl rfl ?_
                        refine d_off 14 173 rfl rfl rfl hg33 (by kernel_rfl) rfl rfl ?_
                        refine d_off 15 173 rfl rfl rfl hg33 (by kernel_rfl) rfl rfl ?_
                        refine d_off 16 173 rfl rfl rfl hg33 (by kernel_rfl) rfl rfl ?_
                        refine d_p 17 rfl (p_pickt rfl rfl hg33 rfl) (by kernel_rfl) rfl rfl ?_
                        refine d_p 18 rfl (p_indexAddr rfl rfl rfl sl_37 ((nth D.of n)) (by omega) (by omega) hgow) (by kernel_rfl) rfl rfl ?_
                        refine d_slot (show _ = Value.pointer (some ⟨gow, nth D.of n * 1, none⟩) from by rw [Nat.zero_add]) ?_
                        refine d_h0 19 rfl (h_store rfl rfl rfl sz_4 rfl aPt (by rw [bo_len]; (try rw [List.length_set]); omega) rfl) (by kernel_rfl) (fun w h => h.ent aEt) (fun _ _ => ?_)
                        refine d_turn [] (by kernel_rfl) ?_
                        refine d_nil (by kernel_rfl) (fun w h => h.ent aEt) ?_
                        refine s_seq ?_
                        refine s_weaken (L' := [(0, _), (4, _), (6, _), (7, _), (8, _), (9, _), (10, _), (11, _), (14, _)]) aSx (fun _ h => h) ?_
                        refine s_region ?_
                        refine o_p (p_pure rfl) rfl ?_
                        refine o_nil ?_
                        refine s_seq ?_
                        refine s_seq ?_
                        refine s_region ?_
                        refine o_p (p_pure rfl) rfl ?_
                        refine o_nil ?_
                        refine s_block ?_
                        refine s_class (fun w h => HS.blk_to (b := ggn) h aPk (set_bo (x := true) (by omega : n < D.gn.length))) ?_
                        refine s_class (fun w h => HS.blk_to (b := gow) h aPk (set_boE (x := nth D.ow (nth D.of n) || nth D.on n) (by omega : nth D.of n < D.ow.length) (by simp only [*, Bool.true_or, Bool.false_or]))) ?_
                        refine s_loopI (α := Nat) [15, 16, 180, 181, 182, 183, 184, 185, 186, 187, 188, 189, 190, 191, 192, 193, 194, 195, 196, 197, 198, 199, 200, 201, 202, 203] (fun k => [(16, .int .i64 (k : Int)), (15, .int .i64 ((lft D.of (D.gn.set n true) (nth D.of n) k : Nat) : Int))]) (fun _ => _) (fun k => k ≤ D.of.length ∧ lft D.of (D.gn.set n true) (nth D.of n) k ≤ k) (fun k => D.of.length - k) 0 ⟨Nat.zero_le _, Nat.zero_le _⟩ aSx (fun w h => h) (fun k hk => ?_)
                        obtain ⟨hk5, hk6⟩ := hk
                        refine s_seq ?_
                        refine s_seq ?_
                        refine s_region ?_
                        refine o_p (p_pure rfl) rfl ?_
                        refine o_p (p_pure rfl) rfl ?_
                        refine o_p (p_len_slice rfl rfl Try.underlying38) rfl ?_
                        refine o_p (p_pure rfl) rfl ?_
                        refine o_nil ?_
                        refine s_cond rfl (fun h35 => ?_) (fun h35 => ?_)
                        · try simp only [decide_eq_true_eq, decide_eq_false_iff_not, Bool.not_eq_true', Bool.not_eq_false', Bool.and_eq_true, Bool.or_eq_true, Bool.and_eq_false_iff, Bool.or_eq_false_iff, Bool.not_true, Bool.not_false] at h35
                          have hkn : k < D.of.length := by omega
                          refine s_skip ?_
                          refine s_seq ?_
                          refine s_block ?_
                          refine s_seq ?_
                          refine s_draw [] mixed ?_
                          refine d_p 0 rfl (p_pure rfl) (by kernel_rfl) rfl rfl ?_
                          refine d_p 1 rfl (p_pure rfl) (by kernel_rfl) rfl rfl ?_
                          refine d_p 2 rfl (p_indexAddr rfl rfl rfl sl_38 (k) (by omega) (by omega) hgof) (by kernel_rfl) rfl rfl ?_
                          refine d_q 3 [] rfl (q_load_at rfl rfl sz_3 (fun w h => by have h9 := (h.rw_own (vals := naV) (fun _ => rfl) (a := A.oa) aPk (by first | rfl | omega)).rdj 0 hkn rfl; rw [hgof] at h9; exact h9)) (by kernel_rfl) (by kernel_rfl) (by kernel_rfl) rfl ?_
                          refine d_p 4 rfl (p_pure rfl) (by kernel_rfl) rfl rfl ?_
                          refine d_p 5 rfl (p_pure rfl) (by kernel_rfl) rfl rfl ?_
                          refine d_p 6 rfl (p_indexAddr rfl rfl rfl sl_38 (n) (by omega) (by omega) hgof) (by kernel_rfl) rfl rfl ?_
                          refine d_q 7 [] rfl (q_load_at rfl rfl sz_3 (fun w h => by have h9 := (h.rw_own (vals := naV) (fun _ => rfl) (a := A.oa) aPk (by first | rfl | omega)).rdj 0 hn1 rfl; rw [hgof] at h9; exact h9)) (by kernel_rfl) (by kernel_rfl) (by kernel_rfl) rfl ?_
                          refine d_p 8 rfl (p_pure rfl) (by kernel_rfl) rfl rfl ?_
                          refine d_p 9 rfl (p_pure rfl) (by kernel_rfl) rfl rfl ?_
                          apply d_split 195
                          · exact rfl
                          · intro hg36
                            have hs37 := hg36; try simp only [decide_eq_true_eq, decide_eq_false_iff_not, Bool.not_eq_true', Bool.not_eq_false', Bool.and_eq_true, Bool.or_eq_true, Bool.and_eq_false_iff, Bool.or_eq_false_iff, Bool.not_true, Bool.not_false] at hs37
                            refine d_pon 10 195 rfl rfl rfl hg36 (p_pure rfl) (by kernel_rfl) rfl rfl ?_
                            refine d_pon 11 195 rfl rfl rfl hg36 (p_pure rfl) (by kernel_rfl) rfl rfl ?_
                            refine d_pon 12 195 rfl rfl rfl hg36 (p_indexAddr rfl rfl rfl sl_37 (k) (by omega) (by omega) hggn) (by kernel_rfl) rfl rfl ?_
                            refine d_qon 13 195 [] rfl rfl rfl hg36 (q_load_at rfl rfl sz_4 (fun w h => by rw [Nat.zero_add]; have h9 := row_rd (vals := boV) (sz := 1) (l := (D.gn.set n true)) (i := k) (b := ggn) (fun _ => rfl) (by rw [List.length_set]; omega) h aPk 0 _ rfl; exact h9)) (by kernel_rfl) (by kernel_rfl) (by kernel_rfl) rfl ?_
                            refine d_pon 14 195 rfl rfl rfl hg36 (p_pure rfl) (by kernel_rfl) rfl rfl ?_
                            refine d_p 15 rfl (p_pickt rfl rfl hg36 rfl) (by kernel_rfl) rfl rfl ?_
                            refine d_nil (by kernel_rfl) (fun w h => h.ent aEt) ?_
                            refine s_cond rfl (fun h38 => ?_) (fun h38 => ?_)
                            · try simp only [decide_eq_true_eq, decide_eq_false_iff_not, Bool.not_eq_true', Bool.not_eq_false', Bool.and_eq_true, Bool.or_eq_true, Bool.and_eq_false_iff, Bool.or_eq_false_iff, Bool.not_true, Bool.not_false] at h38
                              have hls : lft D.of (D.gn.set n true) (nth D.of n) (k + 1) = lft D.of (D.gn.set n true) (nth D.of n) k + 1 := by have hq := h38; first | (exfalso; simp at hq; done) | (rw [lft_succ, if_pos]; (try simp at hq); exact ⟨by omega, by simp_all⟩) | (rw [lft_succ, if_pos]; exact ⟨by omega, by simp_all⟩)
                              refine s_weaken (L' := [(0, _), (4, _), (6, _), (7, _), (8, _), (9, _), (10, _), (11, _), (14, _), (15, _), (16, _)]) aSx (fun _ h => h) ?_
                              refine s_region ?_
                              refine o_p (p_pure rfl) rfl ?_
                              refine o_p (p_pure rfl) rfl ?_
                              try (refine o_slot (i64w (by omega) (by omega)) ?_)
                              refine o_p (p_pure rfl) rfl ?_
                              refine o_nil ?_
                              refine s_blk ?_
                              refine s_region ?_
                              refine o_p (p_pure rfl) rfl ?_
                              refine o_p (p_pure rfl) rfl ?_
                              try (refine o_slot (i64w (by omega) (by omega)) ?_)
                              refine o_p (p_pure rfl) rfl ?_
                              refine o_nil ?_
                              exact s_backI (k + 1) (by omega) ⟨by omega, by omega⟩ (by (try dsimp only); rw [hls]; exact aSx) (fun w h => h)
                            · try simp only [decide_eq_true_eq, decide_eq_false_iff_not, Bool.not_eq_true', Bool.not_eq_false', Bool.and_eq_true, Bool.or_eq_true, Bool.and_eq_false_iff, Bool.or_eq_false_iff, Bool.not_true, Bool.not_false] at h38
                              have hls : lft D.of (D.gn.set n true) (nth D.of n) (k + 1) = lft D.of (D.gn.set n true) (nth D.of n) k := by have hq := h38; rw [lft_succ, if_neg, Nat.add_zero]; (try simp at hq); rintro ⟨q1, q2⟩; simp_all
                              refine s_skip ?_
                              refine s_blk ?_
                              refine s_weaken (L' := [(0, _), (4, _), (6, _), (7, _), (8, _), (9, _), (10, _), (11, _), (14, _), (15, _), (16, _)]) aSx (fun _ h => h) ?_
                              refine s_region ?_
                              refine o_p (p_pure rfl) rfl ?_
                              refine o_p (p_pure rfl) rfl ?_
                              try (refine o_slot (i64w (by omega) (by omega)) ?_)
                              refine o_p (p_pure rfl) rfl ?_
                              refine o_nil ?_
                              exact s_backI (k + 1) (by omega) ⟨by omega, by omega⟩ (by (try dsimp only); rw [hls]; exact aSx) (fun w h => h)
                          · intro hg39
                            have hs40 := hg39; try simp only [decide_eq_true_eq, decide_eq_false_iff_not, Bool.not_eq_true', Bool.not_eq_false', Bool.and_eq_true, Bool.or_eq_true, Bool.and_eq_false_iff, Bool.or_eq_false_iff, Bool.not_true, Bool.not_false] at hs40
                            refine d_off 10 195 rfl rfl rfl hg39 (by kernel_rfl) rfl rfl ?_
                            refine d_off 11 195 rfl rfl rfl hg39 (by kernel_rfl) rfl rfl ?_
                            refine d_off 12 195 rfl rfl rfl hg39 (by kernel_rfl) rfl rfl ?_
                            refine d_off 13 195 rfl rfl rfl hg39 (by kernel_rfl) rfl rfl ?_
                            refine d_off 14 195 rfl rfl rfl hg39 (by kernel_rfl) rfl rfl ?_
                            refine d_p 15 rfl (p_pickf rfl rfl hg39 rfl) (by kernel_rfl) rfl rfl ?_
                            refine d_nil (by kernel_rfl) (fun w h => h.ent aEt) ?_
                            refine s_cond rfl (fun h41 => ?_) (fun h41 => ?_)
                            · try simp only [decide_eq_true_eq, decide_eq_false_iff_not, Bool.not_eq_true', Bool.not_eq_false', Bool.and_eq_true, Bool.or_eq_true, Bool.and_eq_false_iff, Bool.or_eq_false_iff, Bool.not_true, Bool.not_false] at h41
                              have hls : lft D.of (D.gn.set n true) (nth D.of n) (k + 1) = lft D.of (D.gn.set n true) (nth D.of n) k + 1 := by have hq := h41; first | (exfalso; simp at hq; done) | (rw [lft_succ, if_pos]; (try simp at hq); exact ⟨by omega, by simp_all⟩) | (rw [lft_succ, if_pos]; exact ⟨by omega, by simp_all⟩)
                              refine s_weaken (L' := [(0, _), (4, _), (6, _), (7, _), (8, _), (9, _), (10, _), (11, _), (14, _), (15, _), (16, _)]) aSx (fun _ h => h) ?_
                              refine s_region ?_
                              refine o_p (p_pure rfl) rfl ?_
                              refine o_p (p_pure rfl) rfl ?_
                              try (refine o_slot (i64w (by omega) (by omega)) ?_)
                              refine o_p (p_pure rfl) rfl ?_
                              refine o_nil ?_
                              refine s_blk ?_
                              refine s_region ?_
                              refine o_p (p_pure rfl) rfl ?_
                              refine o_p (p_pure rfl) rfl ?_
                              try (refine o_slot (i64w (by omega) (by omega)) ?_)
                              refine o_p (p_pure rfl) rfl ?_
                              refine o_nil ?_
                              exact s_backI (k + 1) (by omega) ⟨by omega, by omega⟩ (by (try dsimp only); rw [hls]; exact aSx) (fun w h => h)
                            · try simp only [decide_eq_true_eq, decide_eq_false_iff_not, Bool.not_eq_true', Bool.not_eq_false', Bool.and_eq_true, Bool.or_eq_true, Bool.and_eq_false_iff, Bool.or_eq_false_iff, Bool.not_true, Bool.not_false] at h41
                              have hls : lft D.of (D.gn.set n true) (nth D.of n) (k + 1) = lft D.of (D.gn.set n true) (nth D.of n) k := by have hq := h41; rw [lft_succ, if_neg, Nat.add_zero]; (try simp at hq); rintro ⟨q1, q2⟩; simp_all
                              refine s_skip ?_
                              refine s_blk ?_
                              refine s_weaken (L' := [(0, _), (4, _), (6, _), (7, _), (8, _), (9, _), (10, _), (11, _), (14, _), (15, _), (16, _)]) aSx (fun _ h => h) ?_
                              refine s_region ?_
                              refine o_p (p_pure rfl) rfl ?_
                              refine o_p (p_pure rfl) rfl ?_
                              try (refine o_slot (i64w (by omega) (by omega)) ?_)
                              refine o_p (p_pure rfl) rfl ?_
                              refine o_nil ?_
                              exact s_backI (k + 1) (by omega) ⟨by omega, by omega⟩ (by (try dsimp only); rw [hls]; exact aSx) (fun w h => h)
                        · try simp only [decide_eq_true_eq, decide_eq_false_iff_not, Bool.not_eq_true', Bool.not_eq_false', Bool.and_eq_true, Bool.or_eq_true, Bool.and_eq_false_iff, Bool.or_eq_false_iff, Bool.not_true, Bool.not_false] at h35
                          obtain rfl : k = D.of.length := by omega
                          refine s_exit_to rfl ?_
                          refine s_seq ?_
                          refine s_seq ?_
                          refine s_draw [] mixed ?_
                          refine d_p 0 rfl (p_pure rfl) (by kernel_rfl) rfl rfl ?_
                          refine d_p 1 rfl (p_pure rfl) (by kernel_rfl) rfl rfl ?_
                          refine d_p 2 rfl (p_indexAddr rfl rfl rfl sl_27 (i) (by omega) (by omega) hgo) (by kernel_rfl) rfl rfl ?_
                          refine d_p 3 rfl (p_fieldAddr rfl rfl fd_40_1 sz_3 rfl) (by kernel_rfl) rfl rfl ?_
                          refine d_q 4 [] rfl (q_load_at rfl rfl sz_3 (fun w h => by have h9 := (h.rw_own (vals := ansV) (fun _ => rfl) (a := o.1) aPk (by first | rfl | omega)).rdj 1 hra rfl; rw [hgo] at h9; exact h9)) (by kernel_rfl) (by kernel_rfl) (by kernel_rfl) rfl ?_
                          refine d_p 5 rfl (p_pure rfl) (by kernel_rfl) rfl rfl ?_
                          refine d_p 6 rfl (p_pure rfl) (by kernel_rfl) rfl rfl ?_
                          refine d_p 7 rfl (p_pure rfl) (by kernel_rfl) rfl rfl ?_
                          refine d_p 8 rfl (p_pure rfl) (by kernel_rfl) rfl rfl ?_
                          apply d_split 212
                          · exact rfl
                          · intro hg42
                            have hs43 := hg42; try simp only [decide_eq_true_eq, decide_eq_false_iff_not, Bool.not_eq_true', Bool.not_eq_false', Bool.and_eq_true, Bool.or_eq_true, Bool.and_eq_false_iff, Bool.or_eq_false_iff, Bool.not_true, Bool.not_false] at hs43
                            refine d_pon 9 212 rfl rfl rfl hg42 (p_pure rfl) (by kernel_rfl) rfl rfl ?_
                            refine d_pon 10 212 rfl rfl rfl hg42 (p_pure rfl) (by kernel_rfl) rfl rfl ?_
                            refine d_pon 11 212 rfl rfl rfl hg42 (p_pure rfl) (by kernel_rfl) rfl rfl ?_
                            refine d_pon 12 212 rfl rfl rfl hg42 (p_indexAddr rfl rfl rfl sl_38 (n) (by omega) (by omega) hgof) (by kernel_rfl) rfl rfl ?_
                            refine d_qon 13 212 [] rfl rfl rfl hg42 (q_load_at rfl rfl sz_3 (fun w h => by have h9 := (h.rw_own (vals := naV) (fun _ => rfl) (a := A.oa) aPk (by first | rfl | omega)).rdj 0 hn1 rfl; rw [hgof] at h9; exact h9)) (by kernel_rfl) (by kernel_rfl) (by kernel_rfl) rfl ?_
                            refine d_pon 14 212 rfl rfl rfl hg42 (p_indexAddr rfl rfl rfl sl_37 ((nth D.of n)) (by omega) (by omega) hgow) (by kernel_rfl) rfl rfl ?_
                            refine d_qon 15 212 [] rfl rfl rfl hg42 (q_load_at rfl rfl sz_4 (fun w h => by rw [Nat.zero_add]; have h9 := row_rd (vals := boV) (sz := 1) (l := (D.ow.set (nth D.of n) (nth D.ow (nth D.of n) || nth D.on n))) (i := (nth D.of n)) (b := gow) (fun _ => rfl) (by rw [List.length_set]; omega) h aPk 0 _ rfl; exact h9)) (by kernel_rfl) (by kernel_rfl) (by kernel_rfl) rfl ?_
                            refine d_p 16 rfl (p_pickt rfl rfl hg42 rfl) (by kernel_rfl) rfl rfl ?_
                            refine d_p 17 rfl (p_neq_bool rfl rfl rfl Try.underlying4) (by kernel_rfl) rfl rfl ?_
                            refine d_nil (by kernel_rfl) (fun w h => h.ent aEt) ?_
                            refine s_cond rfl (fun h44 => ?_) (fun h44 => ?_)
                            · try simp only [decide_eq_true_eq, decide_eq_false_iff_not, Bool.not_eq_true', Bool.not_eq_false', Bool.and_eq_true, Bool.or_eq_true, Bool.and_eq_false_iff, Bool.or_eq_false_iff, Bool.not_true, Bool.not_false] at h44
                              exfalso; have hq := h44; rw [hv1] at hq; (try rw [hv2] at hq); revert hq; cases nth D.ow (nth D.of n) <;> cases nth D.on n <;> simp_all
                            · try simp only [decide_eq_true_eq, decide_eq_false_iff_not, Bool.not_eq_true', Bool.not_eq_false', Bool.and_eq_true, Bool.or_eq_true, Bool.and_eq_false_iff, Bool.or_eq_false_iff, Bool.not_true, Bool.not_false] at h44
                              refine s_skip ?_
                              refine s_seq ?_
                              refine s_weaken (L' := [(0, _), (4, _), (6, _), (7, _), (8, _), (9, _), (10, _), (11, _), (14, _), (15, _), (16, _)]) aSx (fun _ h => h) ?_
                              refine s_region ?_
                              refine o_p (p_pure rfl) rfl ?_
                              refine o_p (p_pure rfl) rfl ?_
                              refine o_nil ?_
                              refine s_cond rfl (fun h45 => ?_) (fun h45 => ?_)
                              · try simp only [decide_eq_true_eq, decide_eq_false_iff_not, Bool.not_eq_true', Bool.not_eq_false', Bool.and_eq_true, Bool.or_eq_true, Bool.and_eq_false_iff, Bool.or_eq_false_iff, Bool.not_true, Bool.not_false] at h45
                                refine s_region ?_
                                refine o_p (p_pure rfl) rfl ?_
                                refine o_p (p_pure rfl) rfl ?_
                                refine o_p (p_pure rfl) rfl ?_
                                refine o_p (p_indexAddr rfl rfl rfl sl_38 (n) (by omega) (by omega) hgof) rfl ?_
                                refine o_q (q_load_at rfl rfl sz_3 (fun w h => by have h9 := (h.rw_own (vals := naV) (fun _ => rfl) (a := A.oa) aPk (by first | rfl | omega)).rdj 0 hn1 rfl; rw [hgof] at h9; exact h9)) rfl ?_
                                refine o_p (p_indexAddr rfl rfl rfl sl_37 ((nth D.of n)) (by omega) (by omega) hgow) rfl ?_
                                refine o_slot (show _ = Value.pointer (some ⟨gow, nth D.of n * 1, none⟩) from by rw [Nat.zero_add]) ?_
                                refine o_h0 (h_store rfl rfl rfl sz_4 rfl aPt (by rw [bo_len]; (try rw [List.length_set]); omega) rfl) (fun _ _ => ?_)
                                refine o_nil ?_
                                refine s_blk ?_
                                refine s_region ?_
                                refine o_p (p_pure rfl) rfl ?_
                                refine o_p (p_pure rfl) rfl ?_
                                try (refine o_slot (i64w (by omega) (by omega)) ?_)
                                refine o_p (p_pure rfl) rfl ?_
                                refine o_nil ?_
                                have hlz : lft D.of (D.gn.set n true) (nth D.of n) D.of.length = 0 := by have hq := h45; omega
                                rw [if_pos hlz] at hcD
                                exact s_backI (i + 1, ⟨D.fl, D.ow.set (nth D.of n) false, D.of, D.on, D.gn.set n true⟩, A) (by show l.length - (i + 1) < l.length - i; omega) ⟨by show i + 1 ≤ l.length; omega, by rw [e3]; exact hcD, hA1, hA2, by show A.nn ≤ i + 1; omega, by show A.nf ≤ i + 1; omega⟩ aSx (fun w h => by dsimp only; have h1 := HS.blk_to (b := gow) h aPk (set_bo2 (x := false) (by omega : nth D.of n < D.ow.length)); have h2 := HS.to_own1 (n' := 0) (a := A.wa) (n := A.nf) (cap := A.wc) h1 aPk hgow (by rw [bo_len, List.length_set]; omega) howc howm; have h3 := HS.to_own1 (n' := 0) (a := A.ga) (n := A.nn) (cap := A.gc) h2 aPk hggn (by rw [bo_len, List.length_set]; omega) hgnc hgnm; exact h3.ent aEt)
                              · try simp only [decide_eq_true_eq, decide_eq_false_iff_not, Bool.not_eq_true', Bool.not_eq_false', Bool.and_eq_true, Bool.or_eq_true, Bool.and_eq_false_iff, Bool.or_eq_false_iff, Bool.not_true, Bool.not_false] at h45
                                refine s_skip ?_
                                refine s_blk ?_
                                refine s_region ?_
                                refine o_p (p_pure rfl) rfl ?_
                                refine o_p (p_pure rfl) rfl ?_
                                try (refine o_slot (i64w (by omega) (by omega)) ?_)
                                refine o_p (p_pure rfl) rfl ?_
                                refine o_nil ?_
                                have hlz : ¬ lft D.of (D.gn.set n true) (nth D.of n) D.of.length = 0 := by have hq := h45; omega
                                rw [if_neg hlz] at hcD
                                exact s_backI (i + 1, ⟨D.fl, D.ow.set (nth D.of n) (nth D.ow (nth D.of n) || nth D.on n), D.of, D.on, D.gn.set n true⟩, A) (by show l.length - (i + 1) < l.length - i; omega) ⟨by show i + 1 ≤ l.length; omega, by rw [e3]; exact hcD, hA1, hA2, by show A.nn ≤ i + 1; omega, by show A.nf ≤ i + 1; omega⟩ aSx (fun w h => by dsimp only; have h2 := HS.to_own1 (n' := 0) (a := A.wa) (n := A.nf) (cap := A.wc) h aPk hgow (by rw [bo_len, List.length_set]; omega) howc howm; have h3 := HS.to_own1 (n' := 0) (a := A.ga) (n := A.nn) (cap := A.gc) h2 aPk hggn (by rw [bo_len, List.length_set]; omega) hgnc hgnm; exact h3.ent aEt)
                          · intro hg46
                            have hs47 := hg46; try simp only [decide_eq_true_eq, decide_eq_false_iff_not, Bool.not_eq_true', Bool.not_eq_false', Bool.and_eq_true, Bool.or_eq_true, Bool.and_eq_false_iff, Bool.or_eq_false_iff, Bool.not_true, Bool.not_false] at hs47
                            refine d_off 9 212 rfl rfl rfl hg46 (by kernel_rfl) rfl rfl ?_
                            refine d_off 10 212 rfl rfl rfl hg46 (by kernel_rfl) rfl rfl ?_
                            refine d_off 11 212 rfl rfl rfl hg46 (by kernel_rfl) rfl rfl ?_
                            refine d_off 12 212 rfl rfl rfl hg46 (by kernel_rfl) rfl rfl ?_
                            refine d_off 13 212 rfl rfl rfl hg46 (by kernel_rfl) rfl rfl ?_
                            refine d_off 14 212 rfl rfl rfl hg46 (by kernel_rfl) rfl rfl ?_
                            refine d_off 15 212 rfl rfl rfl hg46 (by kernel_rfl) rfl rfl ?_
                            refine d_p 16 rfl (p_pickf rfl rfl hg46 rfl) (by kernel_rfl) rfl rfl ?_
                            refine d_p 17 rfl (p_neq_bool rfl rfl rfl Try.underlying4) (by kernel_rfl) rfl rfl ?_
                            refine d_nil (by kernel_rfl) (fun w h => h.ent aEt) ?_
                            refine s_cond rfl (fun h48 => ?_) (fun h48 => ?_)
                            · try simp only [decide_eq_true_eq, decide_eq_false_iff_not, Bool.not_eq_true', Bool.not_eq_false', Bool.and_eq_true, Bool.or_eq_true, Bool.and_eq_false_iff, Bool.or_eq_false_iff, Bool.not_true, Bool.not_false] at h48
                              exfalso; have hq := h48; rw [hv1] at hq; (try rw [hv2] at hq); revert hq; cases nth D.ow (nth D.of n) <;> cases nth D.on n <;> simp_all
                            · try simp only [decide_eq_true_eq, decide_eq_false_iff_not, Bool.not_eq_true', Bool.not_eq_false', Bool.and_eq_true, Bool.or_eq_true, Bool.and_eq_false_iff, Bool.or_eq_false_iff, Bool.not_true, Bool.not_false] at h48
                              refine s_skip ?_
                              refine s_seq ?_
                              refine s_weaken (L' := [(0, _), (4, _), (6, _), (7, _), (8, _), (9, _), (10, _), (11, _), (14, _), (15, _), (16, _)]) aSx (fun _ h => h) ?_
                              refine s_region ?_
                              refine o_p (p_pure rfl) rfl ?_
                              refine o_p (p_pure rfl) rfl ?_
                              refine o_nil ?_
                              refine s_cond rfl (fun h49 => ?_) (fun h49 => ?_)
                              · try simp only [decide_eq_true_eq, decide_eq_false_iff_not, Bool.not_eq_true', Bool.not_eq_false', Bool.and_eq_true, Bool.or_eq_true, Bool.and_eq_false_iff, Bool.or_eq_false_iff, Bool.not_true, Bool.not_false] at h49
                                refine s_region ?_
                                refine o_p (p_pure rfl) rfl ?_
                                refine o_p (p_pure rfl) rfl ?_
                                refine o_p (p_pure rfl) rfl ?_
                                refine o_p (p_indexAddr rfl rfl rfl sl_38 (n) (by omega) (by omega) hgof) rfl ?_
                                refine o_q (q_load_at rfl rfl sz_3 (fun w h => by have h9 := (h.rw_own (vals := naV) (fun _ => rfl) (a := A.oa) aPk (by first | rfl | omega)).rdj 0 hn1 rfl; rw [hgof] at h9; exact h9)) rfl ?_
                                refine o_p (p_indexAddr rfl rfl rfl sl_37 ((nth D.of n)) (by omega) (by omega) hgow) rfl ?_
                                refine o_slot (show _ = Value.pointer (some ⟨gow, nth D.of n * 1, none⟩) from by rw [Nat.zero_add]) ?_
                                refine o_h0 (h_store rfl rfl rfl sz_4 rfl aPt (by rw [bo_len]; (try rw [List.length_set]); omega) rfl) (fun _ _ => ?_)
                                refine o_nil ?_
                                refine s_blk ?_
                                refine s_region ?_
                                refine o_p (p_pure rfl) rfl ?_
                                refine o_p (p_pure rfl) rfl ?_
                                try (refine o_slot (i64w (by omega) (by omega)) ?_)
                                refine o_p (p_pure rfl) rfl ?_
                                refine o_nil ?_
                                have hlz : lft D.of (D.gn.set n true) (nth D.of n) D.of.length = 0 := by have hq := h49; omega
                                rw [if_pos hlz] at hcD
                                exact s_backI (i + 1, ⟨D.fl, D.ow.set (nth D.of n) false, D.of, D.on, D.gn.set n true⟩, A) (by show l.length - (i + 1) < l.length - i; omega) ⟨by show i + 1 ≤ l.length; omega, by rw [e3]; exact hcD, hA1, hA2, by show A.nn ≤ i + 1; omega, by show A.nf ≤ i + 1; omega⟩ aSx (fun w h => by dsimp only; have h1 := HS.blk_to (b := gow) h aPk (set_bo2 (x := false) (by omega : nth D.of n < D.ow.length)); have h2 := HS.to_own1 (n' := 0) (a := A.wa) (n := A.nf) (cap := A.wc) h1 aPk hgow (by rw [bo_len, List.length_set]; omega) howc howm; have h3 := HS.to_own1 (n' := 0) (a := A.ga) (n := A.nn) (cap := A.gc) h2 aPk hggn (by rw [bo_len, List.length_set]; omega) hgnc hgnm; exact h3.ent aEt)
                              · try simp only [decide_eq_true_eq, decide_eq_false_iff_not, Bool.not_eq_true', Bool.not_eq_false', Bool.and_eq_true, Bool.or_eq_true, Bool.and_eq_false_iff, Bool.or_eq_false_iff, Bool.not_true, Bool.not_false] at h49
                                refine s_skip ?_
                                refine s_blk ?_
                                refine s_region ?_
                                refine o_p (p_pure rfl) rfl ?_
                                refine o_p (p_pure rfl) rfl ?_
                                try (refine o_slot (i64w (by omega) (by omega)) ?_)
                                refine o_p (p_pure rfl) rfl ?_
                                refine o_nil ?_
                                have hlz : ¬ lft D.of (D.gn.set n true) (nth D.of n) D.of.length = 0 := by have hq := h49; omega
                                rw [if_neg hlz] at hcD
                                exact s_backI (i + 1, ⟨D.fl, D.ow.set (nth D.of n) (nth D.ow (nth D.of n) || nth D.on n), D.of, D.on, D.gn.set n true⟩, A) (by show l.length - (i + 1) < l.length - i; omega) ⟨by show i + 1 ≤ l.length; omega, by rw [e3]; exact hcD, hA1, hA2, by show A.nn ≤ i + 1; omega, by show A.nf ≤ i + 1; omega⟩ aSx (fun w h => by dsimp only; have h2 := HS.to_own1 (n' := 0) (a := A.wa) (n := A.nf) (cap := A.wc) h aPk hgow (by rw [bo_len, List.length_set]; omega) howc howm; have h3 := HS.to_own1 (n' := 0) (a := A.ga) (n := A.nn) (cap := A.gc) h2 aPk hggn (by rw [bo_len, List.length_set]; omega) hgnc hgnm; exact h3.ent aEt)
                      · intro hg50
                        have hs51 := hg50; try simp only [decide_eq_true_eq, decide_eq_false_iff_not, Bool.not_eq_true', Bool.not_eq_false', Bool.and_eq_true, Bool.or_eq_true, Bool.and_eq_false_iff, Bool.or_eq_false_iff, Bool.not_true, Bool.not_false] at hs51
                        refine d_pon 13 173 rfl rfl rfl hg50 (p_pure rfl) (by kernel_rfl) rfl rfl ?_
                        refine d_pon 14 173 rfl rfl rfl hg50 (p_pure rfl) (by kernel_rfl) rfl rfl ?_
                        refine d_pon 15 173 rfl rfl rfl hg50 (p_indexAddr rfl rfl rfl sl_37 (n) (by omega) (by omega) hgon) (by kernel_rfl) rfl rfl ?_
                        refine d_qon 16 173 [[]] rfl rfl rfl hg50 (q_load_at rfl rfl sz_4 (fun w h => by have h9 := (h.rw_own (vals := boV) (fun _ => rfl) (a := A.na) aPk (by first | rfl | omega)).rdj 0 (by omega : n < D.on.length) rfl; rw [hgon] at h9; exact h9)) (by kernel_rfl) (by kernel_rfl) (by kernel_rfl) rfl ?_
                        refine d_p 17 rfl (p_pickf rfl rfl hg50 rfl) (by kernel_rfl) rfl rfl ?_
                        refine d_p 18 rfl (p_indexAddr rfl rfl rfl sl_37 ((nth D.of n)) (by omega) (by omega) hgow) (by kernel_rfl) rfl rfl ?_
                        refine d_slot (show _ = Value.pointer (some ⟨gow, nth D.of n * 1, none⟩) from by rw [Nat.zero_add]) ?_
                        refine d_h0 19 rfl (h_store rfl rfl rfl sz_4 rfl aPt (by rw [bo_len]; (try rw [List.length_set]); omega) rfl) (by kernel_rfl) (fun w h => h.ent aEt) (fun _ _ => ?_)
                        refine d_turn [] (by kernel_rfl) ?_
                        refine d_nil (by kernel_rfl) (fun w h => h.ent aEt) ?_
                        refine s_seq ?_
                        refine s_weaken (L' := [(0, _), (4, _), (6, _), (7, _), (8, _), (9, _), (10, _), (11, _), (14, _)]) aSx (fun _ h => h) ?_
                        refine s_region ?_
                        refine o_p (p_pure rfl) rfl ?_
                        refine o_nil ?_
                        refine s_seq ?_
                        refine s_seq ?_
                        refine s_region ?_
                        refine o_p (p_pure rfl) rfl ?_
                        refine o_nil ?_
                        refine s_block ?_
                        refine s_class (fun w h => HS.blk_to (b := ggn) h aPk (set_bo (x := true) (by omega : n < D.gn.length))) ?_
                        refine s_class (fun w h => HS.blk_to (b := gow) h aPk (set_boE (x := nth D.ow (nth D.of n) || nth D.on n) (by omega : nth D.of n < D.ow.length) (by simp only [*, Bool.true_or, Bool.false_or]))) ?_
                        refine s_loopI (α := Nat) [15, 16, 180, 181, 182, 183, 184, 185, 186, 187, 188, 189, 190, 191, 192, 193, 194, 195, 196, 197, 198, 199, 200, 201, 202, 203] (fun k => [(16, .int .i64 (k : Int)), (15, .int .i64 ((lft D.of (D.gn.set n true) (nth D.of n) k : Nat) : Int))]) (fun _ => _) (fun k => k ≤ D.of.length ∧ lft D.of (D.gn.set n true) (nth D.of n) k ≤ k) (fun k => D.of.length - k) 0 ⟨Nat.zero_le _, Nat.zero_le _⟩ aSx (fun w h => h) (fun k hk => ?_)
                        obtain ⟨hk5, hk6⟩ := hk
                        refine s_seq ?_
                        refine s_seq ?_
                        refine s_region ?_
                        refine o_p (p_pure rfl) rfl ?_
                        refine o_p (p_pure rfl) rfl ?_
                        refine o_p (p_len_slice rfl rfl Try.underlying38) rfl ?_
                        refine o_p (p_pure rfl) rfl ?_
                        refine o_nil ?_
                        refine s_cond rfl (fun h52 => ?_) (fun h52 => ?_)
                        · try simp only [decide_eq_true_eq, decide_eq_false_iff_not, Bool.not_eq_true', Bool.not_eq_false', Bool.and_eq_true, Bool.or_eq_true, Bool.and_eq_false_iff, Bool.or_eq_false_iff, Bool.not_true, Bool.not_false] at h52
                          have hkn : k < D.of.length := by omega
                          refine s_skip ?_
                          refine s_seq ?_
                          refine s_block ?_
                          refine s_seq ?_
                          refine s_draw [] mixed ?_
                          refine d_p 0 rfl (p_pure rfl) (by kernel_rfl) rfl rfl ?_
                          refine d_p 1 rfl (p_pure rfl) (by kernel_rfl) rfl rfl ?_
                          refine d_p 2 rfl (p_indexAddr rfl rfl rfl sl_38 (k) (by omega) (by omega) hgof) (by kernel_rfl) rfl rfl ?_
                          refine d_q 3 [] rfl (q_load_at rfl rfl sz_3 (fun w h => by have h9 := (h.rw_own (vals := naV) (fun _ => rfl) (a := A.oa) aPk (by first | rfl | omega)).rdj 0 hkn rfl; rw [hgof] at h9; exact h9)) (by kernel_rfl) (by kernel_rfl) (by kernel_rfl) rfl ?_
                          refine d_p 4 rfl (p_pure rfl) (by kernel_rfl) rfl rfl ?_
                          refine d_p 5 rfl (p_pure rfl) (by kernel_rfl) rfl rfl ?_
                          refine d_p 6 rfl (p_indexAddr rfl rfl rfl sl_38 (n) (by omega) (by omega) hgof) (by kernel_rfl) rfl rfl ?_
                          refine d_q 7 [] rfl (q_load_at rfl rfl sz_3 (fun w h => by have h9 := (h.rw_own (vals := naV) (fun _ => rfl) (a := A.oa) aPk (by first | rfl | omega)).rdj 0 hn1 rfl; rw [hgof] at h9; exact h9)) (by kernel_rfl) (by kernel_rfl) (by kernel_rfl) rfl ?_
                          refine d_p 8 rfl (p_pure rfl) (by kernel_rfl) rfl rfl ?_
                          refine d_p 9 rfl (p_pure rfl) (by kernel_rfl) rfl rfl ?_
                          apply d_split 195
                          · exact rfl
                          · intro hg53
                            have hs54 := hg53; try simp only [decide_eq_true_eq, decide_eq_false_iff_not, Bool.not_eq_true', Bool.not_eq_false', Bool.and_eq_true, Bool.or_eq_true, Bool.and_eq_false_iff, Bool.or_eq_false_iff, Bool.not_true, Bool.not_false] at hs54
                            refine d_pon 10 195 rfl rfl rfl hg53 (p_pure rfl) (by kernel_rfl) rfl rfl ?_
                            refine d_pon 11 195 rfl rfl rfl hg53 (p_pure rfl) (by kernel_rfl) rfl rfl ?_
                            refine d_pon 12 195 rfl rfl rfl hg53 (p_indexAddr rfl rfl rfl sl_37 (k) (by omega) (by omega) hggn) (by kernel_rfl) rfl rfl ?_
                            refine d_qon 13 195 [] rfl rfl rfl hg53 (q_load_at rfl rfl sz_4 (fun w h => by rw [Nat.zero_add]; have h9 := row_rd (vals := boV) (sz := 1) (l := (D.gn.set n true)) (i := k) (b := ggn) (fun _ => rfl) (by rw [List.length_set]; omega) h aPk 0 _ rfl; exact h9)) (by kernel_rfl) (by kernel_rfl) (by kernel_rfl) rfl ?_
                            refine d_pon 14 195 rfl rfl rfl hg53 (p_pure rfl) (by kernel_rfl) rfl rfl ?_
                            refine d_p 15 rfl (p_pickt rfl rfl hg53 rfl) (by kernel_rfl) rfl rfl ?_
                            refine d_nil (by kernel_rfl) (fun w h => h.ent aEt) ?_
                            refine s_cond rfl (fun h55 => ?_) (fun h55 => ?_)
                            · try simp only [decide_eq_true_eq, decide_eq_false_iff_not, Bool.not_eq_true', Bool.not_eq_false', Bool.and_eq_true, Bool.or_eq_true, Bool.and_eq_false_iff, Bool.or_eq_false_iff, Bool.not_true, Bool.not_false] at h55
                              have hls : lft D.of (D.gn.set n true) (nth D.of n) (k + 1) = lft D.of (D.gn.set n true) (nth D.of n) k + 1 := by have hq := h55; first | (exfalso; simp at hq; done) | (rw [lft_succ, if_pos]; (try simp at hq); exact ⟨by omega, by simp_all⟩) | (rw [lft_succ, if_pos]; exact ⟨by omega, by simp_all⟩)
                              refine s_weaken (L' := [(0, _), (4, _), (6, _), (7, _), (8, _), (9, _), (10, _), (11, _), (14, _), (15, _), (16, _)]) aSx (fun _ h => h) ?_
                              refine s_region ?_
                              refine o_p (p_pure rfl) rfl ?_
                              refine o_p (p_pure rfl) rfl ?_
                              try (refine o_slot (i64w (by omega) (by omega)) ?_)
                              refine o_p (p_pure rfl) rfl ?_
                              refine o_nil ?_
                              refine s_blk ?_
                              refine s_region ?_
                              refine o_p (p_pure rfl) rfl ?_
                              refine o_p (p_pure rfl) rfl ?_
                              try (refine o_slot (i64w (by omega) (by omega)) ?_)
                              refine o_p (p_pure rfl) rfl ?_
                              refine o_nil ?_
                              exact s_backI (k + 1) (by omega) ⟨by omega, by omega⟩ (by (try dsimp only); rw [hls]; exact aSx) (fun w h => h)
                            · try simp only [decide_eq_true_eq, decide_eq_false_iff_not, Bool.not_eq_true', Bool.not_eq_false', Bool.and_eq_true, Bool.or_eq_true, Bool.and_eq_false_iff, Bool.or_eq_false_iff, Bool.not_true, Bool.not_false] at h55
                              have hls : lft D.of (D.gn.set n true) (nth D.of n) (k + 1) = lft D.of (D.gn.set n true) (nth D.of n) k := by have hq := h55; rw [lft_succ, if_neg, Nat.add_zero]; (try simp at hq); rintro ⟨q1, q2⟩; simp_all
                              refine s_skip ?_
                              refine s_blk ?_
                              refine s_weaken (L' := [(0, _), (4, _), (6, _), (7, _), (8, _), (9, _), (10, _), (11, _), (14, _), (15, _), (16, _)]) aSx (fun _ h => h) ?_
                              refine s_region ?_
                              refine o_p (p_pure rfl) rfl ?_
                              refine o_p (p_pure rfl) rfl ?_
                              try (refine o_slot (i64w (by omega) (by omega)) ?_)
                              refine o_p (p_pure rfl) rfl ?_
                              refine o_nil ?_
                              exact s_backI (k + 1) (by omega) ⟨by omega, by omega⟩ (by (try dsimp only); rw [hls]; exact aSx) (fun w h => h)
                          · intro hg56
                            have hs57 := hg56; try simp only [decide_eq_true_eq, decide_eq_false_iff_not, Bool.not_eq_true', Bool.not_eq_false', Bool.and_eq_true, Bool.or_eq_true, Bool.and_eq_false_iff, Bool.or_eq_false_iff, Bool.not_true, Bool.not_false] at hs57
                            refine d_off 10 195 rfl rfl rfl hg56 (by kernel_rfl) rfl rfl ?_
                            refine d_off 11 195 rfl rfl rfl hg56 (by kernel_rfl) rfl rfl ?_
                            refine d_off 12 195 rfl rfl rfl hg56 (by kernel_rfl) rfl rfl ?_
                            refine d_off 13 195 rfl rfl rfl hg56 (by kernel_rfl) rfl rfl ?_
                            refine d_off 14 195 rfl rfl rfl hg56 (by kernel_rfl) rfl rfl ?_
                            refine d_p 15 rfl (p_pickf rfl rfl hg56 rfl) (by kernel_rfl) rfl rfl ?_
                            refine d_nil (by kernel_rfl) (fun w h => h.ent aEt) ?_
                            refine s_cond rfl (fun h58 => ?_) (fun h58 => ?_)
                            · try simp only [decide_eq_true_eq, decide_eq_false_iff_not, Bool.not_eq_true', Bool.not_eq_false', Bool.and_eq_true, Bool.or_eq_true, Bool.and_eq_false_iff, Bool.or_eq_false_iff, Bool.not_true, Bool.not_false] at h58
                              have hls : lft D.of (D.gn.set n true) (nth D.of n) (k + 1) = lft D.of (D.gn.set n true) (nth D.of n) k + 1 := by have hq := h58; first | (exfalso; simp at hq; done) | (rw [lft_succ, if_pos]; (try simp at hq); exact ⟨by omega, by simp_all⟩) | (rw [lft_succ, if_pos]; exact ⟨by omega, by simp_all⟩)
                              refine s_weaken (L' := [(0, _), (4, _), (6, _), (7, _), (8, _), (9, _), (10, _), (11, _), (14, _), (15, _), (16, _)]) aSx (fun _ h => h) ?_
                              refine s_region ?_
                              refine o_p (p_pure rfl) rfl ?_
                              refine o_p (p_pure rfl) rfl ?_
                              try (refine o_slot (i64w (by omega) (by omega)) ?_)
                              refine o_p (p_pure rfl) rfl ?_
                              refine o_nil ?_
                              refine s_blk ?_
                              refine s_region ?_
                              refine o_p (p_pure rfl) rfl ?_
                              refine o_p (p_pure rfl) rfl ?_
                              try (refine o_slot (i64w (by omega) (by omega)) ?_)
                              refine o_p (p_pure rfl) rfl ?_
                              refine o_nil ?_
                              exact s_backI (k + 1) (by omega) ⟨by omega, by omega⟩ (by (try dsimp only); rw [hls]; exact aSx) (fun w h => h)
                            · try simp only [decide_eq_true_eq, decide_eq_false_iff_not, Bool.not_eq_true', Bool.not_eq_false', Bool.and_eq_true, Bool.or_eq_true, Bool.and_eq_false_iff, Bool.or_eq_false_iff, Bool.not_true, Bool.not_false] at h58
                              have hls : lft D.of (D.gn.set n true) (nth D.of n) (k + 1) = lft D.of (D.gn.set n true) (nth D.of n) k := by have hq := h58; rw [lft_succ, if_neg, Nat.add_zero]; (try simp at hq); rintro ⟨q1, q2⟩; simp_all
                              refine s_skip ?_
                              refine s_blk ?_
                              refine s_weaken (L' := [(0, _), (4, _), (6, _), (7, _), (8, _), (9, _), (10, _), (11, _), (14, _), (15, _), (16, _)]) aSx (fun _ h => h) ?_
                              refine s_region ?_
                              refine o_p (p_pure rfl) rfl ?_
                              refine o_p (p_pure rfl) rfl ?_
                              try (refine o_slot (i64w (by omega) (by omega)) ?_)
                              refine o_p (p_pure rfl) rfl ?_
                              refine o_nil ?_
                              exact s_backI (k + 1) (by omega) ⟨by omega, by omega⟩ (by (try dsimp only); rw [hls]; exact aSx) (fun w h => h)
                        · try simp only [decide_eq_true_eq, decide_eq_false_iff_not, Bool.not_eq_true', Bool.not_eq_false', Bool.and_eq_true, Bool.or_eq_true, Bool.and_eq_false_iff, Bool.or_eq_false_iff, Bool.not_true, Bool.not_false] at h52
                          obtain rfl : k = D.of.length := by omega
                          refine s_exit_to rfl ?_
                          refine s_seq ?_
                          refine s_seq ?_
                          refine s_draw [] mixed ?_
                          refine d_p 0 rfl (p_pure rfl) (by kernel_rfl) rfl rfl ?_
                          refine d_p 1 rfl (p_pure rfl) (by kernel_rfl) rfl rfl ?_
                          refine d_p 2 rfl (p_indexAddr rfl rfl rfl sl_27 (i) (by omega) (by omega) hgo) (by kernel_rfl) rfl rfl ?_
                          refine d_p 3 rfl (p_fieldAddr rfl rfl fd_40_1 sz_3 rfl) (by kernel_rfl) rfl rfl ?_
                          refine d_q 4 [] rfl (q_load_at rfl rfl sz_3 (fun w h => by have h9 := (h.rw_own (vals := ansV) (fun _ => rfl) (a := o.1) aPk (by first | rfl | omega)).rdj 1 hra rfl; rw [hgo] at h9; exact h9)) (by kernel_rfl) (by kernel_rfl) (by kernel_rfl) rfl ?_
                          refine d_p 5 rfl (p_pure rfl) (by kernel_rfl) rfl rfl ?_
                          refine d_p 6 rfl (p_pure rfl) (by kernel_rfl) rfl rfl ?_
                          refine d_p 7 rfl (p_pure rfl) (by kernel_rfl) rfl rfl ?_
                          refine d_p 8 rfl (p_pure rfl) (by kernel_rfl) rfl rfl ?_
                          apply d_split 212
                          · exact rfl
                          · intro hg59
                            have hs60 := hg59; try simp only [decide_eq_true_eq, decide_eq_false_iff_not, Bool.not_eq_true', Bool.not_eq_false', Bool.and_eq_true, Bool.or_eq_true, Bool.and_eq_false_iff, Bool.or_eq_false_iff, Bool.not_true, Bool.not_false] at hs60
                            refine d_pon 9 212 rfl rfl rfl hg59 (p_pure rfl) (by kernel_rfl) rfl rfl ?_
                            refine d_pon 10 212 rfl rfl rfl hg59 (p_pure rfl) (by kernel_rfl) rfl rfl ?_
                            refine d_pon 11 212 rfl rfl rfl hg59 (p_pure rfl) (by kernel_rfl) rfl rfl ?_
                            refine d_pon 12 212 rfl rfl rfl hg59 (p_indexAddr rfl rfl rfl sl_38 (n) (by omega) (by omega) hgof) (by kernel_rfl) rfl rfl ?_
                            refine d_qon 13 212 [] rfl rfl rfl hg59 (q_load_at rfl rfl sz_3 (fun w h => by have h9 := (h.rw_own (vals := naV) (fun _ => rfl) (a := A.oa) aPk (by first | rfl | omega)).rdj 0 hn1 rfl; rw [hgof] at h9; exact h9)) (by kernel_rfl) (by kernel_rfl) (by kernel_rfl) rfl ?_
                            refine d_pon 14 212 rfl rfl rfl hg59 (p_indexAddr rfl rfl rfl sl_37 ((nth D.of n)) (by omega) (by omega) hgow) (by kernel_rfl) rfl rfl ?_
                            refine d_qon 15 212 [] rfl rfl rfl hg59 (q_load_at rfl rfl sz_4 (fun w h => by rw [Nat.zero_add]; have h9 := row_rd (vals := boV) (sz := 1) (l := (D.ow.set (nth D.of n) (nth D.ow (nth D.of n) || nth D.on n))) (i := (nth D.of n)) (b := gow) (fun _ => rfl) (by rw [List.length_set]; omega) h aPk 0 _ rfl; exact h9)) (by kernel_rfl) (by kernel_rfl) (by kernel_rfl) rfl ?_
                            refine d_p 16 rfl (p_pickt rfl rfl hg59 rfl) (by kernel_rfl) rfl rfl ?_
                            refine d_p 17 rfl (p_neq_bool rfl rfl rfl Try.underlying4) (by kernel_rfl) rfl rfl ?_
                            refine d_nil (by kernel_rfl) (fun w h => h.ent aEt) ?_
                            refine s_cond rfl (fun h61 => ?_) (fun h61 => ?_)
                            · try simp only [decide_eq_true_eq, decide_eq_false_iff_not, Bool.not_eq_true', Bool.not_eq_false', Bool.and_eq_true, Bool.or_eq_true, Bool.and_eq_false_iff, Bool.or_eq_false_iff, Bool.not_true, Bool.not_false] at h61
                              exfalso; have hq := h61; rw [hv1] at hq; (try rw [hv2] at hq); revert hq; cases nth D.ow (nth D.of n) <;> cases nth D.on n <;> simp_all
                            · try simp only [decide_eq_true_eq, decide_eq_false_iff_not, Bool.not_eq_true', Bool.not_eq_false', Bool.and_eq_true, Bool.or_eq_true, Bool.and_eq_false_iff, Bool.or_eq_false_iff, Bool.not_true, Bool.not_false] at h61
                              refine s_skip ?_
                              refine s_seq ?_
                              refine s_weaken (L' := [(0, _), (4, _), (6, _), (7, _), (8, _), (9, _), (10, _), (11, _), (14, _), (15, _), (16, _)]) aSx (fun _ h => h) ?_
                              refine s_region ?_
                              refine o_p (p_pure rfl) rfl ?_
                              refine o_p (p_pure rfl) rfl ?_
                              refine o_nil ?_
                              refine s_cond rfl (fun h62 => ?_) (fun h62 => ?_)
                              · try simp only [decide_eq_true_eq, decide_eq_false_iff_not, Bool.not_eq_true', Bool.not_eq_false', Bool.and_eq_true, Bool.or_eq_true, Bool.and_eq_false_iff, Bool.or_eq_false_iff, Bool.not_true, Bool.not_false] at h62
                                refine s_region ?_
                                refine o_p (p_pure rfl) rfl ?_
                                refine o_p (p_pure rfl) rfl ?_
                                refine o_p (p_pure rfl) rfl ?_
                                refine o_p (p_indexAddr rfl rfl rfl sl_38 (n) (by omega) (by omega) hgof) rfl ?_
                                refine o_q (q_load_at rfl rfl sz_3 (fun w h => by have h9 := (h.rw_own (vals := naV) (fun _ => rfl) (a := A.oa) aPk (by first | rfl | omega)).rdj 0 hn1 rfl; rw [hgof] at h9; exact h9)) rfl ?_
                                refine o_p (p_indexAddr rfl rfl rfl sl_37 ((nth D.of n)) (by omega) (by omega) hgow) rfl ?_
                                refine o_slot (show _ = Value.pointer (some ⟨gow, nth D.of n * 1, none⟩) from by rw [Nat.zero_add]) ?_
                                refine o_h0 (h_store rfl rfl rfl sz_4 rfl aPt (by rw [bo_len]; (try rw [List.length_set]); omega) rfl) (fun _ _ => ?_)
                                refine o_nil ?_
                                refine s_blk ?_
                                refine s_region ?_
                                refine o_p (p_pure rfl) rfl ?_
                                refine o_p (p_pure rfl) rfl ?_
                                try (refine o_slot (i64w (by omega) (by omega)) ?_)
                                refine o_p (p_pure rfl) rfl ?_
                                refine o_nil ?_
                                have hlz : lft D.of (D.gn.set n true) (nth D.of n) D.of.length = 0 := by have hq := h62; omega
                                rw [if_pos hlz] at hcD
                                exact s_backI (i + 1, ⟨D.fl, D.ow.set (nth D.of n) false, D.of, D.on, D.gn.set n true⟩, A) (by show l.length - (i + 1) < l.length - i; omega) ⟨by show i + 1 ≤ l.length; omega, by rw [e3]; exact hcD, hA1, hA2, by show A.nn ≤ i + 1; omega, by show A.nf ≤ i + 1; omega⟩ aSx (fun w h => by dsimp only; have h1 := HS.blk_to (b := gow) h aPk (set_bo2 (x := false) (by omega : nth D.of n < D.ow.length)); have h2 := HS.to_own1 (n' := 0) (a := A.wa) (n := A.nf) (cap := A.wc) h1 aPk hgow (by rw [bo_len, List.length_set]; omega) howc howm; have h3 := HS.to_own1 (n' := 0) (a := A.ga) (n := A.nn) (cap := A.gc) h2 aPk hggn (by rw [bo_len, List.length_set]; omega) hgnc hgnm; exact h3.ent aEt)
                              · try simp only [decide_eq_true_eq, decide_eq_false_iff_not, Bool.not_eq_true', Bool.not_eq_false', Bool.and_eq_true, Bool.or_eq_true, Bool.and_eq_false_iff, Bool.or_eq_false_iff, Bool.not_true, Bool.not_false] at h62
                                refine s_skip ?_
                                refine s_blk ?_
                                refine s_region ?_
                                refine o_p (p_pure rfl) rfl ?_
                                refine o_p (p_pure rfl) rfl ?_
                                try (refine o_slot (i64w (by omega) (by omega)) ?_)
                                refine o_p (p_pure rfl) rfl ?_
                                refine o_nil ?_
                                have hlz : ¬ lft D.of (D.gn.set n true) (nth D.of n) D.of.length = 0 := by have hq := h62; omega
                                rw [if_neg hlz] at hcD
                                exact s_backI (i + 1, ⟨D.fl, D.ow.set (nth D.of n) (nth D.ow (nth D.of n) || nth D.on n), D.of, D.on, D.gn.set n true⟩, A) (by show l.length - (i + 1) < l.length - i; omega) ⟨by show i + 1 ≤ l.length; omega, by rw [e3]; exact hcD, hA1, hA2, by show A.nn ≤ i + 1; omega, by show A.nf ≤ i + 1; omega⟩ aSx (fun w h => by dsimp only; have h2 := HS.to_own1 (n' := 0) (a := A.wa) (n := A.nf) (cap := A.wc) h aPk hgow (by rw [bo_len, List.length_set]; omega) howc howm; have h3 := HS.to_own1 (n' := 0) (a := A.ga) (n := A.nn) (cap := A.gc) h2 aPk hggn (by rw [bo_len, List.length_set]; omega) hgnc hgnm; exact h3.ent aEt)
                          · intro hg63
                            have hs64 := hg63; try simp only [decide_eq_true_eq, decide_eq_false_iff_not, Bool.not_eq_true', Bool.not_eq_false', Bool.and_eq_true, Bool.or_eq_true, Bool.and_eq_false_iff, Bool.or_eq_false_iff, Bool.not_true, Bool.not_false] at hs64
                            refine d_off 9 212 rfl rfl rfl hg63 (by kernel_rfl) rfl rfl ?_
                            refine d_off 10 212 rfl rfl rfl hg63 (by kernel_rfl) rfl rfl ?_
                            refine d_off 11 212 rfl rfl rfl hg63 (by kernel_rfl) rfl rfl ?_
                            refine d_off 12 212 rfl rfl rfl hg63 (by kernel_rfl) rfl rfl ?_
                            refine d_off 13 212 rfl rfl rfl hg63 (by kernel_rfl) rfl rfl ?_
                            refine d_off 14 212 rfl rfl rfl hg63 (by kernel_rfl) rfl rfl ?_
                            refine d_off 15 212 rfl rfl rfl hg63 (by kernel_rfl) rfl rfl ?_
                            refine d_p 16 rfl (p_pickf rfl rfl hg63 rfl) (by kernel_rfl) rfl rfl ?_
                            refine d_p 17 rfl (p_neq_bool rfl rfl rfl Try.underlying4) (by kernel_rfl) rfl rfl ?_
                            refine d_nil (by kernel_rfl) (fun w h => h.ent aEt) ?_
                            refine s_cond rfl (fun h65 => ?_) (fun h65 => ?_)
                            · try simp only [decide_eq_true_eq, decide_eq_false_iff_not, Bool.not_eq_true', Bool.not_eq_false', Bool.and_eq_true, Bool.or_eq_true, Bool.and_eq_false_iff, Bool.or_eq_false_iff, Bool.not_true, Bool.not_false] at h65
                              exfalso; have hq := h65; rw [hv1] at hq; (try rw [hv2] at hq); revert hq; cases nth D.ow (nth D.of n) <;> cases nth D.on n <;> simp_all
                            · try simp only [decide_eq_true_eq, decide_eq_false_iff_not, Bool.not_eq_true', Bool.not_eq_false', Bool.and_eq_true, Bool.or_eq_true, Bool.and_eq_false_iff, Bool.or_eq_false_iff, Bool.not_true, Bool.not_false] at h65
                              refine s_skip ?_
                              refine s_seq ?_
                              refine s_weaken (L' := [(0, _), (4, _), (6, _), (7, _), (8, _), (9, _), (10, _), (11, _), (14, _), (15, _), (16, _)]) aSx (fun _ h => h) ?_
                              refine s_region ?_
                              refine o_p (p_pure rfl) rfl ?_
                              refine o_p (p_pure rfl) rfl ?_
                              refine o_nil ?_
                              refine s_cond rfl (fun h66 => ?_) (fun h66 => ?_)
                              · try simp only [decide_eq_true_eq, decide_eq_false_iff_not, Bool.not_eq_true', Bool.not_eq_false', Bool.and_eq_true, Bool.or_eq_true, Bool.and_eq_false_iff, Bool.or_eq_false_iff, Bool.not_true, Bool.not_false] at h66
                                refine s_region ?_
                                refine o_p (p_pure rfl) rfl ?_
                                refine o_p (p_pure rfl) rfl ?_
                                refine o_p (p_pure rfl) rfl ?_
                                refine o_p (p_indexAddr rfl rfl rfl sl_38 (n) (by omega) (by omega) hgof) rfl ?_
                                refine o_q (q_load_at rfl rfl sz_3 (fun w h => by have h9 := (h.rw_own (vals := naV) (fun _ => rfl) (a := A.oa) aPk (by first | rfl | omega)).rdj 0 hn1 rfl; rw [hgof] at h9; exact h9)) rfl ?_
                                refine o_p (p_indexAddr rfl rfl rfl sl_37 ((nth D.of n)) (by omega) (by omega) hgow) rfl ?_
                                refine o_slot (show _ = Value.pointer (some ⟨gow, nth D.of n * 1, none⟩) from by rw [Nat.zero_add]) ?_
                                refine o_h0 (h_store rfl rfl rfl sz_4 rfl aPt (by rw [bo_len]; (try rw [List.length_set]); omega) rfl) (fun _ _ => ?_)
                                refine o_nil ?_
                                refine s_blk ?_
                                refine s_region ?_
                                refine o_p (p_pure rfl) rfl ?_
                                refine o_p (p_pure rfl) rfl ?_
                                try (refine o_slot (i64w (by omega) (by omega)) ?_)
                                refine o_p (p_pure rfl) rfl ?_
                                refine o_nil ?_
                                have hlz : lft D.of (D.gn.set n true) (nth D.of n) D.of.length = 0 := by have hq := h66; omega
                                rw [if_pos hlz] at hcD
                                exact s_backI (i + 1, ⟨D.fl, D.ow.set (nth D.of n) false, D.of, D.on, D.gn.set n true⟩, A) (by show l.length - (i + 1) < l.length - i; omega) ⟨by show i + 1 ≤ l.length; omega, by rw [e3]; exact hcD, hA1, hA2, by show A.nn ≤ i + 1; omega, by show A.nf ≤ i + 1; omega⟩ aSx (fun w h => by dsimp only; have h1 := HS.blk_to (b := gow) h aPk (set_bo2 (x := false) (by omega : nth D.of n < D.ow.length)); have h2 := HS.to_own1 (n' := 0) (a := A.wa) (n := A.nf) (cap := A.wc) h1 aPk hgow (by rw [bo_len, List.length_set]; omega) howc howm; have h3 := HS.to_own1 (n' := 0) (a := A.ga) (n := A.nn) (cap := A.gc) h2 aPk hggn (by rw [bo_len, List.length_set]; omega) hgnc hgnm; exact h3.ent aEt)
                              · try simp only [decide_eq_true_eq, decide_eq_false_iff_not, Bool.not_eq_true', Bool.not_eq_false', Bool.and_eq_true, Bool.or_eq_true, Bool.and_eq_false_iff, Bool.or_eq_false_iff, Bool.not_true, Bool.not_false] at h66
                                refine s_skip ?_
                                refine s_blk ?_
                                refine s_region ?_
                                refine o_p (p_pure rfl) rfl ?_
                                refine o_p (p_pure rfl) rfl ?_
                                try (refine o_slot (i64w (by omega) (by omega)) ?_)
                                refine o_p (p_pure rfl) rfl ?_
                                refine o_nil ?_
                                have hlz : ¬ lft D.of (D.gn.set n true) (nth D.of n) D.of.length = 0 := by have hq := h66; omega
                                rw [if_neg hlz] at hcD
                                exact s_backI (i + 1, ⟨D.fl, D.ow.set (nth D.of n) (nth D.ow (nth D.of n) || nth D.on n), D.of, D.on, D.gn.set n true⟩, A) (by show l.length - (i + 1) < l.length - i; omega) ⟨by show i + 1 ≤ l.length; omega, by rw [e3]; exact hcD, hA1, hA2, by show A.nn ≤ i + 1; omega, by show A.nf ≤ i + 1; omega⟩ aSx (fun w h => by dsimp only; have h2 := HS.to_own1 (n' := 0) (a := A.wa) (n := A.nf) (cap := A.wc) h aPk hgow (by rw [bo_len, List.length_set]; omega) howc howm; have h3 := HS.to_own1 (n' := 0) (a := A.ga) (n := A.nn) (cap := A.gc) h2 aPk hggn (by rw [bo_len, List.length_set]; omega) hgnc hgnm; exact h3.ent aEt)
          · try simp only [decide_eq_true_eq, decide_eq_false_iff_not, Bool.not_eq_true', Bool.not_eq_false', Bool.and_eq_true, Bool.or_eq_true, Bool.and_eq_false_iff, Bool.or_eq_false_iff, Bool.not_true, Bool.not_false] at h8
            refine s_exit_to rfl ?_
            refine s_seq ?_
            refine s_region ?_
            refine o_p (p_pure rfl) rfl ?_
            refine o_nil ?_
            exact s_retv (rs := [.tmp 2]) rfl (.tmp rfl (.nil)) (fun w' h' => ⟨by rfl, h'.below⟩)

end Go.Proofs

