/- Contracts of the program's functions, proved by walking them with the rules of the Gx texts; without conditions beyond those that each contract names. -/
import Derived.Test.YtaffndpaehiafaaC07T
namespace Go.Proofs
open Go Go.RowKit Gx
set_option linter.unusedVariables false
set_option linter.unusedSimpArgs false
attribute [local irreducible] Go.Calls Gx.S Gx.O Gx.D Gx.OpP Gx.OpQ Gx.OpH

theorem fn_25 : isFn Try.prog 25 = true := by kernel_rfl
theorem fn_54 : isFn Try.prog 54 = true := by kernel_rfl


def patchT (l : List UInt8) (p : Nat) (d : List UInt8) : List UInt8 := l.take p ++ d ++ l.drop (p + d.length)
def padR (l : List UInt8) (n : Nat) : List UInt8 := if l.length < n then l ++ List.replicate (n - l.length) 0 else l
theorem padR_length (l : List UInt8) (n : Nat) : (padR l n).length = max l.length n := by
  unfold padR
  split
  · rw [List.length_append, List.length_replicate]; omega
  · omega
theorem patch_over (l : List UInt8) (p : Nat) (d : List UInt8) : patchT (padR l (p + d.length)) p d = overT l p d := by
  have hl := padR_length l (p + d.length)
  have hl2 := padTo_length l p
  unfold patchT overT
  have h1 : (padR l (p + d.length)).take p = (padTo l p).take p := by
    unfold padR padTo
    split
    · rcases Nat.lt_or_ge l.length p with h | h
      · rw [List.take_append, List.take_append, List.take_replicate, List.take_replicate]
        congr 2
        omega
      · rw [List.take_append_of_le_length h, List.take_append_of_le_length h]
    · rw [show p - l.length = 0 by omega]
      simp
  have h2 : (padR l (p + d.length)).drop (p + d.length) = (padTo l p).drop (min (p + d.length) (padTo l p).length) := by
    rcases Nat.lt_or_ge l.length (p + d.length) with h | h
    · rw [List.drop_of_length_le (by omega), List.drop_of_length_le (by omega)]
    · have e1 : padR l (p + d.length) = l := by unfold padR; rw [if_neg (by omega)]
      have e2 : padTo l p = l := by unfold padTo; rw [show p - l.length = 0 by omega]; simp
      rw [e1, e2, Nat.min_eq_left h]
  rw [h1, h2]
theorem x28 (w : World) (a : Option Addr) (cap : Nat) (fs : Fds) (nc : Int) (st : List UInt8) (u : Int) (own : List UInt8) (at' : Int) (data : List UInt8) (hs : Fl w a fs) (hm : fs.length ≤ 1000) (hdl : data.length ≤ 100000) :
    Calls Try.prog 28 #[.agg #[.slice a fs.length cap, .int .i64 nc, .string (bs st)], .agg #[.int .i64 u, .string (bs own)], .int .i64 at', .string (bs data)] w fun en w' => ∃ g : Option Addr × Nat, en = .returned (.tuple #[.agg #[.slice g.1 (writeT fs nc st u own at' data).1.1.length g.2, .int .i64 (writeT fs nc st u own at' data).1.2.1, .string (bs (writeT fs nc st u own at' data).1.2.2)], .int .i64 (writeT fs nc st u own at' data).2]) ∧ True ∧ HS w [] [.own (.slice g.1 (writeT fs nc st u own at' data).1.1.length g.2) 96 2 (writeT fs nc st u own at' data).1.1.length (flatF (writeT fs nc st u own at' data).1.1)] w' := by
  refine Calls.mono (c28 w a cap fs nc st u own at' data hs hm hdl) fun en w' hh => ?_
  obtain ⟨v, rfl, _, h⟩ := hh
  obtain ⟨a', cap', rfl, _⟩ := h.head.form
  exact ⟨(a', cap'), rfl, trivial, h⟩
theorem writeT_len {fs : Fds} {nc : Int} {st : List UInt8} {u : Int} {own : List UInt8} {at' : Int} {data : List UInt8} : (writeT fs nc st u own at' data).1.1.length ≤ fs.length := by
  unfold writeT
  split
  · split
    · split <;> exact Nat.le_refl _
    · exact Nat.zero_le _
  · exact Nat.zero_le _

set_option maxRecDepth 20000 in
theorem c54 (w : World) (l : List UInt8) (p : Nat) (d : List UInt8) (hp : p + d.length ≤ l.length) (hl : l.length ≤ 1000000000) : Calls Try.prog 54 #[.string (bs l), .int .i64 (p : Int), .string (bs d)] w fun en w' => en = .returned (.string (bs (patchT l p d))) ∧ Below w.heap.size w w' := by
  refine enter (args := [_, _, _]) Try.func54 Try.ntmps54 rfl rfl (HS.refl w []) ?_
  refine s_seq ?_
  refine s_region ?_
  refine o_p (p_pure rfl) rfl ?_
  refine o_nil ?_
  refine s_seq ?_
  refine s_draw [] mixed ?_
  refine d_p 0 rfl (p_pure rfl) (by kernel_rfl) rfl rfl ?_
  refine d_p 1 rfl (p_pure rfl) (by kernel_rfl) rfl rfl ?_
  refine d_p 2 rfl (p_slice_str_to p rfl rfl rfl Try.underlying9 rfl (by omega)) (by kernel_rfl) rfl rfl ?_
  refine d_p 3 rfl (p_pure rfl) (by kernel_rfl) rfl rfl ?_
  refine d_p 4 rfl (p_str_add rfl rfl rfl (by (try simp only [List.length_append, List.length_cons, List.length_nil, List.length_replicate, List.length_take, List.length_drop]); omega)) (by kernel_rfl) rfl rfl ?_
  refine d_p 5 rfl (p_pure rfl) (by kernel_rfl) rfl rfl ?_
  refine d_p 6 rfl (p_pure rfl) (by kernel_rfl) rfl rfl ?_
  refine d_p 7 rfl (p_pure rfl) (by kernel_rfl) rfl rfl ?_
  refine d_p 8 rfl (p_len_str rfl rfl Try.underlying9) (by kernel_rfl) rfl rfl ?_
  refine d_p 9 rfl (p_pure rfl) (by kernel_rfl) rfl rfl ?_
  try (refine d_slot (i64w (by omega) (by omega)) ?_)
  refine d_p 10 rfl (p_slice_str_from (p + d.length) rfl rfl rfl Try.underlying9 (by omega) (by omega)) (by kernel_rfl) rfl rfl ?_
  refine d_p 11 rfl (p_str_add rfl rfl rfl (by (try simp only [List.length_append, List.length_cons, List.length_nil, List.length_replicate, List.length_take, List.length_drop]); omega)) (by kernel_rfl) rfl rfl ?_
  refine d_p 12 rfl (p_pure rfl) (by kernel_rfl) rfl rfl ?_
  refine d_nil (by kernel_rfl) (fun w h => h.ent (by repeat (first | exact .nil | refine .cons (by repeat (first | exact .here | apply Pick.there)) ?_))) ?_
  exact s_retv (rs := [.tmp 6]) rfl (.tmp rfl (.nil)) (fun w' h' => ⟨rfl, h'.below⟩)

set_option maxRecDepth 20000 in
theorem c29 (w : World) (a : Option Addr) (cap : Nat) (fs : Fds) (nc : Int) (st : List UInt8) (u : Int) (own : List UInt8) (at' : Int) (data : List UInt8) (hs : Fl w a fs) (hm : fs.length ≤ 1000) (hst : st.length ≤ 9223372036854775807) (hdl : data.length ≤ 100000) : Calls Try.prog 29 #[.agg #[.slice a fs.length cap, .int .i64 nc, .string (bs st)], .agg #[.int .i64 u, .string (bs own)], .int .i64 at', .string (bs data)] w fun en w' => ∃ g : Option Addr × Nat, en = .returned (.tuple #[.agg #[.slice g.1 (writeT fs nc st u own at' data).1.1.length g.2, .int .i64 (writeT fs nc st u own at' data).1.2.1, .string (bs (writeT fs nc st u own at' data).1.2.2)], .int .i64 (writeT fs nc st u own at' data).2]) ∧ True ∧ HS w [] [.own (.slice g.1 (writeT fs nc st u own at' data).1.1.length g.2) 96 2 (writeT fs nc st u own at' data).1.1.length (flatF (writeT fs nc st u own at' data).1.1)] w' := by
  refine enter (args := [_, _, _, _]) Try.func29 Try.ntmps29 rfl rfl (HS.refl w []) ?_
  refine s_seq ?_
  refine s_region ?_
  refine o_h (h_box rfl rfl) rfl (fun b1 _ => ?_)
  refine o_h (h_box rfl rfl) rfl (fun b2 _ => ?_)
  refine o_h (h_alloc rfl zr_43) rfl (fun b3 _ => ?_)
  refine o_p (p_pure rfl) rfl ?_
  refine o_nil ?_
  refine s_seq ?_
  refine s_seq ?_
  refine s_region ?_
  refine o_q (q_loadn rfl rfl sz_43 (by repeat (first | exact .here | apply Pick.there)) rfl) rfl ?_
  refine o_q (q_call rfl fn_71 rfl (fun w1 h1 => c71 w1 _ _ fs _ _ (hs.later h1) (by omega) (by omega))) rfl ?_
  refine o_p (p_pure rfl) rfl ?_
  refine o_nil ?_
  refine s_seq ?_
  refine s_region ?_
  refine o_p (p_pure rfl) rfl ?_
  refine o_p (p_pure rfl) rfl ?_
  refine o_nil ?_
  refine s_cond rfl (fun h4 => ?_) (fun h4 => ?_)
  · try simp only [decide_eq_true_eq, decide_eq_false_iff_not, Bool.not_eq_true', Bool.not_eq_false', Bool.and_eq_true, Bool.or_eq_true, Bool.and_eq_false_iff, Bool.or_eq_false_iff, Bool.not_true, Bool.not_false] at h4
    refine s_seq ?_
    refine s_region ?_
    refine o_p (p_build (cs := [_, _, _]) rfl rfl pl_43 zr_43 rfl) rfl ?_
    refine o_p (p_pure rfl) rfl ?_
    refine o_h0 (h_store rfl rfl rfl sz_43 rfl (by repeat (first | exact .here | apply Put.there)) (by simp only [setMany_length, List.length_set, List.length_cons, List.length_nil, List.length_map]; omega) rfl) (fun _ _ => ?_)
    refine o_p (p_pure rfl) rfl ?_
    refine o_nil ?_
    exact s_retv (rs := [.cell 8 43, .tmp 9]) rfl (.cell rfl sz_43 (by repeat (first | exact .here | apply Pick.there)) rfl (.tmp rfl (.nil))) (fun w' h' => by have he : writeE fs nc st.length u own at' data = fileE fs nc st.length := (by unfold writeE writeE1; rw [if_neg h4, if_neg h4]); have ht := writeT_err (fs := fs) (nc := nc) (st := st) (u := u) (own := own) (at' := at') (data := data) (by rw [he]; first | exact h4 | decide); rw [he] at ht; exact ⟨(none, 0), by rw [ht]; rfl, trivial, by rw [ht]; exact (h'.own_nil 96 2).ent (by repeat (first | exact .nil | refine .cons (by repeat (first | exact .here | apply Pick.there)) ?_))⟩)
  · try simp only [decide_eq_true_eq, decide_eq_false_iff_not, Bool.not_eq_true', Bool.not_eq_false', Bool.and_eq_true, Bool.or_eq_true, Bool.and_eq_false_iff, Bool.or_eq_false_iff, Bool.not_true, Bool.not_false] at h4
    have r1 : fileE fs nc st.length = 0 := by omega
    obtain ⟨ok, hw, hle⟩ := fileE_ok r1
    refine s_skip ?_
    refine s_seq ?_
    refine s_seq ?_
    refine s_region ?_
    refine o_q (q_loadn rfl rfl sz_31 (by repeat (first | exact .here | apply Pick.there)) rfl) rfl ?_
    refine o_q (q_call rfl fn_18 rfl (fun w1 h1 => c18 w1 _ _)) rfl ?_
    refine o_p (p_pure rfl) rfl ?_
    refine o_nil ?_
    refine s_seq ?_
    refine s_region ?_
    refine o_p (p_pure rfl) rfl ?_
    refine o_p (p_pure rfl) rfl ?_
    refine o_nil ?_
    refine s_cond rfl (fun h5 => ?_) (fun h5 => ?_)
    · try simp only [decide_eq_true_eq, decide_eq_false_iff_not, Bool.not_eq_true', Bool.not_eq_false', Bool.and_eq_true, Bool.or_eq_true, Bool.and_eq_false_iff, Bool.or_eq_false_iff, Bool.not_true, Bool.not_false] at h5
      refine s_seq ?_
      refine s_region ?_
      refine o_p (p_build (cs := [_, _, _]) rfl rfl pl_43 zr_43 rfl) rfl ?_
      refine o_p (p_pure rfl) rfl ?_
      refine o_h0 (h_store rfl rfl rfl sz_43 rfl (by repeat (first | exact .here | apply Put.there)) (by simp only [setMany_length, List.length_set, List.length_cons, List.length_nil, List.length_map]; omega) rfl) (fun _ _ => ?_)
      refine o_p (p_pure rfl) rfl ?_
      refine o_nil ?_
      exact s_retv (rs := [.cell 8 43, .tmp 9]) rfl (.cell rfl sz_43 (by repeat (first | exact .here | apply Pick.there)) rfl (.tmp rfl (.nil))) (fun w' h' => by have he : writeE fs nc st.length u own at' data = holdE u own := (by unfold writeE writeE1; rw [if_pos r1, if_neg h5, if_neg h5]); have ht := writeT_err (fs := fs) (nc := nc) (st := st) (u := u) (own := own) (at' := at') (data := data) (by rw [he]; first | exact h5 | decide); rw [he] at ht; exact ⟨(none, 0), by rw [ht]; rfl, trivial, by rw [ht]; exact (h'.own_nil 96 2).ent (by repeat (first | exact .nil | refine .cons (by repeat (first | exact .here | apply Pick.there)) ?_))⟩)
    · try simp only [decide_eq_true_eq, decide_eq_false_iff_not, Bool.not_eq_true', Bool.not_eq_false', Bool.and_eq_true, Bool.or_eq_true, Bool.and_eq_false_iff, Bool.or_eq_false_iff, Bool.not_true, Bool.not_false] at h5
      have r2 : holdE u own = 0 := by omega
      refine s_skip ?_
      refine s_seq ?_
      refine s_seq ?_
      refine s_region ?_
      refine o_p (p_pure rfl) rfl ?_
      refine o_q (q_call rfl fn_27 rfl (fun w1 h1 => c27 w1 _ _ _)) rfl ?_
      refine o_p (p_pure rfl) rfl ?_
      refine o_nil ?_
      refine s_cond rfl (fun h6 => ?_) (fun h6 => ?_)
      · try simp only [decide_eq_true_eq, decide_eq_false_iff_not, Bool.not_eq_true', Bool.not_eq_false', Bool.and_eq_true, Bool.or_eq_true, Bool.and_eq_false_iff, Bool.or_eq_false_iff, Bool.not_true, Bool.not_false] at h6
        refine s_seq ?_
        refine s_region ?_
        refine o_p (p_build (cs := [_, _, _]) rfl rfl pl_43 zr_43 rfl) rfl ?_
        refine o_h0 (h_store rfl rfl rfl sz_43 rfl (by repeat (first | exact .here | apply Put.there)) (by simp only [setMany_length, List.length_set, List.length_cons, List.length_nil, List.length_map]; omega) rfl) (fun _ _ => ?_)
        refine o_p (p_pure rfl) rfl ?_
        refine o_nil ?_
        exact s_retv (rs := [.cell 8 43, .tmp 9]) rfl (.cell rfl sz_43 (by repeat (first | exact .here | apply Pick.there)) rfl (.tmp rfl (.nil))) (fun w' h' => by have he : writeE fs nc st.length u own at' data = 2 := (by have hb : ¬ (0 ≤ at' ∧ at' ≤ 8192) := (by have hq := h6; (try simp at hq); omega); unfold writeE writeE1; rw [if_pos r1, if_pos r2, if_neg hb]; rfl); have ht := writeT_err (fs := fs) (nc := nc) (st := st) (u := u) (own := own) (at' := at') (data := data) (by rw [he]; first | exact h6 | decide); rw [he] at ht; exact ⟨(none, 0), by rw [ht]; rfl, trivial, by rw [ht]; exact (h'.own_nil 96 2).ent (by repeat (first | exact .nil | refine .cons (by repeat (first | exact .here | apply Pick.there)) ?_))⟩)
      · try simp only [decide_eq_true_eq, decide_eq_false_iff_not, Bool.not_eq_true', Bool.not_eq_false', Bool.and_eq_true, Bool.or_eq_true, Bool.and_eq_false_iff, Bool.or_eq_false_iff, Bool.not_true, Bool.not_false] at h6
        have hb : 0 ≤ at' ∧ at' ≤ 8192 := by have hq := h6; (try simp at hq); omega
        have he1 : writeE1 fs nc st.length u own at' = 0 := by unfold writeE1; rw [if_pos r1, if_pos r2, if_pos hb]
        refine s_skip ?_
        refine s_seq ?_
        refine s_seq ?_
        refine s_region ?_
        refine o_p (p_pure rfl) rfl ?_
        refine o_p (p_len_str rfl rfl Try.underlying9) rfl ?_
        refine o_p (p_pure rfl) rfl ?_
        refine o_p (p_pure rfl) rfl ?_
        refine o_and 6 35 41 _ _ rfl
          (by
            intro hg7
            have hs8 := hg7; try simp only [decide_eq_true_eq, decide_eq_false_iff_not, Bool.not_eq_true', Bool.not_eq_false', Bool.and_eq_true, Bool.or_eq_true, Bool.and_eq_false_iff, Bool.or_eq_false_iff, Bool.not_true, Bool.not_false] at hs8
            refine o_on 35 _ rfl rfl hg7 ?_
            refine o_p (p_pure rfl) rfl ?_
            refine o_on 35 _ rfl rfl hg7 ?_
            refine o_p (p_len_str rfl rfl Try.underlying9) rfl ?_
            refine o_on 35 _ rfl rfl hg7 ?_
            refine o_p (p_pure rfl) rfl ?_
            refine o_on 35 _ rfl rfl hg7 ?_
            refine o_p (p_pure rfl) rfl ?_
            try (refine o_slot (i64w (by omega) (by omega)) ?_)
            refine o_on 35 _ rfl rfl hg7 ?_
            refine o_p (p_pure rfl) rfl ?_
            refine o_p (p_pickt rfl rfl hg7 rfl) rfl ?_
            refine o_nil ?_
            exact s_join () (by repeat (first | exact sl_n | refine sl_c rfl ?_)) (fun w h => by first | exact h | exact h.ent (by repeat (first | exact .nil | refine .cons (by repeat (first | exact .here | apply Pick.there)) ?_))))
          (by
            intro hg9
            have hs10 := hg9; try simp only [decide_eq_true_eq, decide_eq_false_iff_not, Bool.not_eq_true', Bool.not_eq_false', Bool.and_eq_true, Bool.or_eq_true, Bool.and_eq_false_iff, Bool.or_eq_false_iff, Bool.not_true, Bool.not_false] at hs10
            refine o_off 35 _ rfl rfl hg9 rfl ?_
            refine o_off 35 _ rfl rfl hg9 rfl ?_
            refine o_off 35 _ rfl rfl hg9 rfl ?_
            refine o_off 35 _ rfl rfl hg9 rfl ?_
            refine o_off 35 _ rfl rfl hg9 rfl ?_
            refine o_p (p_pickf rfl rfl hg9 rfl) rfl ?_
            refine o_nil ?_
            exact s_join () (by repeat (first | exact sl_n | refine sl_c rfl ?_)) (fun w h => by first | exact h | exact h.ent (by repeat (first | exact .nil | refine .cons (by repeat (first | exact .here | apply Pick.there)) ?_)))) ?_
        refine o_nil ?_
        refine s_cond rfl (fun h11 => ?_) (fun h11 => ?_)
        · try simp only [decide_eq_true_eq, decide_eq_false_iff_not, Bool.not_eq_true', Bool.not_eq_false', Bool.and_eq_true, Bool.or_eq_true, Bool.and_eq_false_iff, Bool.or_eq_false_iff, Bool.not_true, Bool.not_false] at h11
          refine s_seq ?_
          refine s_region ?_
          refine o_p (p_build (cs := [_, _, _]) rfl rfl pl_43 zr_43 rfl) rfl ?_
          refine o_h0 (h_store rfl rfl rfl sz_43 rfl (by repeat (first | exact .here | apply Put.there)) (by simp only [setMany_length, List.length_set, List.length_cons, List.length_nil, List.length_map]; omega) rfl) (fun _ _ => ?_)
          refine o_p (p_pure rfl) rfl ?_
          refine o_nil ?_
          exact s_retv (rs := [.cell 8 43, .tmp 9]) rfl (.cell rfl sz_43 (by repeat (first | exact .here | apply Pick.there)) rfl (.tmp rfl (.nil))) (fun w' h' => by have he : writeE fs nc st.length u own at' data = 8 := (by have hdd : ¬ (data = [] ∨ (data.length : Int) ≤ 8192 - at') := (by have hq := h11; (try simp at hq); exact fun hh => hh.elim (fun e => by subst e; simp at hq) (fun e => by omega)); unfold writeE; rw [if_pos he1, if_neg hdd]); have ht := writeT_err (fs := fs) (nc := nc) (st := st) (u := u) (own := own) (at' := at') (data := data) (by rw [he]; first | exact h11 | decide); rw [he] at ht; exact ⟨(none, 0), by rw [ht]; rfl, trivial, by rw [ht]; exact (h'.own_nil 96 2).ent (by repeat (first | exact .nil | refine .cons (by repeat (first | exact .here | apply Pick.there)) ?_))⟩)
        · try simp only [decide_eq_true_eq, decide_eq_false_iff_not, Bool.not_eq_true', Bool.not_eq_false', Bool.and_eq_true, Bool.or_eq_true, Bool.and_eq_false_iff, Bool.or_eq_false_iff, Bool.not_true, Bool.not_false] at h11
          have hdd : data = [] ∨ (data.length : Int) ≤ 8192 - at' := by rcases data with _ | ⟨d0, dr⟩ <;> first | (left; rfl) | (right; have hq := h11; (try simp at hq); simp only [List.length_cons] at *; omega)
          have hr : writeE fs nc st.length u own at' data = 0 := by unfold writeE; rw [if_pos he1, if_pos hdd]
          refine s_skip ?_
          refine s_seq ?_
          refine s_region ?_
          refine o_p (p_fieldAddr rfl rfl fd_43_0 sz_41 rfl) rfl ?_
          refine o_q (q_load rfl rfl sz_41 (by repeat (first | exact .here | apply Pick.there)) rfl) rfl ?_
          refine o_q (q_loadn rfl rfl sz_31 (by repeat (first | exact .here | apply Pick.there)) rfl) rfl ?_
          refine o_q (q_call rfl fn_72 rfl (fun w1 h1 => c72 w1 _ _ fs _ _ (hs.later h1) (by assumption) (by assumption))) rfl ?_
          refine o_p (p_pure rfl) rfl ?_
          refine o_p (p_pure rfl) rfl ?_
          refine o_p (p_pure rfl) rfl ?_
          refine o_p (p_pure rfl) rfl ?_
          refine o_p (p_pure rfl) rfl ?_
          refine o_nil ?_
          refine s_seq ?_
          refine s_seq ?_
          refine s_region ?_
          refine o_p (p_pure rfl) rfl ?_
          refine o_p (p_pure rfl) rfl ?_
          refine o_nil ?_
          refine s_cond rfl (fun h12 => ?_) (fun h12 => ?_)
          · try simp only [decide_eq_true_eq, decide_eq_false_iff_not, Bool.not_eq_true', Bool.not_eq_false', Bool.and_eq_true, Bool.or_eq_true, Bool.and_eq_false_iff, Bool.or_eq_false_iff, Bool.not_true, Bool.not_false] at h12
            refine s_seq ?_
            refine s_region ?_
            refine o_p (p_build (cs := [_, _, _]) rfl rfl pl_43 zr_43 rfl) rfl ?_
            refine o_p (p_pure rfl) rfl ?_
            refine o_h0 (h_store rfl rfl rfl sz_43 rfl (by repeat (first | exact .here | apply Put.there)) (by simp only [setMany_length, List.length_set, List.length_cons, List.length_nil, List.length_map]; omega) rfl) (fun _ _ => ?_)
            refine o_p (p_pure rfl) rfl ?_
            refine o_nil ?_
            exact s_retv (rs := [.cell 8 43, .tmp 9]) rfl (.cell rfl sz_43 (by repeat (first | exact .here | apply Pick.there)) rfl (.tmp rfl (.nil))) (fun w' h' => ⟨(none, 0), by rw [writeT_key hr h12]; rfl, trivial, by rw [writeT_key hr h12]; exact (h'.own_nil 96 2).ent (by repeat (first | exact .nil | refine .cons (by repeat (first | exact .here | apply Pick.there)) ?_))⟩)
          · try simp only [decide_eq_true_eq, decide_eq_false_iff_not, Bool.not_eq_true', Bool.not_eq_false', Bool.and_eq_true, Bool.or_eq_true, Bool.and_eq_false_iff, Bool.or_eq_false_iff, Bool.not_true, Bool.not_false] at h12
            have hk0 : (keyForT fs u own).2 = 0 := by omega
            have hkl := keyForT_len ok hk0
            refine s_skip ?_
            refine s_seq ?_
            refine s_seq ?_
            refine s_region ?_
            refine o_p (p_pure rfl) rfl ?_
            refine o_p (p_len_str rfl rfl Try.underlying9) rfl ?_
            refine o_p (p_pure rfl) rfl ?_
            refine o_nil ?_
            refine s_cond rfl (fun h13 => ?_) (fun h13 => ?_)
            · try simp only [decide_eq_true_eq, decide_eq_false_iff_not, Bool.not_eq_true', Bool.not_eq_false', Bool.and_eq_true, Bool.or_eq_true, Bool.and_eq_false_iff, Bool.or_eq_false_iff, Bool.not_true, Bool.not_false] at h13
              have hdn : data = [] := List.eq_nil_of_length_eq_zero (by omega)
              refine s_seq ?_
              refine s_region ?_
              refine o_q (q_loadn rfl rfl sz_43 (by repeat (first | exact .here | apply Pick.there)) rfl) rfl ?_
              refine o_h (h_call rfl fn_25 rfl (fun w1 h1 => c25 w1 _ _ fs _ _ (hs.later h1) (by omega))) rfl (fun ge _ => ?_)
              refine o_h0 (h_store rfl rfl rfl sz_43 rfl (by repeat (first | exact .here | apply Put.there)) (by simp only [setMany_length, List.length_set, List.length_cons, List.length_nil, List.length_map]; omega) rfl) (fun _ _ => ?_)
              refine o_p (p_pure rfl) rfl ?_
              refine o_nil ?_
              exact s_retv (rs := [.cell 8 43, .tmp 9]) rfl (.cell rfl sz_43 (by repeat (first | exact .here | apply Pick.there)) rfl (.tmp rfl (.nil))) (fun w' h' => ⟨ge, by rw [writeT_nil hr hk0 hdn]; rfl, trivial, by rw [writeT_nil hr hk0 hdn]; exact h'.ent (by repeat (first | exact .nil | refine .cons (by repeat (first | exact .here | apply Pick.there)) ?_))⟩)
            · try simp only [decide_eq_true_eq, decide_eq_false_iff_not, Bool.not_eq_true', Bool.not_eq_false', Bool.and_eq_true, Bool.or_eq_true, Bool.and_eq_false_iff, Bool.or_eq_false_iff, Bool.not_true, Bool.not_false] at h13
              have hd : ¬ data = [] := by intro e; subst e; simp at h13
              have hda : (data.length : Int) ≤ 8192 - at' := hdd.resolve_left hd
              have hcl := cryptL_length (keyForT fs u own).1 (wd nc) st 0
              refine s_skip ?_
              refine s_seq ?_
              refine s_region ?_
              refine o_p (p_pure rfl) rfl ?_
              refine o_p (p_fieldAddr rfl rfl fd_43_1 sz_3 rfl) rfl ?_
              refine o_q (q_load rfl rfl sz_3 (by repeat (first | exact .here | apply Pick.there)) rfl) rfl ?_
              refine o_p (p_fieldAddr rfl rfl fd_43_2 sz_9 rfl) rfl ?_
              refine o_q (q_load rfl rfl sz_9 (by repeat (first | exact .here | apply Pick.there)) rfl) rfl ?_
              refine o_q (q_call rfl fn_37 rfl (fun w1 h1 => c37 w1 _ nc 0 st hkl hw (by omega))) rfl ?_
              refine o_p (p_pure rfl) rfl ?_
              refine o_nil ?_
              refine s_seq ?_
              refine s_seq ?_
              refine s_region ?_
              refine o_p (p_pure rfl) rfl ?_
              refine o_p (p_len_str rfl rfl Try.underlying9) rfl ?_
              refine o_p (p_pure rfl) rfl ?_
              refine o_p (p_pure rfl) rfl ?_
              refine o_p (p_len_str rfl rfl Try.underlying9) rfl ?_
              refine o_p (p_pure rfl) rfl ?_
              try (refine o_slot (i64w (by omega) (by omega)) ?_)
              refine o_p (p_pure rfl) rfl ?_
              refine o_nil ?_
              refine s_cutI (α := Unit) [14, 72, 73, 74, 75, 76, 77, 78, 79, 80, 81] (fun _ => [(14, .string (bs (padR (cryptL (keyForT fs u own).1 (wd nc) 0 st) (at'.toNat + data.length))))]) (fun _ => HS w [] [.blk b3 43 3 [.slice none 0 0, .int .i64 0, .string (bs [])], .blk b2 31 2 [.int .i64 u, .string (bs own)], .blk b1 43 3 [.slice a fs.length cap, .int .i64 nc, .string (bs st)]]) (fun _ => True) ?_ ?_
              · skip
                refine s_cond rfl (fun h14 => ?_) (fun h14 => ?_)
                · try simp only [decide_eq_true_eq, decide_eq_false_iff_not, Bool.not_eq_true', Bool.not_eq_false', Bool.and_eq_true, Bool.or_eq_true, Bool.and_eq_false_iff, Bool.or_eq_false_iff, Bool.not_true, Bool.not_false] at h14
                  refine s_region ?_
                  refine o_p (p_pure rfl) rfl ?_
                  refine o_p (p_pure rfl) rfl ?_
                  refine o_p (p_pure rfl) rfl ?_
                  refine o_p (p_len_str rfl rfl Try.underlying9) rfl ?_
                  refine o_p (p_pure rfl) rfl ?_
                  try (refine o_slot (i64w (by omega) (by omega)) ?_)
                  refine o_p (p_pure rfl) rfl ?_
                  refine o_p (p_len_str rfl rfl Try.underlying9) rfl ?_
                  refine o_p (p_pure rfl) rfl ?_
                  try (refine o_slot (i64w (by omega) (by omega)) ?_)
                  refine o_slot (show _ = Value.int .i64 ((at'.toNat + data.length - st.length : Nat) : Int) from by congr 1; omega) ?_
                  refine o_q (q_call rfl fn_32 rfl (fun w1 h1 => c32 w1 _ (by omega))) rfl ?_
                  refine o_p (p_str_add rfl rfl rfl (by (try simp only [List.length_append, List.length_cons, List.length_nil, List.length_replicate, List.length_take, List.length_drop, cryptL_length]); omega)) rfl ?_
                  refine o_p (p_pure rfl) rfl ?_
                  refine o_nil ?_
                  exact s_joinI () trivial (sl_c (congrArg (fun e => some (Value.string (bs e))) (by unfold padR; rw [if_pos (by omega), cryptL_length])) (by repeat (first | exact sl_n | refine sl_c rfl ?_))) (fun w h => h.ent (by repeat (first | exact .nil | refine .cons (by repeat (first | exact .here | apply Pick.there)) ?_)))
                · try simp only [decide_eq_true_eq, decide_eq_false_iff_not, Bool.not_eq_true', Bool.not_eq_false', Bool.and_eq_true, Bool.or_eq_true, Bool.and_eq_false_iff, Bool.or_eq_false_iff, Bool.not_true, Bool.not_false] at h14
                  refine s_skip ?_
                  exact s_joinI () trivial (sl_c (congrArg (fun e => some (Value.string (bs e))) (by unfold padR; rw [if_neg (by omega)])) (by repeat (first | exact sl_n | refine sl_c rfl ?_))) (fun w h => h.ent (by repeat (first | exact .nil | refine .cons (by repeat (first | exact .here | apply Pick.there)) ?_)))
              · intro _ _
                have hpl := padR_length (cryptL (keyForT fs u own).1 (wd nc) 0 st) (at'.toNat + data.length)
                refine s_seq ?_
                refine s_region ?_
                refine o_q (q_loadn rfl rfl sz_43 (by repeat (first | exact .here | apply Pick.there)) rfl) rfl ?_
                refine o_h (h_call rfl fn_25 rfl (fun w1 h1 => c25 w1 _ _ fs _ _ (hs.later h1) (by omega))) rfl (fun gf _ => ?_)
                refine o_h (h_alloc rfl zr_43) rfl (fun b15 _ => ?_)
                refine o_h0 (h_store rfl rfl rfl sz_43 rfl (by repeat (first | exact .here | apply Put.there)) (by simp only [setMany_length, List.length_set, List.length_cons, List.length_nil, List.length_map]; omega) rfl) (fun _ _ => ?_)
                refine o_nil ?_
                refine s_seq ?_
                refine s_draw [9] mixed ?_
                refine d_p 0 rfl (p_pure rfl) (by kernel_rfl) rfl rfl ?_
                refine d_p 1 rfl (p_fieldAddr rfl rfl fd_43_1 sz_3 rfl) (by kernel_rfl) rfl rfl ?_
                refine d_q 2 [[]] rfl (q_load rfl rfl sz_3 (by repeat (first | exact .here | apply Pick.there)) rfl) (by kernel_rfl) (by kernel_rfl) (by kernel_rfl) rfl ?_
                refine d_p 3 rfl (p_pure rfl) (by kernel_rfl) rfl rfl ?_
                refine d_p 4 rfl (p_pure rfl) (by kernel_rfl) rfl rfl ?_
                refine d_p 5 rfl (p_pure rfl) (by kernel_rfl) rfl rfl ?_
                refine d_q 6 [[]] rfl (q_call rfl fn_54 rfl (fun w1 h1 => by have h9 := c54 w1 (padR (cryptL (keyForT fs u own).1 (wd nc) 0 st) (at'.toNat + data.length)) at'.toNat data (by omega) (by omega); rw [Int.toNat_of_nonneg hb.1] at h9; exact h9)) (by kernel_rfl) (by kernel_rfl) (by kernel_rfl) rfl ?_
                rw [patch_over]
                have hol : (overT (cryptL (keyForT fs u own).1 (wd nc) 0 st) at'.toNat data).length ≤ 1048576 := by have hpt := padTo_length (cryptL (keyForT fs u own).1 (wd nc) 0 st) at'.toNat; simp only [overT, List.length_append, List.length_take, List.length_drop]; omega
                refine d_q 7 [[]] rfl (q_call rfl fn_37 rfl (fun w1 h1 => c37 w1 _ nc 0 _ hkl hw (by omega))) (by kernel_rfl) (by kernel_rfl) (by kernel_rfl) rfl ?_
                refine d_p 8 rfl (p_fieldAddr rfl rfl fd_43_2 sz_9 rfl) (by kernel_rfl) rfl rfl ?_
                refine d_h0 9 rfl (h_store rfl rfl rfl sz_9 rfl (by repeat (first | exact .here | apply Put.there)) (by simp only [setMany_length, List.length_set, List.length_cons, List.length_nil, List.length_map]; omega) rfl) (by kernel_rfl) (fun w h => h.ent (by repeat (first | exact .nil | refine .cons (by repeat (first | exact .here | apply Pick.there)) ?_))) (fun _ _ => ?_)
                refine d_turn [] (by kernel_rfl) ?_
                refine d_nil (by kernel_rfl) (fun w h => h.ent (by repeat (first | exact .nil | refine .cons (by repeat (first | exact .here | apply Pick.there)) ?_))) ?_
                refine s_seq ?_
                refine s_region ?_
                refine o_q (q_loadn rfl rfl sz_43 (by repeat (first | exact .here | apply Pick.there)) rfl) rfl ?_
                refine o_h0 (h_store rfl rfl rfl sz_43 rfl (by repeat (first | exact .here | apply Put.there)) (by simp only [setMany_length, List.length_set, List.length_cons, List.length_nil, List.length_map]; omega) rfl) (fun _ _ => ?_)
                refine o_p (p_pure rfl) rfl ?_
                refine o_nil ?_
                exact s_retv (rs := [.cell 8 43, .tmp 9]) rfl (.cell rfl sz_43 (by repeat (first | exact .here | apply Pick.there)) rfl (.tmp rfl (.nil))) (fun w' h' => ⟨gf, by rw [writeT_ok hr hk0 hd]; rfl, trivial, by rw [writeT_ok hr hk0 hd]; exact h'.ent (by repeat (first | exact .nil | refine .cons (by repeat (first | exact .here | apply Pick.there)) ?_))⟩)

end Go.Proofs
