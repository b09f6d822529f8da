/- Contracts of the program's functions, proved by walking them with the rules of the Gx texts; without conditions beyond those that each contract names. -/
import Derived.Test.YtaffndpaehiafaaC07I
namespace Go.Proofs
open Go Go.RowKit Gx
set_option linter.unusedVariables false
set_option linter.unusedSimpArgs false
attribute [local irreducible] Go.Calls Gx.S Gx.O Gx.D Gx.OpP Gx.OpQ Gx.OpH

theorem zr_43 : tzero Try.prog 43 = some [.slice none 0 0, .int .i64 0, .string (bs [])] := by kernel_rfl
theorem pl_43 : tplaces Try.prog 43 = some [(0, 1), (1, 1), (2, 1)] := by kernel_rfl
theorem fn_73 : isFn Try.prog 73 = true := by kernel_rfl
theorem fn_74 : isFn Try.prog 74 = true := by kernel_rfl


set_option maxRecDepth 20000 in
theorem c73 (w : World) (a : Option Addr) (cap : Nat) (fs : Fds) (hs : Fl w a fs) (hm : fs.length ≤ 1000) : Calls Try.prog 73 #[.slice a fs.length cap] w fun en w' => ∃ v : Value, en = .returned v ∧ True ∧ HS w [] [.own v 96 2 fs.length (flatF fs)] w' := by
  refine enter (args := [_]) Try.func73 Try.ntmps73 rfl rfl (HS.refl w []) ?_
  refine s_seq ?_
  refine s_region ?_
  refine o_p (p_pure rfl) rfl ?_
  refine o_nil ?_
  refine s_seq ?_
  refine s_seq ?_
  refine s_region ?_
  refine o_p (p_pure rfl) rfl ?_
  refine o_p (p_slice_nil_eql rfl rfl rfl Try.underlying41) rfl ?_
  refine o_nil ?_
  refine s_cond rfl (fun h1 => ?_) (fun h1 => ?_)
  · try simp only [decide_eq_true_eq, decide_eq_false_iff_not, Bool.not_eq_true', Bool.not_eq_false', Bool.and_eq_true, Bool.or_eq_true, Bool.and_eq_false_iff, Bool.or_eq_false_iff, Bool.not_true, Bool.not_false] at h1
    refine s_seq ?_
    refine s_region ?_
    refine o_p (p_pure rfl) rfl ?_
    refine o_nil ?_
    exact s_retv (rs := [.tmp 2]) rfl (.tmp rfl (.nil)) (fun w' h' => ⟨_, rfl, trivial, by have ha : a = none := (by simpa using h1); subst ha; rw [hs.none]; exact (h'.own_nil 96 2).ent (by repeat (first | exact .nil | refine .cons (by repeat (first | exact .here | apply Pick.there)) ?_))⟩)
  · try simp only [decide_eq_true_eq, decide_eq_false_iff_not, Bool.not_eq_true', Bool.not_eq_false', Bool.and_eq_true, Bool.or_eq_true, Bool.and_eq_false_iff, Bool.or_eq_false_iff, Bool.not_true, Bool.not_false] at h1
    refine s_skip ?_
    refine s_seq ?_
    refine s_region ?_
    refine o_h (h_buildSlice0 rfl sl_41) rfl (fun b2 _ => ?_)
    refine o_p (p_pure rfl) rfl ?_
    refine o_h (h_append (flatF fs) rfl rfl rfl sl_41 Try.underlying41 zr_96 rfl (by repeat (first | exact .here | apply Pick.there)) (fun w h => hs.src h) (flatF_length fs) (flatF_one fs) (by omega) (by simp only [maxLen]; omega)) rfl (fun b3 _ => ?_)
    refine o_p (p_pure rfl) rfl ?_
    refine o_nil ?_
    exact s_retv (rs := [.tmp 2]) rfl (.tmp rfl (.nil)) (fun w' h' => ⟨_, rfl, trivial, by have h2 := h'; rw [Nat.zero_add, List.nil_append] at h2; exact h2.ent (by repeat (first | exact .nil | refine .cons (by repeat (first | exact .here | apply Pick.there)) ?_))⟩)

theorem x73 (w : World) (a : Option Addr) (cap : Nat) (fs : Fds) (hs : Fl w a fs) (hm : fs.length ≤ 1000) : Calls Try.prog 73 #[.slice a fs.length cap] w fun en w' => ∃ g : Option Addr × Nat, en = .returned (.slice g.1 fs.length g.2) ∧ True ∧ HS w [] [.own (.slice g.1 fs.length g.2) 96 2 fs.length (flatF fs)] w' := by
  refine Calls.mono (c73 w a cap fs hs hm) fun en w' hh => ?_
  obtain ⟨v, rfl, _, h⟩ := hh
  obtain ⟨a', cap', rfl, _⟩ := h.head.form
  exact ⟨(a', cap'), rfl, trivial, h⟩
theorem x74 (w : World) (c : Nat) (hc : c ≤ 100000) : Calls Try.prog 74 #[.string (bs [0]), .int .i64 (c : Int)] w fun en w' => en = .returned (.string (bs (List.replicate c 0))) ∧ Below w.heap.size w w' := by
  have h := Try.strings_Repeat (bs [0]) c w (by omega) (by simp; omega)
  have e : Lib.repeatL (bs [0]).data.toList c = List.replicate c 0 := by
    have := Lib.repeatL_replicate 0 1 c
    simpa using this
  rw [e] at h
  exact h
abbrev FileD := Fds × Int × List UInt8
def padTo (l : List UInt8) (n : Nat) : List UInt8 := l ++ List.replicate (n - l.length) 0
def overT (l : List UInt8) (at' : Nat) (data : List UInt8) : List UInt8 := (padTo l at').take at' ++ data ++ (padTo l at').drop (min (at' + data.length) (padTo l at').length)
def writeE1 (fs : Fds) (nc : Int) (len : Nat) (u : Int) (own : List UInt8) (at' : Int) : Int :=
  if fileE fs nc len = 0 then if holdE u own = 0 then if 0 ≤ at' ∧ at' ≤ 8192 then 0 else 2 else holdE u own else fileE fs nc len
def writeE (fs : Fds) (nc : Int) (len : Nat) (u : Int) (own : List UInt8) (at' : Int) (data : List UInt8) : Int :=
  if writeE1 fs nc len u own at' = 0 then if data = [] ∨ (data.length : Int) ≤ 8192 - at' then 0 else 8 else writeE1 fs nc len u own at'
def writeT (fs : Fds) (nc : Int) (st : List UInt8) (u : Int) (own : List UInt8) (at' : Int) (data : List UInt8) : FileD × Int :=
  if writeE fs nc st.length u own at' data = 0 then
    if (keyForT fs u own).2 = 0 then
      if data = [] then ((fs, nc, st), 0)
      else ((fs, nc, cryptL (keyForT fs u own).1 (wd nc) 0 (overT (cryptL (keyForT fs u own).1 (wd nc) 0 st) at'.toNat data)), 0)
    else (([], 0, []), (keyForT fs u own).2)
  else (([], 0, []), writeE fs nc st.length u own at' data)
section
variable {fs : Fds} {nc : Int} {st : List UInt8} {len : Nat} {u : Int} {own : List UInt8} {at' : Int} {data : List UInt8}
theorem writeE1_eq : firstV [.int .i64 (fileE fs nc len), .int .i64 (holdE u own), .int .i64 (bif decide (0 ≤ at') && decide (at' ≤ 8192) then 0 else 2)] = writeE1 fs nc len u own at' := by
  simp only [firstV, writeE1, cond_eq_ite, decide_eq_true_eq, Bool.and_eq_true] at *
  grind
theorem writeE1_ok (h : writeE1 fs nc len u own at' = 0) : fileE fs nc len = 0 ∧ holdE u own = 0 ∧ 0 ≤ at' ∧ at' ≤ 8192 := by
  unfold writeE1 at h
  grind
theorem writeE_2 (h : ¬ writeE1 fs nc len u own at' = 0) : writeE1 fs nc len u own at' = writeE fs nc len u own at' data := by unfold writeE; rw [if_neg h]
theorem writeE_3 (h : writeE1 fs nc len u own at' = 0) : (bif decide (data = []) || decide ((data.length : Int) ≤ 8192 - at') then (0 : Int) else 8) = writeE fs nc len u own at' data := by
  unfold writeE; rw [if_pos h]
  simp only [cond_eq_ite, Bool.or_eq_true, decide_eq_true_eq]
theorem writeE_ok (h : writeE fs nc len u own at' data = 0) : writeE1 fs nc len u own at' = 0 ∧ (data = [] ∨ (data.length : Int) ≤ 8192 - at') := by
  unfold writeE at h
  grind
theorem writeT_err (h : ¬ writeE fs nc st.length u own at' data = 0) : writeT fs nc st u own at' data = (([], 0, []), writeE fs nc st.length u own at' data) := by unfold writeT; rw [if_neg h]
theorem writeT_key (h : writeE fs nc st.length u own at' data = 0) (hk : ¬ (keyForT fs u own).2 = 0) : writeT fs nc st u own at' data = (([], 0, []), (keyForT fs u own).2) := by unfold writeT; rw [if_pos h, if_neg hk]
theorem writeT_nil (h : writeE fs nc st.length u own at' data = 0) (hk : (keyForT fs u own).2 = 0) (hd : data = []) : writeT fs nc st u own at' data = ((fs, nc, st), 0) := by unfold writeT; rw [if_pos h, if_pos hk, if_pos hd]
theorem writeT_ok (h : writeE fs nc st.length u own at' data = 0) (hk : (keyForT fs u own).2 = 0) (hd : ¬ data = []) : writeT fs nc st u own at' data = ((fs, nc, cryptL (keyForT fs u own).1 (wd nc) 0 (overT (cryptL (keyForT fs u own).1 (wd nc) 0 st) at'.toNat data)), 0) := by unfold writeT; rw [if_pos h, if_pos hk, if_neg hd]
end
theorem padTo_length (l : List UInt8) (n : Nat) : (padTo l n).length = max l.length n := by simp [padTo]; omega

set_option maxRecDepth 20000 in
theorem c28 (w : World) (a : Option Addr) (cap : Nat) (fs : Fds) (nc : Int) (st : List UInt8) (u : Int) (own : List UInt8) (at' : Int) (data : List UInt8) (hs : Fl w a fs) (hm : fs.length ≤ 1000) (hdl : data.length ≤ 100000) : Calls Try.prog 28 #[.agg #[.slice a fs.length cap, .int .i64 nc, .string (bs st)], .agg #[.int .i64 u, .string (bs own)], .int .i64 at', .string (bs data)] w fun en w' => ∃ v : Value, en = .returned (.tuple #[.agg #[v, .int .i64 (writeT fs nc st u own at' data).1.2.1, .string (bs (writeT fs nc st u own at' data).1.2.2)], .int .i64 (writeT fs nc st u own at' data).2]) ∧ True ∧ HS w [] [.own v 96 2 (writeT fs nc st u own at' data).1.1.length (flatF (writeT fs nc st u own at' data).1.1)] w' := by
  refine enter (args := [_, _, _, _]) Try.func28 Try.ntmps28 rfl rfl (HS.refl w []) ?_
  refine s_seq ?_
  refine s_region ?_
  refine o_h (h_box rfl rfl) rfl (fun b1 _ => ?_)
  refine o_h (h_box rfl rfl) rfl (fun b2 _ => ?_)
  refine o_h (h_alloc rfl zr_43) rfl (fun b3 _ => ?_)
  refine o_p (p_pure rfl) rfl ?_
  refine o_nil ?_
  refine s_seq ?_
  refine s_draw [] mixed ?_
  refine d_q 0 [] rfl (q_loadn rfl rfl sz_43 (by repeat (first | exact .here | apply Pick.there)) rfl) (by kernel_rfl) (by kernel_rfl) (by kernel_rfl) rfl ?_
  refine d_q 1 [] rfl (q_call rfl fn_67 rfl (fun w1 h1 => c67 w1 _ _ fs _ _ (hs.later h1) hm)) (by kernel_rfl) (by kernel_rfl) (by kernel_rfl) rfl ?_
  refine d_q 2 [] rfl (q_loadn rfl rfl sz_31 (by repeat (first | exact .here | apply Pick.there)) rfl) (by kernel_rfl) (by kernel_rfl) (by kernel_rfl) rfl ?_
  refine d_q 3 [] rfl (q_call rfl fn_60 rfl (fun w1 h1 => c60 w1 _ _)) (by kernel_rfl) (by kernel_rfl) (by kernel_rfl) rfl ?_
  refine d_p 4 rfl (p_pure rfl) (by kernel_rfl) rfl rfl ?_
  refine d_q 5 [] rfl (q_call rfl fn_68 rfl (fun w1 h1 => c68 w1 _ _ _)) (by kernel_rfl) (by kernel_rfl) (by kernel_rfl) rfl ?_
  refine d_q 6 [] rfl (q_call rfl fn_65 rfl (fun w1 h1 => c65 w1 _ _)) (by kernel_rfl) (by kernel_rfl) (by kernel_rfl) rfl ?_
  refine d_h 7 rfl (h_buildSlice (cs := [_, _, _]) rfl rfl sl_140 zr_24 rfl rfl rfl) (by kernel_rfl) (fun w h => h.ent (by repeat (first | exact .nil | refine .cons (by repeat (first | exact .here | apply Pick.there)) ?_))) rfl (fun b4 _ => ?_)
  refine d_base (fun w h => h.ent (by repeat (first | exact .nil | refine .cons (by repeat (first | exact .here | apply Pick.there)) ?_))) ?_
  refine d_q 8 [] rfl (q_call rfl fn_59 rfl (fun w1 h1 => f59 h1 (by repeat (first | exact .here | apply Pick.there)) (by rfl) (by rfl) (by decide))) (by kernel_rfl) (by kernel_rfl) (by kernel_rfl) rfl ?_
  rw [writeE1_eq]
  refine d_p 9 rfl (p_pure rfl) (by kernel_rfl) rfl rfl ?_
  refine d_nil (by kernel_rfl) (fun w h => h.ent (by repeat (first | exact .nil | refine .cons (by repeat (first | exact .here | apply Pick.there)) ?_))) ?_
  refine s_seq ?_
  refine s_seq ?_
  refine s_region ?_
  refine o_p (p_pure rfl) rfl ?_
  refine o_p (p_pure rfl) rfl ?_
  refine o_nil ?_
  refine s_cutI (α := Unit) [10, 25, 26, 27, 28, 29, 30, 31, 32, 33, 34] (fun _ => [(10, .int .i64 (writeE fs nc st.length u own at' data))]) (fun _ => HS w [] [.blk b3 43 3 [.slice none 0 0, .int .i64 0, .string (bs [])], .blk b2 31 2 [.int .i64 u, .string (bs own)], .blk b1 43 3 [.slice a fs.length cap, .int .i64 nc, .string (bs st)]]) (fun _ => True) ?_ ?_
  · skip
    refine s_cond rfl (fun h5 => ?_) (fun h5 => ?_)
    · try simp only [decide_eq_true_eq, decide_eq_false_iff_not, Bool.not_eq_true', Bool.not_eq_false', Bool.and_eq_true, Bool.or_eq_true, Bool.and_eq_false_iff, Bool.or_eq_false_iff, Bool.not_true, Bool.not_false] at h5
      have hat := writeE1_ok h5
      refine s_region ?_
      refine o_p (p_pure rfl) rfl ?_
      refine o_p (p_pure rfl) rfl ?_
      refine o_p (p_pure rfl) rfl ?_
      refine o_or 6 27 33 _ _ rfl
        (by
          intro hg6
          have hs7 := hg6; try simp only [decide_eq_true_eq, decide_eq_false_iff_not, Bool.not_eq_true', Bool.not_eq_false', Bool.and_eq_true, Bool.or_eq_true, Bool.and_eq_false_iff, Bool.or_eq_false_iff, Bool.not_true, Bool.not_false] at hs7
          refine o_on 27 _ rfl rfl hg6 ?_
          refine o_p (p_pure rfl) rfl ?_
          refine o_on 27 _ rfl rfl hg6 ?_
          refine o_p (p_len_str rfl rfl Try.underlying9) rfl ?_
          refine o_on 27 _ rfl rfl hg6 ?_
          refine o_p (p_pure rfl) rfl ?_
          refine o_on 27 _ rfl rfl hg6 ?_
          refine o_p (p_pure rfl) rfl ?_
          try (refine o_slot (i64w (by omega) (by omega)) ?_)
          refine o_on 27 _ rfl rfl hg6 ?_
          refine o_p (p_pure rfl) rfl ?_
          refine o_p (p_pickf rfl rfl hg6 rfl) rfl ?_
          refine o_nil ?_
          exact s_join () (by repeat (first | exact sl_n | refine sl_c rfl ?_)) (fun w h => by first | exact h | exact h.ent (by repeat (first | exact .nil | refine .cons (by repeat (first | exact .here | apply Pick.there)) ?_))))
        (by
          intro hg8
          have hs9 := hg8; try simp only [decide_eq_true_eq, decide_eq_false_iff_not, Bool.not_eq_true', Bool.not_eq_false', Bool.and_eq_true, Bool.or_eq_true, Bool.and_eq_false_iff, Bool.or_eq_false_iff, Bool.not_true, Bool.not_false] at hs9
          refine o_off 27 _ rfl rfl hg8 rfl ?_
          refine o_off 27 _ rfl rfl hg8 rfl ?_
          refine o_off 27 _ rfl rfl hg8 rfl ?_
          refine o_off 27 _ rfl rfl hg8 rfl ?_
          refine o_off 27 _ rfl rfl hg8 rfl ?_
          refine o_p (p_pickt rfl rfl hg8 rfl) rfl ?_
          refine o_nil ?_
          exact s_join () (by repeat (first | exact sl_n | refine sl_c rfl ?_)) (fun w h => by first | exact h | exact h.ent (by repeat (first | exact .nil | refine .cons (by repeat (first | exact .here | apply Pick.there)) ?_)))) ?_
      refine o_q (q_call rfl fn_65 rfl (fun w1 h1 => c65 w1 _ _)) rfl ?_
      refine o_p (p_pure rfl) rfl ?_
      refine o_nil ?_
      exact s_joinI () trivial (sl_c (congrArg (fun e => some (Value.int .i64 e)) (writeE_3 h5)) (by repeat (first | exact sl_n | refine sl_c rfl ?_))) (fun w h => h.ent (by repeat (first | exact .nil | refine .cons (by repeat (first | exact .here | apply Pick.there)) ?_)))
    · try simp only [decide_eq_true_eq, decide_eq_false_iff_not, Bool.not_eq_true', Bool.not_eq_false', Bool.and_eq_true, Bool.or_eq_true, Bool.and_eq_false_iff, Bool.or_eq_false_iff, Bool.not_true, Bool.not_false] at h5
      refine s_skip ?_
      exact s_joinI () trivial (sl_c (congrArg (fun e => some (Value.int .i64 e)) (writeE_2 h5)) (by repeat (first | exact sl_n | refine sl_c rfl ?_))) (fun w h => h.ent (by repeat (first | exact .nil | refine .cons (by repeat (first | exact .here | apply Pick.there)) ?_)))
  · intro _ _
    refine s_seq ?_
    refine s_seq ?_
    refine s_region ?_
    refine o_p (p_pure rfl) rfl ?_
    refine o_p (p_pure rfl) rfl ?_
    refine o_nil ?_
    refine s_cond rfl (fun h10 => ?_) (fun h10 => ?_)
    · try simp only [decide_eq_true_eq, decide_eq_false_iff_not, Bool.not_eq_true', Bool.not_eq_false', Bool.and_eq_true, Bool.or_eq_true, Bool.and_eq_false_iff, Bool.or_eq_false_iff, Bool.not_true, Bool.not_false] at h10
      refine s_seq ?_
      refine s_region ?_
      refine o_p (p_build (cs := [_, _, _]) rfl rfl pl_43 zr_43 rfl) rfl ?_
      refine o_p (p_pure rfl) rfl ?_
      refine o_h0 (h_store rfl rfl rfl sz_43 rfl (by repeat (first | exact .here | apply Put.there)) (by simp only [setMany_length, List.length_set, List.length_cons, List.length_nil, List.length_map]; omega) rfl) (fun _ _ => ?_)
      refine o_p (p_pure rfl) rfl ?_
      refine o_nil ?_
      exact s_retv (rs := [.cell 8 43, .tmp 9]) rfl (.cell rfl sz_43 (by repeat (first | exact .here | apply Pick.there)) rfl (.tmp rfl (.nil))) (fun w' h' => ⟨.slice none 0 0, by rw [writeT_err h10]; rfl, trivial, by rw [writeT_err h10]; exact (h'.own_nil 96 2).ent (by repeat (first | exact .nil | refine .cons (by repeat (first | exact .here | apply Pick.there)) ?_))⟩)
    · try simp only [decide_eq_true_eq, decide_eq_false_iff_not, Bool.not_eq_true', Bool.not_eq_false', Bool.and_eq_true, Bool.or_eq_true, Bool.and_eq_false_iff, Bool.or_eq_false_iff, Bool.not_true, Bool.not_false] at h10
      have hr : writeE fs nc st.length u own at' data = 0 := h10
      obtain ⟨r0, r5⟩ := writeE_ok hr
      obtain ⟨r1, r2, r3, r4⟩ := writeE1_ok r0
      obtain ⟨ok, hw, hle⟩ := fileE_ok r1
      refine s_skip ?_
      refine s_seq ?_
      refine s_region ?_
      refine o_p (p_fieldAddr rfl rfl fd_43_0 sz_41 rfl) rfl ?_
      refine o_q (q_load rfl rfl sz_41 (by repeat (first | exact .here | apply Pick.there)) rfl) rfl ?_
      refine o_q (q_loadn rfl rfl sz_31 (by repeat (first | exact .here | apply Pick.there)) rfl) rfl ?_
      refine o_q (q_call rfl fn_69 rfl (fun w1 h1 => c69 w1 _ _ fs _ _ (hs.later h1) (by assumption) (by assumption))) rfl ?_
      refine o_p (p_pure rfl) rfl ?_
      refine o_p (p_pure rfl) rfl ?_
      refine o_p (p_pure rfl) rfl ?_
      refine o_p (p_pure rfl) rfl ?_
      refine o_p (p_pure rfl) rfl ?_
      refine o_nil ?_
      refine s_seq ?_
      refine s_seq ?_
      refine s_region ?_
      refine o_p (p_pure rfl) rfl ?_
      refine o_p (p_pure rfl) rfl ?_
      refine o_nil ?_
      refine s_cond rfl (fun h11 => ?_) (fun h11 => ?_)
      · try simp only [decide_eq_true_eq, decide_eq_false_iff_not, Bool.not_eq_true', Bool.not_eq_false', Bool.and_eq_true, Bool.or_eq_true, Bool.and_eq_false_iff, Bool.or_eq_false_iff, Bool.not_true, Bool.not_false] at h11
        refine s_seq ?_
        refine s_region ?_
        refine o_p (p_build (cs := [_, _, _]) rfl rfl pl_43 zr_43 rfl) rfl ?_
        refine o_p (p_pure rfl) rfl ?_
        refine o_h0 (h_store rfl rfl rfl sz_43 rfl (by repeat (first | exact .here | apply Put.there)) (by simp only [setMany_length, List.length_set, List.length_cons, List.length_nil, List.length_map]; omega) rfl) (fun _ _ => ?_)
        refine o_p (p_pure rfl) rfl ?_
        refine o_nil ?_
        exact s_retv (rs := [.cell 8 43, .tmp 9]) rfl (.cell rfl sz_43 (by repeat (first | exact .here | apply Pick.there)) rfl (.tmp rfl (.nil))) (fun w' h' => ⟨.slice none 0 0, by rw [writeT_key hr h11]; rfl, trivial, by rw [writeT_key hr h11]; exact (h'.own_nil 96 2).ent (by repeat (first | exact .nil | refine .cons (by repeat (first | exact .here | apply Pick.there)) ?_))⟩)
      · try simp only [decide_eq_true_eq, decide_eq_false_iff_not, Bool.not_eq_true', Bool.not_eq_false', Bool.and_eq_true, Bool.or_eq_true, Bool.and_eq_false_iff, Bool.or_eq_false_iff, Bool.not_true, Bool.not_false] at h11
        have hk0 : (keyForT fs u own).2 = 0 := h11
        have hkl := keyForT_len ok hk0
        refine s_skip ?_
        refine s_seq ?_
        refine s_draw [9] mixed ?_
        refine d_p 0 rfl (p_fieldAddr rfl rfl fd_43_0 sz_41 rfl) (by kernel_rfl) rfl rfl ?_
        refine d_q 1 [[]] rfl (q_load rfl rfl sz_41 (by repeat (first | exact .here | apply Pick.there)) rfl) (by kernel_rfl) (by kernel_rfl) (by kernel_rfl) rfl ?_
        refine d_p 3 rfl (p_fieldAddr rfl rfl fd_43_1 sz_3 rfl) (by kernel_rfl) rfl rfl ?_
        refine d_q 4 [[]] rfl (q_load rfl rfl sz_3 (by repeat (first | exact .here | apply Pick.there)) rfl) (by kernel_rfl) (by kernel_rfl) (by kernel_rfl) rfl ?_
        refine d_p 5 rfl (p_fieldAddr rfl rfl fd_43_2 sz_9 rfl) (by kernel_rfl) rfl rfl ?_
        refine d_q 6 [[]] rfl (q_load rfl rfl sz_9 (by repeat (first | exact .here | apply Pick.there)) rfl) (by kernel_rfl) (by kernel_rfl) (by kernel_rfl) rfl ?_
        refine d_two 2 8 rfl rfl  (h_call rfl fn_73 rfl (fun w1 h1 => x73 w1 _ _ fs (hs.later h1) hm)) (h_alloc rfl zr_43) (by kernel_rfl) (fun w h => h.ent (by repeat (first | exact .nil | refine .cons (by repeat (first | exact .here | apply Pick.there)) ?_))) rfl rfl  (fun b12 _ => ?_) (fun b13 _ => ?_)
        · skip
          refine d_base (fun w h => h.ent (by repeat (first | exact .nil | refine .cons (by repeat (first | exact .here | apply Pick.there)) ?_))) ?_
          refine d_p 7 rfl (p_build (cs := [_, _, _]) rfl rfl pl_43 zr_43 rfl) (by kernel_rfl) rfl rfl ?_
          refine d_h 8 rfl (h_alloc rfl zr_43) (by kernel_rfl) (fun w h => h.ent (by repeat (first | exact .nil | refine .cons (by repeat (first | exact .here | apply Pick.there)) ?_))) rfl (fun b14 _ => ?_)
          refine d_base (fun w h => h.ent (by repeat (first | exact .nil | refine .cons (by repeat (first | exact .here | apply Pick.there)) ?_))) ?_
          refine d_h0 9 rfl (h_store rfl rfl rfl sz_43 rfl (by repeat (first | exact .here | apply Put.there)) (by simp only [setMany_length, List.length_set, List.length_cons, List.length_nil, List.length_map]; omega) rfl) (by kernel_rfl) (fun w h => h.ent (by repeat (first | exact .nil | refine .cons (by repeat (first | exact .here | apply Pick.there)) ?_))) (fun _ _ => ?_)
          refine d_turn [] (by kernel_rfl) ?_
          refine d_nil (by kernel_rfl) (fun w h => h.ent (by repeat (first | exact .nil | refine .cons (by repeat (first | exact .here | apply Pick.there)) ?_))) ?_
          refine s_seq ?_
          refine s_seq ?_
          refine s_region ?_
          refine o_p (p_pure rfl) rfl ?_
          refine o_p (p_pure rfl) rfl ?_
          refine o_nil ?_
          refine s_cond rfl (fun h15 => ?_) (fun h15 => ?_)
          · try simp only [decide_eq_true_eq, decide_eq_false_iff_not, Bool.not_eq_true', Bool.not_eq_false', Bool.and_eq_true, Bool.or_eq_true, Bool.and_eq_false_iff, Bool.or_eq_false_iff, Bool.not_true, Bool.not_false] at h15
            refine s_seq ?_
            refine s_region ?_
            refine o_q (q_loadn rfl rfl sz_43 (by repeat (first | exact .here | apply Pick.there)) rfl) rfl ?_
            refine o_h0 (h_store rfl rfl rfl sz_43 rfl (by repeat (first | exact .here | apply Put.there)) (by simp only [setMany_length, List.length_set, List.length_cons, List.length_nil, List.length_map]; omega) rfl) (fun _ _ => ?_)
            refine o_p (p_pure rfl) rfl ?_
            refine o_nil ?_
            exact s_retv (rs := [.cell 8 43, .tmp 9]) rfl (.cell rfl sz_43 (by repeat (first | exact .here | apply Pick.there)) rfl (.tmp rfl (.nil))) (fun w' h' => ⟨_, by rw [writeT_nil hr hk0 h15]; rfl, trivial, by rw [writeT_nil hr hk0 h15]; exact h'.ent (by repeat (first | exact .nil | refine .cons (by repeat (first | exact .here | apply Pick.there)) ?_))⟩)
          · try simp only [decide_eq_true_eq, decide_eq_false_iff_not, Bool.not_eq_true', Bool.not_eq_false', Bool.and_eq_true, Bool.or_eq_true, Bool.and_eq_false_iff, Bool.or_eq_false_iff, Bool.not_true, Bool.not_false] at h15
            have hd : ¬ data = [] := h15
            have hda : (data.length : Int) ≤ 8192 - at' := r5.resolve_left hd
            refine s_skip ?_
            refine s_seq ?_
            refine s_region ?_
            refine o_p (p_pure rfl) rfl ?_
            refine o_p (p_fieldAddr rfl rfl fd_43_1 sz_3 rfl) rfl ?_
            refine o_q (q_load rfl rfl sz_3 (by repeat (first | exact .here | apply Pick.there)) rfl) rfl ?_
            refine o_p (p_fieldAddr rfl rfl fd_43_2 sz_9 rfl) rfl ?_
            refine o_q (q_load rfl rfl sz_9 (by repeat (first | exact .here | apply Pick.there)) rfl) rfl ?_
            refine o_q (q_call rfl fn_70 rfl (fun w1 h1 => c70 w1 _ nc 0 st hkl hw (by omega))) rfl ?_
            have hcl := cryptL_length (keyForT fs u own).1 (wd nc) st 0
            refine o_p (p_pure rfl) rfl ?_
            refine o_nil ?_
            refine s_seq ?_
            refine s_region ?_
            refine o_p (p_pure rfl) rfl ?_
            refine o_p (p_pure rfl) rfl ?_
            refine o_p (p_pure rfl) rfl ?_
            refine o_p (p_len_str rfl rfl Try.underlying9) rfl ?_
            refine o_p (p_pure rfl) rfl ?_
            try (refine o_slot (i64w (by omega) (by omega)) ?_)
            refine o_p (p_max2 rfl rfl rfl ) rfl ?_
            refine o_slot (show _ = Value.int .i64 ((at'.toNat - st.length : Nat) : Int) from by congr 1; rw [cryptL_length]; split <;> omega) ?_
            refine o_q (q_call rfl fn_74 rfl (fun w1 h1 => x74 w1 _ (by omega))) rfl ?_
            refine o_p (p_str_add rfl rfl rfl (by (try simp only [List.length_append, List.length_cons, List.length_nil, List.length_replicate, List.length_take, List.length_drop, cryptL_length]); omega)) rfl ?_
            rw [show cryptL (keyForT fs u own).1 (wd nc) 0 st ++ List.replicate (at'.toNat - st.length) 0 = padTo (cryptL (keyForT fs u own).1 (wd nc) 0 st) at'.toNat by rw [padTo, cryptL_length]]
            have hpl := padTo_length (cryptL (keyForT fs u own).1 (wd nc) 0 st) at'.toNat
            rw [cryptL_length] at hpl
            refine o_p (p_pure rfl) rfl ?_
            refine o_nil ?_
            refine s_seq ?_
            refine s_draw [] mixed ?_
            refine d_p 0 rfl (p_pure rfl) (by kernel_rfl) rfl rfl ?_
            refine d_p 1 rfl (p_pure rfl) (by kernel_rfl) rfl rfl ?_
            refine d_p 2 rfl (p_slice_str_to at'.toNat rfl rfl rfl Try.underlying9 (Int.toNat_of_nonneg (by omega)).symm (by omega)) (by kernel_rfl) rfl rfl ?_
            refine d_p 3 rfl (p_pure rfl) (by kernel_rfl) rfl rfl ?_
            refine d_p 4 rfl (p_str_add rfl rfl rfl (by (try simp only [List.length_append, List.length_cons, List.length_nil, List.length_replicate, List.length_take, List.length_drop, cryptL_length]); omega)) (by kernel_rfl) rfl rfl ?_
            refine d_p 5 rfl (p_pure rfl) (by kernel_rfl) rfl rfl ?_
            refine d_p 6 rfl (p_pure rfl) (by kernel_rfl) rfl rfl ?_
            refine d_p 7 rfl (p_pure rfl) (by kernel_rfl) rfl rfl ?_
            refine d_p 8 rfl (p_len_str rfl rfl Try.underlying9) (by kernel_rfl) rfl rfl ?_
            refine d_p 9 rfl (p_pure rfl) (by kernel_rfl) rfl rfl ?_
            try (refine d_slot (i64w (by omega) (by omega)) ?_)
            refine d_p 10 rfl (p_pure rfl) (by kernel_rfl) rfl rfl ?_
            refine d_p 11 rfl (p_len_str rfl rfl Try.underlying9) (by kernel_rfl) rfl rfl ?_
            refine d_p 12 rfl (p_min2 rfl rfl rfl ) (by kernel_rfl) rfl rfl ?_
            refine d_slot (show _ = Value.int .i64 ((min (at'.toNat + data.length) (padTo (cryptL (keyForT fs u own).1 (wd nc) 0 st) at'.toNat).length : Nat) : Int) from by congr 1; split <;> omega) ?_
            refine d_p 13 rfl (p_slice_str_from (min (at'.toNat + data.length) (padTo (cryptL (keyForT fs u own).1 (wd nc) 0 st) at'.toNat).length) rfl rfl rfl Try.underlying9 rfl (by omega)) (by kernel_rfl) rfl rfl ?_
            refine d_p 14 rfl (p_str_add rfl rfl rfl (by (try simp only [List.length_append, List.length_cons, List.length_nil, List.length_replicate, List.length_take, List.length_drop, cryptL_length]); omega)) (by kernel_rfl) rfl rfl ?_
            rw [show (padTo (cryptL (keyForT fs u own).1 (wd nc) 0 st) at'.toNat).take at'.toNat ++ data ++ (padTo (cryptL (keyForT fs u own).1 (wd nc) 0 st) at'.toNat).drop (min (at'.toNat + data.length) (padTo (cryptL (keyForT fs u own).1 (wd nc) 0 st) at'.toNat).length) = overT (cryptL (keyForT fs u own).1 (wd nc) 0 st) at'.toNat data from rfl]
            have hol : (overT (cryptL (keyForT fs u own).1 (wd nc) 0 st) at'.toNat data).length ≤ 1048576 := by simp only [overT, List.length_append, List.length_take, List.length_drop]; omega
            refine d_p 15 rfl (p_pure rfl) (by kernel_rfl) rfl rfl ?_
            refine d_nil (by kernel_rfl) (fun w h => h.ent (by repeat (first | exact .nil | refine .cons (by repeat (first | exact .here | apply Pick.there)) ?_))) ?_
            refine s_seq ?_
            refine s_region ?_
            refine o_p (p_pure rfl) rfl ?_
            refine o_p (p_fieldAddr rfl rfl fd_43_1 sz_3 rfl) rfl ?_
            refine o_q (q_load rfl rfl sz_3 (by repeat (first | exact .here | apply Pick.there)) rfl) rfl ?_
            refine o_p (p_pure rfl) rfl ?_
            refine o_q (q_call rfl fn_70 rfl (fun w1 h1 => c70 w1 _ nc 0 _ hkl hw (by omega))) rfl ?_
            refine o_p (p_fieldAddr rfl rfl fd_43_2 sz_9 rfl) rfl ?_
            refine o_h0 (h_store rfl rfl rfl sz_9 rfl (by repeat (first | exact .here | apply Put.there)) (by simp only [setMany_length, List.length_set, List.length_cons, List.length_nil, List.length_map]; omega) rfl) (fun _ _ => ?_)
            refine o_nil ?_
            refine s_seq ?_
            refine s_region ?_
            refine o_q (q_loadn rfl rfl sz_43 (by repeat (first | exact .here | apply Pick.there)) rfl) rfl ?_
            refine o_h0 (h_store rfl rfl rfl sz_43 rfl (by repeat (first | exact .here | apply Put.there)) (by simp only [setMany_length, List.length_set, List.length_cons, List.length_nil, List.length_map]; omega) rfl) (fun _ _ => ?_)
            refine o_p (p_pure rfl) rfl ?_
            refine o_nil ?_
            exact s_retv (rs := [.cell 8 43, .tmp 9]) rfl (.cell rfl sz_43 (by repeat (first | exact .here | apply Pick.there)) rfl (.tmp rfl (.nil))) (fun w' h' => ⟨_, by rw [writeT_ok hr hk0 hd]; rfl, trivial, by rw [writeT_ok hr hk0 hd]; exact h'.ent (by repeat (first | exact .nil | refine .cons (by repeat (first | exact .here | apply Pick.there)) ?_))⟩)
        · skip
          refine d_base (fun w h => h.ent (by repeat (first | exact .nil | refine .cons (by repeat (first | exact .here | apply Pick.there)) ?_))) ?_
          refine d_h 2 rfl (h_call rfl fn_73 rfl (fun w1 h1 => x73 w1 _ _ fs (hs.later h1) hm)) (by kernel_rfl) (fun w h => h.ent (by repeat (first | exact .nil | refine .cons (by repeat (first | exact .here | apply Pick.there)) ?_))) rfl (fun b16 _ => ?_)
          refine d_base (fun w h => h.ent (by repeat (first | exact .nil | refine .cons (by repeat (first | exact .here | apply Pick.there)) ?_))) ?_
          refine d_p 7 rfl (p_build (cs := [_, _, _]) rfl rfl pl_43 zr_43 rfl) (by kernel_rfl) rfl rfl ?_
          refine d_h0 9 rfl (h_store rfl rfl rfl sz_43 rfl (by repeat (first | exact .here | apply Put.there)) (by simp only [setMany_length, List.length_set, List.length_cons, List.length_nil, List.length_map]; omega) rfl) (by kernel_rfl) (fun w h => h.ent (by repeat (first | exact .nil | refine .cons (by repeat (first | exact .here | apply Pick.there)) ?_))) (fun _ _ => ?_)
          refine d_turn [] (by kernel_rfl) ?_
          refine d_nil (by kernel_rfl) (fun w h => h.ent (by repeat (first | exact .nil | refine .cons (by repeat (first | exact .here | apply Pick.there)) ?_))) ?_
          refine s_seq ?_
          refine s_seq ?_
          refine s_region ?_
          refine o_p (p_pure rfl) rfl ?_
          refine o_p (p_pure rfl) rfl ?_
          refine o_nil ?_
          refine s_cond rfl (fun h17 => ?_) (fun h17 => ?_)
          · try simp only [decide_eq_true_eq, decide_eq_false_iff_not, Bool.not_eq_true', Bool.not_eq_false', Bool.and_eq_true, Bool.or_eq_true, Bool.and_eq_false_iff, Bool.or_eq_false_iff, Bool.not_true, Bool.not_false] at h17
            refine s_seq ?_
            refine s_region ?_
            refine o_q (q_loadn rfl rfl sz_43 (by repeat (first | exact .here | apply Pick.there)) rfl) rfl ?_
            refine o_h0 (h_store rfl rfl rfl sz_43 rfl (by repeat (first | exact .here | apply Put.there)) (by simp only [setMany_length, List.length_set, List.length_cons, List.length_nil, List.length_map]; omega) rfl) (fun _ _ => ?_)
            refine o_p (p_pure rfl) rfl ?_
            refine o_nil ?_
            exact s_retv (rs := [.cell 8 43, .tmp 9]) rfl (.cell rfl sz_43 (by repeat (first | exact .here | apply Pick.there)) rfl (.tmp rfl (.nil))) (fun w' h' => ⟨_, by rw [writeT_nil hr hk0 h17]; rfl, trivial, by rw [writeT_nil hr hk0 h17]; exact h'.ent (by repeat (first | exact .nil | refine .cons (by repeat (first | exact .here | apply Pick.there)) ?_))⟩)
          · try simp only [decide_eq_true_eq, decide_eq_false_iff_not, Bool.not_eq_true', Bool.not_eq_false', Bool.and_eq_true, Bool.or_eq_true, Bool.and_eq_false_iff, Bool.or_eq_false_iff, Bool.not_true, Bool.not_false] at h17
            have hd : ¬ data = [] := h17
            have hda : (data.length : Int) ≤ 8192 - at' := r5.resolve_left hd
            refine s_skip ?_
            refine s_seq ?_
            refine s_region ?_
            refine o_p (p_pure rfl) rfl ?_
            refine o_p (p_fieldAddr rfl rfl fd_43_1 sz_3 rfl) rfl ?_
            refine o_q (q_load rfl rfl sz_3 (by repeat (first | exact .here | apply Pick.there)) rfl) rfl ?_
            refine o_p (p_fieldAddr rfl rfl fd_43_2 sz_9 rfl) rfl ?_
            refine o_q (q_load rfl rfl sz_9 (by repeat (first | exact .here | apply Pick.there)) rfl) rfl ?_
            refine o_q (q_call rfl fn_70 rfl (fun w1 h1 => c70 w1 _ nc 0 st hkl hw (by omega))) rfl ?_
            have hcl := cryptL_length (keyForT fs u own).1 (wd nc) st 0
            refine o_p (p_pure rfl) rfl ?_
            refine o_nil ?_
            refine s_seq ?_
            refine s_region ?_
            refine o_p (p_pure rfl) rfl ?_
            refine o_p (p_pure rfl) rfl ?_
            refine o_p (p_pure rfl) rfl ?_
            refine o_p (p_len_str rfl rfl Try.underlying9) rfl ?_
            refine o_p (p_pure rfl) rfl ?_
            try (refine o_slot (i64w (by omega) (by omega)) ?_)
            refine o_p (p_max2 rfl rfl rfl ) rfl ?_
            refine o_slot (show _ = Value.int .i64 ((at'.toNat - st.length : Nat) : Int) from by congr 1; rw [cryptL_length]; split <;> omega) ?_
            refine o_q (q_call rfl fn_74 rfl (fun w1 h1 => x74 w1 _ (by omega))) rfl ?_
            refine o_p (p_str_add rfl rfl rfl (by (try simp only [List.length_append, List.length_cons, List.length_nil, List.length_replicate, List.length_take, List.length_drop, cryptL_length]); omega)) rfl ?_
            rw [show cryptL (keyForT fs u own).1 (wd nc) 0 st ++ List.replicate (at'.toNat - st.length) 0 = padTo (cryptL (keyForT fs u own).1 (wd nc) 0 st) at'.toNat by rw [padTo, cryptL_length]]
            have hpl := padTo_length (cryptL (keyForT fs u own).1 (wd nc) 0 st) at'.toNat
            rw [cryptL_length] at hpl
            refine o_p (p_pure rfl) rfl ?_
            refine o_nil ?_
            refine s_seq ?_
            refine s_draw [] mixed ?_
            refine d_p 0 rfl (p_pure rfl) (by kernel_rfl) rfl rfl ?_
            refine d_p 1 rfl (p_pure rfl) (by kernel_rfl) rfl rfl ?_
            refine d_p 2 rfl (p_slice_str_to at'.toNat rfl rfl rfl Try.underlying9 (Int.toNat_of_nonneg (by omega)).symm (by omega)) (by kernel_rfl) rfl rfl ?_
            refine d_p 3 rfl (p_pure rfl) (by kernel_rfl) rfl rfl ?_
            refine d_p 4 rfl (p_str_add rfl rfl rfl (by (try simp only [List.length_append, List.length_cons, List.length_nil, List.length_replicate, List.length_take, List.length_drop, cryptL_length]); omega)) (by kernel_rfl) rfl rfl ?_
            refine d_p 5 rfl (p_pure rfl) (by kernel_rfl) rfl rfl ?_
            refine d_p 6 rfl (p_pure rfl) (by kernel_rfl) rfl rfl ?_
            refine d_p 7 rfl (p_pure rfl) (by kernel_rfl) rfl rfl ?_
            refine d_p 8 rfl (p_len_str rfl rfl Try.underlying9) (by kernel_rfl) rfl rfl ?_
            refine d_p 9 rfl (p_pure rfl) (by kernel_rfl) rfl rfl ?_
            try (refine d_slot (i64w (by omega) (by omega)) ?_)
            refine d_p 10 rfl (p_pure rfl) (by kernel_rfl) rfl rfl ?_
            refine d_p 11 rfl (p_len_str rfl rfl Try.underlying9) (by kernel_rfl) rfl rfl ?_
            refine d_p 12 rfl (p_min2 rfl rfl rfl ) (by kernel_rfl) rfl rfl ?_
            refine d_slot (show _ = Value.int .i64 ((min (at'.toNat + data.length) (padTo (cryptL (keyForT fs u own).1 (wd nc) 0 st) at'.toNat).length : Nat) : Int) from by congr 1; split <;> omega) ?_
            refine d_p 13 rfl (p_slice_str_from (min (at'.toNat + data.length) (padTo (cryptL (keyForT fs u own).1 (wd nc) 0 st) at'.toNat).length) rfl rfl rfl Try.underlying9 rfl (by omega)) (by kernel_rfl) rfl rfl ?_
            refine d_p 14 rfl (p_str_add rfl rfl rfl (by (try simp only [List.length_append, List.length_cons, List.length_nil, List.length_replicate, List.length_take, List.length_drop, cryptL_length]); omega)) (by kernel_rfl) rfl rfl ?_
            rw [show (padTo (cryptL (keyForT fs u own).1 (wd nc) 0 st) at'.toNat).take at'.toNat ++ data ++ (padTo (cryptL (keyForT fs u own).1 (wd nc) 0 st) at'.toNat).drop (min (at'.toNat + data.length) (padTo (cryptL (keyForT fs u own).1 (wd nc) 0 st) at'.toNat).length) = overT (cryptL (keyForT fs u own).1 (wd nc) 0 st) at'.toNat data from rfl]
            have hol : (overT (cryptL (keyForT fs u own).1 (wd nc) 0 st) at'.toNat data).length ≤ 1048576 := by simp only [overT, List.length_append, List.length_take, List.length_drop]; omega
            refine d_p 15 rfl (p_pure rfl) (by kernel_rfl) rfl rfl ?_
            refine d_nil (by kernel_rfl) (fun w h => h.ent (by repeat (first | exact .nil | refine .cons (by repeat (first | exact .here | apply Pick.there)) ?_))) ?_
            refine s_seq ?_
            refine s_region ?_
            refine o_p (p_pure rfl) rfl ?_
            refine o_p (p_fieldAddr rfl rfl fd_43_1 sz_3 rfl) rfl ?_
            refine o_q (q_load rfl rfl sz_3 (by repeat (first | exact .here | apply Pick.there)) rfl) rfl ?_
            refine o_p (p_pure rfl) rfl ?_
            refine o_q (q_call rfl fn_70 rfl (fun w1 h1 => c70 w1 _ nc 0 _ hkl hw (by omega))) rfl ?_
            refine o_p (p_fieldAddr rfl rfl fd_43_2 sz_9 rfl) rfl ?_
            refine o_h0 (h_store rfl rfl rfl sz_9 rfl (by repeat (first | exact .here | apply Put.there)) (by simp only [setMany_length, List.length_set, List.length_cons, List.length_nil, List.length_map]; omega) rfl) (fun _ _ => ?_)
            refine o_nil ?_
            refine s_seq ?_
            refine s_region ?_
            refine o_q (q_loadn rfl rfl sz_43 (by repeat (first | exact .here | apply Pick.there)) rfl) rfl ?_
            refine o_h0 (h_store rfl rfl rfl sz_43 rfl (by repeat (first | exact .here | apply Put.there)) (by simp only [setMany_length, List.length_set, List.length_cons, List.length_nil, List.length_map]; omega) rfl) (fun _ _ => ?_)
            refine o_p (p_pure rfl) rfl ?_
            refine o_nil ?_
            exact s_retv (rs := [.cell 8 43, .tmp 9]) rfl (.cell rfl sz_43 (by repeat (first | exact .here | apply Pick.there)) rfl (.tmp rfl (.nil))) (fun w' h' => ⟨_, by rw [writeT_ok hr hk0 hd]; rfl, trivial, by rw [writeT_ok hr hk0 hd]; exact h'.ent (by repeat (first | exact .nil | refine .cons (by repeat (first | exact .here | apply Pick.there)) ?_))⟩)

end Go.Proofs
