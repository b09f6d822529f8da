/- Contracts of the program's functions, proved by walking them with the rules of the Gx texts; without conditions beyond those that each contract names. -/
import Derived.Test.YtaffndpaehiafaaC07ZH
namespace Go.Proofs
open Go Go.RowKit Gx
set_option linter.unusedVariables false
set_option linter.unusedSimpArgs false
attribute [local irreducible] Go.Calls Gx.S Gx.O Gx.D Gx.OpP Gx.OpQ Gx.OpH

theorem ar_93 : tar Try.prog 93 = some (2, 31, 2) := by kernel_rfl
theorem ar_94 : tar Try.prog 94 = some (2, 9, 1) := by kernel_rfl


theorem HS.fl_blk {w0 w : World} {M : List Nat} {As As' : List HA} {b tot : Nat} {t : TypeId} {fs : Fds} (h : HS w0 M As w) (hp : Pick As (.blk b t tot (flatF fs)) As') : Fl w (some ⟨b, 0, none⟩) fs :=
  h.sl_blk hp fun i hi => ⟨rfl, fun j v hv => by
    have hj : j < 2 := by
      rcases Nat.lt_or_ge j 2 with h | h
      · exact h
      · have : (fldC (fd fs i))[j]? = none := List.getElem?_eq_none (by simpa [fldC] using h)
        rw [this] at hv; cases hv
    rw [flatF_get fs i j hi hj]; exact hv⟩
theorem unwrap_wrap {u : Int} {own key : List UInt8} (hk : key.length = 8) : unwrapT u own (wrapL u own key) = (key, 0) := by
  unfold unwrapT wrapL
  simp only [cryptL_twice]
  have h1 : (key ++ checkL key).drop 8 = checkL key := by rw [← hk, List.drop_left]
  have h2 : (key ++ checkL key).take 8 = key := by rw [← hk, List.take_left]
  rw [h1, h2, if_pos rfl]
theorem wrapL_len {u : Int} {own key : List UInt8} (hk : key.length = 8) : (wrapL u own key).length = 10 := by
  unfold wrapL
  rw [cryptL_length, List.length_append, hk, checkL_length]
structure Sh (u0 u1 : Int) (o0 o1 : List UInt8) : Prop where
  h0 : holdE u0 o0 = 0
  h1 : holdE u1 o1 = 0
  lt : u0 < u1
section
variable {u0 u1 : Int} {o0 o1 k0 k1 : List UInt8}
theorem sh_r (s : Sh u0 u1 o0 o1) : 10 ≤ u0 ∧ u0 ≤ 999 ∧ 10 ≤ u1 ∧ u1 ≤ 999 ∧ u0 < u1 := by
  have a := isWd_user s.h0
  have b := isWd_user s.h1
  exact ⟨a.2.2.1, a.2.2.2, b.2.2.1, b.2.2.2, s.lt⟩
theorem chk1 (s : Sh u0 u1 o0 o1) {a : List UInt8} (ha : a.length = 10) : (chkF [(u0, a)]).2 = 0 := by
  have h := sh_r s
  simp [chkF, fdEs, eachL, fdE, fieldE, fd, ha, h.1, h.2.1]
theorem chk1' (s : Sh u0 u1 o0 o1) {a : List UInt8} (ha : a.length = 10) : (chkF [(u1, a)]).2 = 0 := by
  have h := sh_r s
  simp [chkF, fdEs, eachL, fdE, fieldE, fd, ha, h.2.2.1, h.2.2.2.1]
theorem chk2 (s : Sh u0 u1 o0 o1) {a b : List UInt8} (ha : a.length = 10) (hb : b.length = 10) : (chkF [(u0, a), (u1, b)]).2 = 0 := by
  have h := sh_r s
  simp [chkF, fdEs, eachL, fdE, fieldE, fd, ha, hb, h.1, h.2.1, h.2.2.1, h.2.2.2.1, s.lt, List.range_succ]
theorem key1 {a : List UInt8} : keyForT [(u0, a)] u0 o0 = unwrapT u0 o0 a := by
  simp [keyForT, hasF, lbF, fd]
theorem key20 {a b : List UInt8} : keyForT [(u0, a), (u1, b)] u0 o0 = unwrapT u0 o0 a := by
  simp [keyForT, hasF, lbF, fd]
theorem key21 (s : Sh u0 u1 o0 o1) {a b : List UInt8} : keyForT [(u0, a), (u1, b)] u1 o1 = unwrapT u1 o1 b := by
  have h := s.lt
  simp [keyForT, hasF, lbF, fd, h]
theorem sh_add (s : Sh u0 u1 o0 o1) (hk : k0.length = 8) : addT [(u0, wrapL u0 o0 k0)] u0 o0 u1 o1 = ([(u0, wrapL u0 o0 k0), (u1, wrapL u1 o1 k0)], 0) := by
  have hw := wrapL_len (u := u0) (own := o0) hk
  have e : keyForT [(u0, wrapL u0 o0 k0)] u0 o0 = (k0, 0) := by rw [key1, unwrap_wrap hk]
  have hn : hasF [(u0, wrapL u0 o0 k0)] u1 = false := by
    have h := s.lt
    simp [hasF, lbF, h]
  rw [add_ok ⟨chk1 s hw, s.h0, s.h1⟩ ⟨by rw [e], hn, by simp⟩, e]
  have h := s.lt
  simp [insL, lbF, h]
theorem sh_ok (s : Sh u0 u1 o0 o1) {a b : List UInt8} (ha : a.length = 10) (hb : b.length = 10) : FOk [(u0, a), (u1, b)] := chkF_ok (chk2 s ha hb)
theorem leS_leB2 (n : Nat) (h : n < 65536) : leS (leB n 2) = n := by
  rw [leB_2]
  simp only [leS, UInt8.toNat_ofNat']
  omega
theorem sh_of (s : Sh u0 u1 o0 o1) {a b : List UInt8} (ha : a.length = 10) (hb : b.length = 10) : fofT (bytesF [(u0, a), (u1, b)] 2) = ([(u0, a), (u1, b)], 0) := by
  have h := sh_r s
  have e : bytesF [(u0, a), (u1, b)] 2 = 2 :: (leB u0.toNat 2 ++ (a ++ (leB u1.toNat 2 ++ b))) := by
    simp [bytesF, leB]
  have l0 : (leB u0.toNat 2).length = 2 := leB_length 2 _
  have l1 : (leB u1.toNat 2).length = 2 := leB_length 2 _
  have hp : parF (bytesF [(u0, a), (u1, b)] 2) 2 = [(u0, a), (u1, b)] := by
    rw [e]
    have r0 : (List.range 2) = [0, 1] := rfl
    simp only [parF, r0, List.map_cons, List.map_nil]
    have d1 : List.drop (1 + 12 * 0) (2 :: (leB u0.toNat 2 ++ (a ++ (leB u1.toNat 2 ++ b)))) = leB u0.toNat 2 ++ (a ++ (leB u1.toNat 2 ++ b)) := rfl
    have d2 : List.drop (1 + 12 * 0 + 2) (2 :: (leB u0.toNat 2 ++ (a ++ (leB u1.toNat 2 ++ b)))) = a ++ (leB u1.toNat 2 ++ b) := by
      rw [show 1 + 12 * 0 + 2 = 2 + 1 by omega, List.drop_succ_cons, List.drop_left' l0]
    have d3 : List.drop (1 + 12 * 1) (2 :: (leB u0.toNat 2 ++ (a ++ (leB u1.toNat 2 ++ b)))) = leB u1.toNat 2 ++ b := by
      rw [show 1 + 12 * 1 = 12 + 1 by omega, List.drop_succ_cons, show (12 : Nat) = 2 + 10 by omega, ← List.drop_drop, List.drop_left' l0, List.drop_left' ha]
    have d4 : List.drop (1 + 12 * 1 + 2) (2 :: (leB u0.toNat 2 ++ (a ++ (leB u1.toNat 2 ++ b)))) = b := by
      rw [← List.drop_drop, d3, List.drop_left' l1]
    rw [d1, d2, d3, d4]
    have t1 : List.take 2 (leB u0.toNat 2 ++ (a ++ (leB u1.toNat 2 ++ b))) = leB u0.toNat 2 := List.take_left' l0
    have t2 : List.take 10 (a ++ (leB u1.toNat 2 ++ b)) = a := List.take_left' ha
    have t3 : List.take 2 (leB u1.toNat 2 ++ b) = leB u1.toNat 2 := List.take_left' l1
    have t4 : List.take 10 b = b := List.take_of_length_le (by omega)
    rw [t1, t2, t3, t4, leS_leB2 _ (by omega), leS_leB2 _ (by omega), Int.toNat_of_nonneg (by omega), Int.toNat_of_nonneg (by omega)]
  have hl : (bytesF [(u0, a), (u1, b)] 2).length = 1 + 12 * 2 := bytesF_len (sh_ok s ha hb) (by simp)
  have h2 : 2 = ((bytesF [(u0, a), (u1, b)] 2).getD 0 0).toNat := by rw [e]; rfl
  rw [fof_ok hl h2 (by rw [hp]; exact chk2 s ha hb), hp]
theorem sh_file {nc : Int} {len : Nat} (hw : isWd nc) (hl : len ≤ 8192) {fs : Fds} (hc : (chkF fs).2 = 0) : fileE fs nc len = 0 := by
  unfold fileE
  unfold isWd at hw
  rw [if_pos hc, if_pos hw, if_pos hl]
/-- A write, where the file reads as P under key k. -/
theorem sh_write {fs : Fds} {nc : Int} {P : List UInt8} {u : Int} {own k : List UInt8} {at' : Int} {data : List UInt8} (hc : (chkF fs).2 = 0) (hw : isWd nc) (hP : P.length ≤ 8192) (hh : holdE u own = 0) (hk : keyForT fs u own = (k, 0)) (ha : 0 ≤ at' ∧ at' ≤ 500) (hd : data.length ≤ 400) :
    writeT fs nc (cryptL k (wd nc) 0 P) u own at' data = ((fs, nc, cryptL k (wd nc) 0 (if data = [] then P else overT P at'.toNat data)), 0) := by
  have he : writeE fs nc (cryptL k (wd nc) 0 P).length u own at' data = 0 := by
    unfold writeE writeE1
    rw [cryptL_length, sh_file hw hP hc, if_pos rfl, if_pos hh, if_pos (by omega), if_pos (.inr (by omega))]
  unfold writeT
  rw [if_pos he, hk]
  simp only [cryptL_twice, if_true]
  by_cases hd0 : data = []
  · rw [if_pos hd0, if_pos hd0]
  · rw [if_neg hd0, if_neg hd0]
theorem sh_read {fs : Fds} {nc : Int} {P : List UInt8} {u : Int} {own k : List UInt8} (hc : (chkF fs).2 = 0) (hw : isWd nc) (hP : P.length ≤ 1000) (hh : holdE u own = 0) (hk : keyForT fs u own = (k, 0)) : readT fs nc (cryptL k (wd nc) 0 P) u own 0 1000 = (P, 0) := by
  have he : readE fs nc (cryptL k (wd nc) 0 P).length u own 0 1000 = 0 := by
    unfold readE
    rw [cryptL_length, sh_file hw (by omega) hc, if_pos rfl, if_pos hh, if_pos (by omega)]
  unfold readT
  rw [if_pos he, hk]
  simp only [if_true, Int.toNat_zero, List.drop_zero]
  rw [List.take_of_length_le (by rw [cryptL_length]; have : (1000 : Int).toNat = 1000 := rfl; omega), cryptL_twice]
theorem over_len (l : List UInt8) (p : Nat) (d : List UInt8) : (overT l p d).length ≤ max (p + d.length) l.length := by
  have := padTo_length l p
  unfold overT
  simp only [List.length_append, List.length_take, List.length_drop]
  omega
theorem hold_i {u : Int} {o : List UInt8} (h : holdE u o = 0) : 10 ≤ u ∧ u ≤ 999 ∧ o.length = 8 := by
  have := isWd_user h
  exact ⟨this.2.2.1, this.2.2.2, this.2.1⟩
theorem sh_rk (s : Sh u0 u1 o0 o1) (hk : k0.length = 8) (hk1 : keyE k1 = 0) {nc : Int} (hw : isWd nc) {P : List UInt8} (hP : P.length ≤ 8192) :
    rkT [(u0, wrapL u0 o0 k0), (u1, wrapL u1 o1 k0)] nc (cryptL k0 (wd nc) 0 P) [(u0, o0), (u1, o1)] k1 = (([(u0, wrapL u0 o0 k1), (u1, wrapL u1 o1 k1)], nc, cryptL k1 (wd nc) 0 P), 0) := by
  have h := sh_r s
  have lw0 := wrapL_len (u := u0) (own := o0) hk
  have lw1 := wrapL_len (u := u1) (own := o1) hk
  have hc := chk2 s lw0 lw1
  have ok := chkF_ok hc
  have h0 : rkE [(u0, wrapL u0 o0 k0), (u1, wrapL u1 o1 k0)] nc (cryptL k0 (wd nc) 0 P).length [(u0, o0), (u1, o1)] k1 = 0 := by
    have e0 : hldsE [(u0, o0), (u1, o1)] = 0 := by
      have a := s.h0
      have b := s.h1
      have c := s.lt
      simp [hldsE, hdEs, List.range_succ, eachL, hdE, hldE, fd, a, b, c]
    have e1 : rkE0 [(u0, wrapL u0 o0 k0), (u1, wrapL u1 o1 k0)] nc (cryptL k0 (wd nc) 0 P).length [(u0, o0), (u1, o1)] = 0 := by
      unfold rkE0
      rw [cryptL_length, sh_file hw hP hc, if_pos rfl, e0]
    have e2 : gapB [(u0, wrapL u0 o0 k0), (u1, wrapL u1 o1 k0)] [(u0, o0), (u1, o1)] = false := by simp [gapB, hasU]
    have e3 : accB [(u0, wrapL u0 o0 k0), (u1, wrapL u1 o1 k0)] [(u0, o0), (u1, o1)] = false := by
      have b0 := bsF_ok (u := u0) ok ⟨by omega, by omega⟩
      have b1 := bsF_ok (u := u1) ok ⟨by omega, by omega⟩
      have c0 : hasF [(u0, wrapL u0 o0 k0), (u1, wrapL u1 o1 k0)] u0 = true := by simp [hasF, lbF, fd]
      have c1 : hasF [(u0, wrapL u0 o0 k0), (u1, wrapL u1 o1 k0)] u1 = true := by have := s.lt; simp [hasF, lbF, fd, this]
      rw [c0] at b0
      rw [c1] at b1
      simp [accB, b0, b1]
    unfold rkE
    rw [if_pos e1, if_pos hk1, if_neg (by rw [e2]; decide), if_neg (by rw [e3]; decide)]
  have u0' : uw [(u0, wrapL u0 o0 k0), (u1, wrapL u1 o1 k0)] [(u0, o0), (u1, o1)] 0 = (k0, 0) := by simp only [uw, fd, List.getD_cons_zero]; exact unwrap_wrap hk
  have u1' : uw [(u0, wrapL u0 o0 k0), (u1, wrapL u1 o1 k0)] [(u0, o0), (u1, o1)] 1 = (k0, 0) := by simp only [uw, fd, List.getD_cons_succ, List.getD_cons_zero]; exact unwrap_wrap hk
  rw [rkT_ok h0 (fun k hk2 => by
    have : k = 0 ∨ k = 1 := by simp at hk2; omega
    rcases this with rfl | rfl
    · exact ⟨by rw [u0'], .inl rfl⟩
    · exact ⟨by rw [u1'], .inr (by rw [u1']; simp only [Nat.sub_self]; rw [u0'])⟩)]
  simp only [List.length_cons, List.length_nil, Nat.zero_add, Nat.reduceAdd, Nat.add_one_sub_one]
  rw [u1', cryptL_twice]
  rfl
theorem sh_rem (s : Sh u0 u1 o0 o1) {a b : List UInt8} (ha : a.length = 10) (hb : b.length = 10) : remT [(u0, a), (u1, b)] u0 = ([(u1, b)], 0) := by
  have c0 : hasF [(u0, a), (u1, b)] u0 = true := by simp [hasF, lbF, fd]
  rw [rem_ok (chk2 s ha hb) c0 (by simp)]
  simp [remL, lbF]
theorem sh_none (s : Sh u0 u1 o0 o1) {b : List UInt8} (hb : b.length = 10) : keyForE [(u1, b)] u0 o0 = ([], 27) := by
  have h := s.lt
  have hn : hasF [(u1, b)] u0 = false := by
    have : ¬ u1 < u0 := by omega
    have h3 : u1 ≠ u0 := by omega
    simp [hasF, lbF, this, fd, h3]
  unfold keyForE keyForT
  rw [if_pos (chk1' s hb), if_pos s.h0, if_neg (by rw [hn]; decide)]
theorem sh_wrap (s : Sh u0 u1 o0 o1) (hk : keyE k0 = 0) : wrapT u0 o0 k0 = (wrapL u0 o0 k0, 0) := by
  unfold wrapT
  rw [if_pos s.h0, if_pos hk]
end

theorem z17 (w : World) (u : Int) (own key : List UInt8) {T : List UInt8 × Int}  (he : wrapT u own key = T) : Calls Try.prog 17 #[.agg #[.int .i64 u, .string (bs own)], .string (bs key)] w fun en w' => en = .returned (pairV T) ∧ Below w.heap.size w w' := by
  subst he
  exact c17 w u own key
theorem z52 (w : World) (a : Option Addr) (cap : Nat) (fs : Fds) (u : Int) (own : List UInt8) (u2 : Int) (own2 : List UInt8) {T : Fds × Int} (hs : Fl w a fs) (hm : fs.length ≤ 1000) (he : addT fs u own u2 own2 = T) : Calls Try.prog 52 #[.slice a fs.length cap, .agg #[.int .i64 u, .string (bs own)], .agg #[.int .i64 u2, .string (bs own2)]] w fun en w' => ∃ g : Option Addr × Nat, en = .returned (.tuple #[.slice g.1 T.1.length g.2, .int .i64 T.2]) ∧ True ∧ HS w [] [.own (.slice g.1 T.1.length g.2) 96 2 T.1.length (flatF T.1)] w' := by
  subst he
  exact c52 w a cap fs u own u2 own2 hs hm
theorem z48 (w : World) (a : Option Addr) (cap : Nat) (fs : Fds) {T : List UInt8 × Int} (hs : Fl w a fs) (hm : fs.length ≤ 1000) (he : bytesT fs = T) : Calls Try.prog 48 #[.slice a fs.length cap] w fun en w' => en = .returned (pairV T) ∧ Below w.heap.size w w' := by
  subst he
  exact c48 w a cap fs hs hm
theorem z50 (w : World) (s : List UInt8) {T : Fds × Int} (hm : s.length ≤ 100000) (he : fofT s = T) : Calls Try.prog 50 #[.string (bs s)] w fun en w' => ∃ g : Option Addr × Nat, en = .returned (.tuple #[.slice g.1 T.1.length g.2, .int .i64 T.2]) ∧ True ∧ HS w [] [.own (.slice g.1 T.1.length g.2) 96 2 T.1.length (flatF T.1)] w' := by
  subst he
  exact c50 w s hm
theorem z28 (w : World) (a : Option Addr) (cap : Nat) (fs : Fds) (nc : Int) (st : List UInt8) (u : Int) (own : List UInt8) (at' : Int) (data : List UInt8) {T : FileD × Int} (hs : Fl w a fs) (hm : fs.length ≤ 1000) (hdl : data.length ≤ 100000) (he : writeT fs nc st u own at' data = T) : Calls Try.prog 28 #[.agg #[.slice a fs.length cap, .int .i64 nc, .string (bs st)], .agg #[.int .i64 u, .string (bs own)], .int .i64 at', .string (bs data)] w fun en w' => ∃ g : Option Addr × Nat, en = .returned (.tuple #[.agg #[.slice g.1 T.1.1.length g.2, .int .i64 T.1.2.1, .string (bs T.1.2.2)], .int .i64 T.2]) ∧ True ∧ HS w [] [.own (.slice g.1 T.1.1.length g.2) 96 2 T.1.1.length (flatF T.1.1)] w' := by
  subst he
  exact x28 w a cap fs nc st u own at' data hs hm hdl
theorem z38 (w : World) (a a2 : Option Addr) (cap cap2 n2 : Nat) (fs : Fds) (nc : Int) (st : List UInt8) (hd : Fds) (key : List UInt8) {T : FileD × Int} (hn : n2 = hd.length) (hs : Fl w a fs) (ht : Fl w a2 hd) (hm : fs.length ≤ 1000) (hm2 : hd.length ≤ 1000) (he : rkT fs nc st hd key = T) : Calls Try.prog 38 #[.agg #[.slice a fs.length cap, .int .i64 nc, .string (bs st)], .slice a2 n2 cap2, .string (bs key)] w fun en w' => ∃ g : Option Addr × Nat, en = .returned (.tuple #[.agg #[.slice g.1 T.1.1.length g.2, .int .i64 T.1.2.1, .string (bs T.1.2.2)], .int .i64 T.2]) ∧ True ∧ HS w [] [.own (.slice g.1 T.1.1.length g.2) 96 2 T.1.1.length (flatF T.1.1)] w' := by
  subst he
  exact x38 w a a2 cap cap2 n2 fs nc st hd key hn hs ht hm hm2
theorem z24 (w : World) (a : Option Addr) (cap : Nat) (fs : Fds) (nc : Int) (st : List UInt8) (u : Int) (own : List UInt8) (at' cnt : Int) {T : List UInt8 × Int} (hs : Fl w a fs) (hm : fs.length ≤ 1000) (he : readT fs nc st u own at' cnt = T) : Calls Try.prog 24 #[.agg #[.slice a fs.length cap, .int .i64 nc, .string (bs st)], .agg #[.int .i64 u, .string (bs own)], .int .i64 at', .int .i64 cnt] w fun en w' => en = .returned (pairV T) ∧ Below w.heap.size w w' := by
  subst he
  exact c24 w a cap fs nc st u own at' cnt hs hm
theorem z45 (w : World) (a : Option Addr) (cap : Nat) (fs : Fds) (u : Int) {T : Fds × Int} (hs : Fl w a fs) (hm : fs.length ≤ 1000) (hu : -9223372036854775808 ≤ u ∧ u ≤ 9223372036854775807) (he : remT fs u = T) : Calls Try.prog 45 #[.slice a fs.length cap, .int .i64 u] w fun en w' => ∃ g : Option Addr × Nat, en = .returned (.tuple #[.slice g.1 T.1.length g.2, .int .i64 T.2]) ∧ True ∧ HS w [] [.own (.slice g.1 T.1.length g.2) 96 2 T.1.length (flatF T.1)] w' := by
  subst he
  exact c45 w a cap fs u hs hm hu
theorem z43 (w : World) (a : Option Addr) (cap : Nat) (fs : Fds) (u : Int) (own : List UInt8) {T : List UInt8 × Int} (hs : Fl w a fs) (hm : fs.length ≤ 1000) (he : keyForE fs u own = T) : Calls Try.prog 43 #[.slice a fs.length cap, .agg #[.int .i64 u, .string (bs own)]] w fun en w' => en = .returned (pairV T) ∧ Below w.heap.size w w' := by
  subst he
  exact c43 w a cap fs u own hs hm

set_option maxRecDepth 20000 in
theorem d32 (w : World) (n : Int) (hn : -1000000 ≤ n ∧ n ≤ 200000) : Calls Try.prog 32 #[.int .i64 n] w fun en w' => en = .returned (.string (bs (List.replicate n.toNat 0))) ∧ Below w.heap.size w w' := by
  refine enter (args := [_]) Try.func32 Try.ntmps32 rfl rfl (HS.refl w []) ?_
  refine s_seq ?_
  refine s_region ?_
  refine o_p (p_pure rfl) rfl ?_
  refine o_nil ?_
  refine s_seq ?_
  refine s_region ?_
  refine o_p (p_pure rfl) rfl ?_
  refine o_p (p_min2 rfl rfl rfl ) rfl ?_
  refine o_slot (show _ = Value.int .i64 n from by congr 1; split <;> omega) ?_
  refine o_p (p_max2 rfl rfl rfl ) rfl ?_
  refine o_slot (show _ = Value.int .i64 (n.toNat : Int) from by congr 1; split <;> omega) ?_
  refine o_h (h_make (n := n.toNat) rfl rfl rfl sl_113 zr_5 (by omega) (by omega)) rfl (fun b1 _ => ?_)
  first | refine o_q (q_string_own rfl rfl Try.underlying113 Try.underlying9 Try.underlying5 (by repeat (first | exact .here | apply Pick.there)) (by rw [Nat.mul_one, zrow_one]; exact zeros_u8 _)) rfl ?_ | refine o_q (q_string_blk rfl rfl Try.underlying113 Try.underlying9 Try.underlying5 (by repeat (first | exact .here | apply Pick.there)) (by simp [zrow_length]) (by rw [Nat.mul_one, zrow_one]; exact zeros_u8 _)) rfl ?_
  refine o_p (p_pure rfl) rfl ?_
  refine o_nil ?_
  exact s_retv (rs := [.tmp 2]) rfl (.tmp rfl (.nil)) (fun w' h' => ⟨by rw [Nat.mul_one, zrow_one, zeros_map]; rfl, h'.below⟩)

set_option maxRecDepth 20000 in
set_option maxHeartbeats 2000000 in
theorem c11 (w : World) (u0 u1 : Int) (o0 o1 k0 k1 : List UInt8) (at' cnt : Int) (data : List UInt8) (hdm : data.length ≤ 9223372036854775807) : Calls Try.prog 11 #[.agg #[.int .i64 u0, .string (bs o0), .int .i64 u1, .string (bs o1)], .agg #[.string (bs k0), .string (bs k1)], .agg #[.int .i64 at', .int .i64 cnt, .string (bs data)]] w fun en w' => en = .returned (.bool true) ∧ Below w.heap.size w w' := by
  refine enter (args := [_, _, _]) Try.func11 Try.ntmps11 rfl rfl (HS.refl w []) ?_
  refine s_seq ?_
  refine s_region ?_
  refine o_h (h_box rfl rfl) rfl (fun b1 _ => ?_)
  refine o_h (h_box rfl rfl) rfl (fun b2 _ => ?_)
  refine o_h (h_box rfl rfl) rfl (fun b3 _ => ?_)
  refine o_p (p_pure rfl) rfl ?_
  refine o_nil ?_
  refine s_seq ?_
  refine s_seq ?_
  refine s_region ?_
  refine o_q (q_call rfl fn_12 rfl (fun w1 h1 => c12 w1)) rfl ?_
  refine o_p (p_pure rfl) rfl ?_
  refine o_nil ?_
  refine s_cond rfl (fun h4 => ?_) (fun h4 => ?_)
  · try simp only [decide_eq_true_eq, decide_eq_false_iff_not, Bool.not_eq_true', Bool.not_eq_false', Bool.and_eq_true, Bool.or_eq_true, Bool.and_eq_false_iff, Bool.or_eq_false_iff, Bool.not_true, Bool.not_false] at h4
    exfalso; first | omega | (simp at h4; done) | (simp_all; done)
  · try simp only [decide_eq_true_eq, decide_eq_false_iff_not, Bool.not_eq_true', Bool.not_eq_false', Bool.and_eq_true, Bool.or_eq_true, Bool.and_eq_false_iff, Bool.or_eq_false_iff, Bool.not_true, Bool.not_false] at h4
    refine s_skip ?_
    refine s_seq ?_
    refine s_seq ?_
    refine s_region ?_
    refine o_p (p_indexAddr_arr rfl rfl rfl ar_93 0 rfl (by omega)) rfl ?_
    refine o_q (q_loadn rfl rfl sz_31 (by repeat (first | exact .here | apply Pick.there)) rfl) rfl ?_
    refine o_q (q_call rfl fn_18 rfl (fun w1 h1 => c18 w1 _ _)) rfl ?_
    refine o_p (p_pure rfl) rfl ?_
    refine o_p (p_pure rfl) rfl ?_
    refine o_or 5 30 35 _ _ rfl
      (by
        intro hg5
        have hs6 := hg5; try simp only [decide_eq_true_eq, decide_eq_false_iff_not, Bool.not_eq_true', Bool.not_eq_false', Bool.and_eq_true, Bool.or_eq_true, Bool.and_eq_false_iff, Bool.or_eq_false_iff, Bool.not_true, Bool.not_false] at hs6
        refine o_on 30 _ rfl rfl hg5 ?_
        refine o_p (p_indexAddr_arr rfl rfl rfl ar_93 1 rfl (by omega)) rfl ?_
        refine o_on 30 _ rfl rfl hg5 ?_
        refine o_q (q_loadn rfl rfl sz_31 (by repeat (first | exact .here | apply Pick.there)) rfl) rfl ?_
        refine o_on 30 _ rfl rfl hg5 ?_
        refine o_q (q_call rfl fn_18 rfl (fun w1 h1 => c18 w1 _ _)) rfl ?_
        refine o_on 30 _ rfl rfl hg5 ?_
        refine o_p (p_pure rfl) rfl ?_
        refine o_p (p_pickf rfl rfl hg5 rfl) rfl ?_
        refine o_nil ?_
        exact s_joinN 5 35 _ rfl rfl rfl (fun w h => by first | exact h | exact h.ent (by repeat (first | exact .nil | refine .cons (by repeat (first | exact .here | apply Pick.there)) ?_))))
      (by
        intro hg7
        have hs8 := hg7; try simp only [decide_eq_true_eq, decide_eq_false_iff_not, Bool.not_eq_true', Bool.not_eq_false', Bool.and_eq_true, Bool.or_eq_true, Bool.and_eq_false_iff, Bool.or_eq_false_iff, Bool.not_true, Bool.not_false] at hs8
        refine o_off 30 _ rfl rfl hg7 rfl ?_
        refine o_off 30 _ rfl rfl hg7 rfl ?_
        refine o_off 30 _ rfl rfl hg7 rfl ?_
        refine o_off 30 _ rfl rfl hg7 rfl ?_
        refine o_p (p_pickt rfl rfl hg7 rfl) rfl ?_
        refine o_nil ?_
        exact s_joinN 5 35 _ rfl rfl rfl (fun w h => by first | exact h | exact h.ent (by repeat (first | exact .nil | refine .cons (by repeat (first | exact .here | apply Pick.there)) ?_)))) ?_
    refine o_p (p_pure rfl) rfl ?_
    refine o_or 8 36 44 _ _ rfl
      (by
        intro hg9
        have hs10 := hg9; try simp only [decide_eq_true_eq, decide_eq_false_iff_not, Bool.not_eq_true', Bool.not_eq_false', Bool.and_eq_true, Bool.or_eq_true, Bool.and_eq_false_iff, Bool.or_eq_false_iff, Bool.not_true, Bool.not_false] at hs10
        refine o_on 36 _ rfl rfl hg9 ?_
        refine o_p (p_indexAddr_arr rfl rfl rfl ar_93 0 rfl (by omega)) rfl ?_
        refine o_on 36 _ rfl rfl hg9 ?_
        refine o_p (p_fieldAddr rfl rfl fd_31_0 sz_3 rfl) rfl ?_
        refine o_on 36 _ rfl rfl hg9 ?_
        refine o_q (q_load rfl rfl sz_3 (by repeat (first | exact .here | apply Pick.there)) rfl) rfl ?_
        refine o_on 36 _ rfl rfl hg9 ?_
        refine o_p (p_indexAddr_arr rfl rfl rfl ar_93 1 rfl (by omega)) rfl ?_
        refine o_on 36 _ rfl rfl hg9 ?_
        refine o_p (p_fieldAddr rfl rfl fd_31_0 sz_3 rfl) rfl ?_
        refine o_on 36 _ rfl rfl hg9 ?_
        refine o_q (q_load rfl rfl sz_3 (by repeat (first | exact .here | apply Pick.there)) rfl) rfl ?_
        refine o_on 36 _ rfl rfl hg9 ?_
        refine o_p (p_pure rfl) rfl ?_
        refine o_p (p_pickf rfl rfl hg9 rfl) rfl ?_
        refine o_nil ?_
        exact s_joinN 8 44 _ rfl rfl rfl (fun w h => by first | exact h | exact h.ent (by repeat (first | exact .nil | refine .cons (by repeat (first | exact .here | apply Pick.there)) ?_))))
      (by
        intro hg11
        have hs12 := hg11; try simp only [decide_eq_true_eq, decide_eq_false_iff_not, Bool.not_eq_true', Bool.not_eq_false', Bool.and_eq_true, Bool.or_eq_true, Bool.and_eq_false_iff, Bool.or_eq_false_iff, Bool.not_true, Bool.not_false] at hs12
        refine o_off 36 _ rfl rfl hg11 rfl ?_
        refine o_off 36 _ rfl rfl hg11 rfl ?_
        refine o_off 36 _ rfl rfl hg11 rfl ?_
        refine o_off 36 _ rfl rfl hg11 rfl ?_
        refine o_off 36 _ rfl rfl hg11 rfl ?_
        refine o_off 36 _ rfl rfl hg11 rfl ?_
        refine o_off 36 _ rfl rfl hg11 rfl ?_
        refine o_p (p_pickt rfl rfl hg11 rfl) rfl ?_
        refine o_nil ?_
        exact s_joinN 8 44 _ rfl rfl rfl (fun w h => by first | exact h | exact h.ent (by repeat (first | exact .nil | refine .cons (by repeat (first | exact .here | apply Pick.there)) ?_)))) ?_
    refine o_p (p_pure rfl) rfl ?_
    refine o_or 5 45 50 _ _ rfl
      (by
        intro hg13
        have hs14 := hg13; try simp only [decide_eq_true_eq, decide_eq_false_iff_not, Bool.not_eq_true', Bool.not_eq_false', Bool.and_eq_true, Bool.or_eq_true, Bool.and_eq_false_iff, Bool.or_eq_false_iff, Bool.not_true, Bool.not_false] at hs14
        refine o_on 45 _ rfl rfl hg13 ?_
        refine o_p (p_indexAddr_arr rfl rfl rfl ar_94 0 rfl (by omega)) rfl ?_
        refine o_on 45 _ rfl rfl hg13 ?_
        refine o_q (q_load rfl rfl sz_9 (by repeat (first | exact .here | apply Pick.there)) rfl) rfl ?_
        refine o_on 45 _ rfl rfl hg13 ?_
        refine o_q (q_call rfl fn_19 rfl (fun w1 h1 => c19 w1 _)) rfl ?_
        refine o_on 45 _ rfl rfl hg13 ?_
        refine o_p (p_pure rfl) rfl ?_
        refine o_p (p_pickf rfl rfl hg13 rfl) rfl ?_
        refine o_nil ?_
        exact s_joinN 5 50 _ rfl rfl rfl (fun w h => by first | exact h | exact h.ent (by repeat (first | exact .nil | refine .cons (by repeat (first | exact .here | apply Pick.there)) ?_))))
      (by
        intro hg15
        have hs16 := hg15; try simp only [decide_eq_true_eq, decide_eq_false_iff_not, Bool.not_eq_true', Bool.not_eq_false', Bool.and_eq_true, Bool.or_eq_true, Bool.and_eq_false_iff, Bool.or_eq_false_iff, Bool.not_true, Bool.not_false] at hs16
        refine o_off 45 _ rfl rfl hg15 rfl ?_
        refine o_off 45 _ rfl rfl hg15 rfl ?_
        refine o_off 45 _ rfl rfl hg15 rfl ?_
        refine o_off 45 _ rfl rfl hg15 rfl ?_
        refine o_p (p_pickt rfl rfl hg15 rfl) rfl ?_
        refine o_nil ?_
        exact s_joinN 5 50 _ rfl rfl rfl (fun w h => by first | exact h | exact h.ent (by repeat (first | exact .nil | refine .cons (by repeat (first | exact .here | apply Pick.there)) ?_)))) ?_
    refine o_p (p_pure rfl) rfl ?_
    refine o_or 5 51 56 _ _ rfl
      (by
        intro hg17
        have hs18 := hg17; try simp only [decide_eq_true_eq, decide_eq_false_iff_not, Bool.not_eq_true', Bool.not_eq_false', Bool.and_eq_true, Bool.or_eq_true, Bool.and_eq_false_iff, Bool.or_eq_false_iff, Bool.not_true, Bool.not_false] at hs18
        refine o_on 51 _ rfl rfl hg17 ?_
        refine o_p (p_indexAddr_arr rfl rfl rfl ar_94 1 rfl (by omega)) rfl ?_
        refine o_on 51 _ rfl rfl hg17 ?_
        refine o_q (q_load rfl rfl sz_9 (by repeat (first | exact .here | apply Pick.there)) rfl) rfl ?_
        refine o_on 51 _ rfl rfl hg17 ?_
        refine o_q (q_call rfl fn_19 rfl (fun w1 h1 => c19 w1 _)) rfl ?_
        refine o_on 51 _ rfl rfl hg17 ?_
        refine o_p (p_pure rfl) rfl ?_
        refine o_p (p_pickf rfl rfl hg17 rfl) rfl ?_
        refine o_nil ?_
        exact s_joinN 5 56 _ rfl rfl rfl (fun w h => by first | exact h | exact h.ent (by repeat (first | exact .nil | refine .cons (by repeat (first | exact .here | apply Pick.there)) ?_))))
      (by
        intro hg19
        have hs20 := hg19; try simp only [decide_eq_true_eq, decide_eq_false_iff_not, Bool.not_eq_true', Bool.not_eq_false', Bool.and_eq_true, Bool.or_eq_true, Bool.and_eq_false_iff, Bool.or_eq_false_iff, Bool.not_true, Bool.not_false] at hs20
        refine o_off 51 _ rfl rfl hg19 rfl ?_
        refine o_off 51 _ rfl rfl hg19 rfl ?_
        refine o_off 51 _ rfl rfl hg19 rfl ?_
        refine o_off 51 _ rfl rfl hg19 rfl ?_
        refine o_p (p_pickt rfl rfl hg19 rfl) rfl ?_
        refine o_nil ?_
        exact s_joinN 5 56 _ rfl rfl rfl (fun w h => by first | exact h | exact h.ent (by repeat (first | exact .nil | refine .cons (by repeat (first | exact .here | apply Pick.there)) ?_)))) ?_
    refine o_p (p_pure rfl) rfl ?_
    refine o_or 6 57 63 _ _ rfl
      (by
        intro hg21
        have hs22 := hg21; try simp only [decide_eq_true_eq, decide_eq_false_iff_not, Bool.not_eq_true', Bool.not_eq_false', Bool.and_eq_true, Bool.or_eq_true, Bool.and_eq_false_iff, Bool.or_eq_false_iff, Bool.not_true, Bool.not_false] at hs22
        refine o_on 57 _ rfl rfl hg21 ?_
        refine o_p (p_fieldAddr rfl rfl fd_45_2 sz_9 rfl) rfl ?_
        refine o_on 57 _ rfl rfl hg21 ?_
        refine o_q (q_load rfl rfl sz_9 (by repeat (first | exact .here | apply Pick.there)) rfl) rfl ?_
        refine o_on 57 _ rfl rfl hg21 ?_
        refine o_h (h_buildSlice (cs := [_]) rfl rfl sl_104 zr_9 rfl rfl rfl) rfl (fun b23 _ => ?_)
        refine o_on 57 _ rfl rfl hg21 ?_
        refine o_q (q_call rfl fn_16 rfl (fun w1 h1 => x16 w1 _ 1 _ [data] rfl (h1.vl_blk (by repeat (first | exact .here | apply Pick.there))) (by decide))) rfl ?_
        refine o_on 57 _ rfl rfl hg21 ?_
        refine o_p (p_pure rfl) rfl ?_
        refine o_p (p_pickf rfl rfl hg21 rfl) rfl ?_
        refine o_nil ?_
        exact s_joinN 6 63 _ rfl rfl rfl (fun w h => by first | exact h | exact h.ent (by repeat (first | exact .nil | refine .cons (by repeat (first | exact .here | apply Pick.there)) ?_))))
      (by
        intro hg24
        have hs25 := hg24; try simp only [decide_eq_true_eq, decide_eq_false_iff_not, Bool.not_eq_true', Bool.not_eq_false', Bool.and_eq_true, Bool.or_eq_true, Bool.and_eq_false_iff, Bool.or_eq_false_iff, Bool.not_true, Bool.not_false] at hs25
        refine o_off 57 _ rfl rfl hg24 rfl ?_
        refine o_off 57 _ rfl rfl hg24 rfl ?_
        refine o_off 57 _ rfl rfl hg24 rfl ?_
        refine o_off 57 _ rfl rfl hg24 rfl ?_
        refine o_off 57 _ rfl rfl hg24 rfl ?_
        refine o_p (p_pickt rfl rfl hg24 rfl) rfl ?_
        refine o_nil ?_
        exact s_joinN 6 63 _ rfl rfl rfl (fun w h => by first | exact h | exact h.ent (by repeat (first | exact .nil | refine .cons (by repeat (first | exact .here | apply Pick.there)) ?_)))) ?_
    refine o_p (p_pure rfl) rfl ?_
    refine o_or 5 64 69 _ _ rfl
      (by
        intro hg26
        have hs27 := hg26; try simp only [decide_eq_true_eq, decide_eq_false_iff_not, Bool.not_eq_true', Bool.not_eq_false', Bool.and_eq_true, Bool.or_eq_true, Bool.and_eq_false_iff, Bool.or_eq_false_iff, Bool.not_true, Bool.not_false] at hs27
        refine o_on 64 _ rfl rfl hg26 ?_
        refine o_p (p_fieldAddr rfl rfl fd_45_0 sz_3 rfl) rfl ?_
        refine o_on 64 _ rfl rfl hg26 ?_
        refine o_q (q_load rfl rfl sz_3 (by repeat (first | exact .here | apply Pick.there)) rfl) rfl ?_
        refine o_on 64 _ rfl rfl hg26 ?_
        refine o_q (q_call rfl fn_27 rfl (fun w1 h1 => c27 w1 _ _ _)) rfl ?_
        refine o_on 64 _ rfl rfl hg26 ?_
        refine o_p (p_pure rfl) rfl ?_
        refine o_p (p_pickf rfl rfl hg26 rfl) rfl ?_
        refine o_nil ?_
        exact s_joinN 5 69 _ rfl rfl rfl (fun w h => by first | exact h | exact h.ent (by repeat (first | exact .nil | refine .cons (by repeat (first | exact .here | apply Pick.there)) ?_))))
      (by
        intro hg28
        have hs29 := hg28; try simp only [decide_eq_true_eq, decide_eq_false_iff_not, Bool.not_eq_true', Bool.not_eq_false', Bool.and_eq_true, Bool.or_eq_true, Bool.and_eq_false_iff, Bool.or_eq_false_iff, Bool.not_true, Bool.not_false] at hs29
        refine o_off 64 _ rfl rfl hg28 rfl ?_
        refine o_off 64 _ rfl rfl hg28 rfl ?_
        refine o_off 64 _ rfl rfl hg28 rfl ?_
        refine o_off 64 _ rfl rfl hg28 rfl ?_
        refine o_p (p_pickt rfl rfl hg28 rfl) rfl ?_
        refine o_nil ?_
        exact s_joinN 5 69 _ rfl rfl rfl (fun w h => by first | exact h | exact h.ent (by repeat (first | exact .nil | refine .cons (by repeat (first | exact .here | apply Pick.there)) ?_)))) ?_
    refine o_p (p_pure rfl) rfl ?_
    refine o_or 5 70 75 _ _ rfl
      (by
        intro hg30
        have hs31 := hg30; try simp only [decide_eq_true_eq, decide_eq_false_iff_not, Bool.not_eq_true', Bool.not_eq_false', Bool.and_eq_true, Bool.or_eq_true, Bool.and_eq_false_iff, Bool.or_eq_false_iff, Bool.not_true, Bool.not_false] at hs31
        refine o_on 70 _ rfl rfl hg30 ?_
        refine o_p (p_fieldAddr rfl rfl fd_45_1 sz_3 rfl) rfl ?_
        refine o_on 70 _ rfl rfl hg30 ?_
        refine o_q (q_load rfl rfl sz_3 (by repeat (first | exact .here | apply Pick.there)) rfl) rfl ?_
        refine o_on 70 _ rfl rfl hg30 ?_
        refine o_q (q_call rfl fn_14 rfl (fun w1 h1 => c14 w1 _)) rfl ?_
        refine o_on 70 _ rfl rfl hg30 ?_
        refine o_p (p_pure rfl) rfl ?_
        refine o_p (p_pickf rfl rfl hg30 rfl) rfl ?_
        refine o_nil ?_
        exact s_joinN 5 75 _ rfl rfl rfl (fun w h => by first | exact h | exact h.ent (by repeat (first | exact .nil | refine .cons (by repeat (first | exact .here | apply Pick.there)) ?_))))
      (by
        intro hg32
        have hs33 := hg32; try simp only [decide_eq_true_eq, decide_eq_false_iff_not, Bool.not_eq_true', Bool.not_eq_false', Bool.and_eq_true, Bool.or_eq_true, Bool.and_eq_false_iff, Bool.or_eq_false_iff, Bool.not_true, Bool.not_false] at hs33
        refine o_off 70 _ rfl rfl hg32 rfl ?_
        refine o_off 70 _ rfl rfl hg32 rfl ?_
        refine o_off 70 _ rfl rfl hg32 rfl ?_
        refine o_off 70 _ rfl rfl hg32 rfl ?_
        refine o_p (p_pickt rfl rfl hg32 rfl) rfl ?_
        refine o_nil ?_
        exact s_joinN 5 75 _ rfl rfl rfl (fun w h => by first | exact h | exact h.ent (by repeat (first | exact .nil | refine .cons (by repeat (first | exact .here | apply Pick.there)) ?_)))) ?_
    refine o_nil ?_
    refine s_cond rfl (fun h34 => ?_) (fun h34 => ?_)
    · try simp only [decide_eq_true_eq, decide_eq_false_iff_not, Bool.not_eq_true', Bool.not_eq_false', Bool.and_eq_true, Bool.or_eq_true, Bool.and_eq_false_iff, Bool.or_eq_false_iff, Bool.not_true, Bool.not_false] at h34
      refine s_seq ?_
      refine s_weaken (L' := [(3, _), (4, _), (5, _), (6, _)]) (by repeat (first | exact sl_n | refine sl_c rfl ?_)) (fun _ h => h) ?_
      refine s_region ?_
      refine o_p (p_pure rfl) rfl ?_
      refine o_nil ?_
      exact s_retv (rs := [.tmp 6]) rfl (.tmp rfl (.nil)) (fun w' h' => ⟨by rfl, h'.below⟩)
    · try simp only [decide_eq_true_eq, decide_eq_false_iff_not, Bool.not_eq_true', Bool.not_eq_false', Bool.and_eq_true, Bool.or_eq_true, Bool.and_eq_false_iff, Bool.or_eq_false_iff, Bool.not_true, Bool.not_false] at h34
      have hq := h34
      have hh : holdE u0 o0 = 0 ∧ holdE u1 o1 = 0 ∧ u0 < u1 ∧ keyE k0 = 0 ∧ keyE k1 = 0 ∧ data.length ≤ 400 ∧ 0 ≤ at' ∧ at' ≤ 500 ∧ 0 ≤ cnt ∧ cnt ≤ 65535 := by simp [fewB] at hq; omega
      obtain ⟨a0, a1, a2, q0, q1, hd, ht0, ht1, hn0, hn1⟩ := hh
      have s : Sh u0 u1 o0 o1 := ⟨a0, a1, a2⟩
      have hw : isWd cnt := ⟨hn0, hn1⟩
      have l0 := keyE_ok q0
      have l1 := keyE_ok q1
      have lw0 := wrapL_len (u := u0) (own := o0) l0
      have lw1 := wrapL_len (u := u1) (own := o1) l0
      have v0 := wrapL_len (u := u0) (own := o0) l1
      have v1 := wrapL_len (u := u1) (own := o1) l1
      have hc2 := chk2 s lw0 lw1
      have hc3 := chk2 s v0 v1
      have hr := sh_r s
      have kk0 : keyForT [(u0, wrapL u0 o0 k0), (u1, wrapL u1 o1 k0)] u0 o0 = (k0, 0) := by rw [key20, unwrap_wrap l0]
      have kk1 : keyForT [(u0, wrapL u0 o0 k0), (u1, wrapL u1 o1 k0)] u1 o1 = (k0, 0) := by rw [key21 s, unwrap_wrap l0]
      have jk0 : keyForT [(u0, wrapL u0 o0 k1), (u1, wrapL u1 o1 k1)] u0 o0 = (k1, 0) := by rw [key20, unwrap_wrap l1]
      have jk1 : keyForT [(u0, wrapL u0 o0 k1), (u1, wrapL u1 o1 k1)] u1 o1 = (k1, 0) := by rw [key21 s, unwrap_wrap l1]
      have e1 : writeT [(u0, wrapL u0 o0 k0), (u1, wrapL u1 o1 k0)] cnt [] u0 o0 3 [102, 105, 114, 115, 116] = (([(u0, wrapL u0 o0 k0), (u1, wrapL u1 o1 k0)], cnt, (cryptL k0 (wd cnt) 0 [0, 0, 0, 102, 105, 114, 115, 116])), 0) := sh_write (P := []) hc2 hw (by simp) s.h0 kk0 (by omega) (by simp)
      have e2 : writeT [(u0, wrapL u0 o0 k0), (u1, wrapL u1 o1 k0)] cnt (cryptL k0 (wd cnt) 0 [0, 0, 0, 102, 105, 114, 115, 116]) u1 o1 at' data = (([(u0, wrapL u0 o0 k0), (u1, wrapL u1 o1 k0)], cnt, (cryptL k0 (wd cnt) 0 (if data = [] then [0, 0, 0, 102, 105, 114, 115, 116] else overT [0, 0, 0, 102, 105, 114, 115, 116] at'.toNat data))), 0) := sh_write (P := [0, 0, 0, 102, 105, 114, 115, 116]) hc2 hw (by simp) s.h1 kk1 (by omega) hd
      have hP2 : (if data = [] then [0, 0, 0, 102, 105, 114, 115, 116] else overT [0, 0, 0, 102, 105, 114, 115, 116] at'.toNat data).length ≤ 1000 := by split <;> first | (simp; done) | (have hov := over_len [0, 0, 0, 102, 105, 114, 115, 116] at'.toNat data; simp only [List.length_cons, List.length_nil] at hov; omega)
      refine s_skip ?_
      refine s_seq ?_
      refine s_weaken (L' := [(3, _), (4, _), (5, _), (6, _)]) (by repeat (first | exact sl_n | refine sl_c rfl ?_)) (fun _ h => h) ?_
      refine s_region ?_
      refine o_p (p_indexAddr_arr rfl rfl rfl ar_93 0 rfl (by omega)) rfl ?_
      refine o_q (q_loadn rfl rfl sz_31 (by repeat (first | exact .here | apply Pick.there)) rfl) rfl ?_
      refine o_p (p_indexAddr_arr rfl rfl rfl ar_94 0 rfl (by omega)) rfl ?_
      refine o_q (q_load rfl rfl sz_9 (by repeat (first | exact .here | apply Pick.there)) rfl) rfl ?_
      refine o_q (q_call rfl fn_17 rfl (fun w1 h1 => z17 w1 u0 o0 k0 (sh_wrap s q0))) rfl ?_
      refine o_p (p_pure rfl) rfl ?_
      refine o_p (p_pure rfl) rfl ?_
      refine o_p (p_pure rfl) rfl ?_
      refine o_p (p_pure rfl) rfl ?_
      refine o_p (p_pure rfl) rfl ?_
      refine o_nil ?_
      refine s_seq ?_
      refine s_region ?_
      refine o_p (p_indexAddr_arr rfl rfl rfl ar_93 0 rfl (by omega)) rfl ?_
      refine o_p (p_fieldAddr rfl rfl fd_31_0 sz_3 rfl) rfl ?_
      refine o_q (q_load rfl rfl sz_3 (by repeat (first | exact .here | apply Pick.there)) rfl) rfl ?_
      refine o_p (p_pure rfl) rfl ?_
      refine o_p (p_build (cs := [_, _]) rfl rfl pl_96 zr_96 rfl) rfl ?_
      refine o_h (h_buildSlice (cs := [_, _]) rfl rfl sl_41 zr_96 rfl rfl rfl) rfl (fun b35 _ => ?_)
      refine o_p (p_indexAddr_arr rfl rfl rfl ar_93 0 rfl (by omega)) rfl ?_
      refine o_q (q_loadn rfl rfl sz_31 (by repeat (first | exact .here | apply Pick.there)) rfl) rfl ?_
      refine o_p (p_indexAddr_arr rfl rfl rfl ar_93 1 rfl (by omega)) rfl ?_
      refine o_q (q_loadn rfl rfl sz_31 (by repeat (first | exact .here | apply Pick.there)) rfl) rfl ?_
      refine o_h (h_call rfl fn_52 rfl (fun w1 h1 => z52 w1 _ _ [(u0, wrapL u0 o0 k0)] u0 o0 u1 o1 (HS.fl_blk h1 (by repeat (first | exact .here | apply Pick.there))) (by simp) (sh_add s l0))) rfl (fun b36 _ => ?_)
      refine o_p (p_pure rfl) rfl ?_
      refine o_p (p_pure rfl) rfl ?_
      refine o_p (p_pure rfl) rfl ?_
      refine o_p (p_pure rfl) rfl ?_
      refine o_p (p_pure rfl) rfl ?_
      refine o_nil ?_
      refine s_seq ?_
      refine s_seq ?_
      refine s_weaken (L' := [(3, _), (4, _), (5, _), (6, _), (8, _), (9, _), (10, _)]) (by repeat (first | exact sl_n | refine sl_c rfl ?_)) (fun _ h => h) ?_
      refine s_region ?_
      refine o_p (p_pure rfl) rfl ?_
      refine o_p (p_pure rfl) rfl ?_
      refine o_p (p_pure rfl) rfl ?_
      refine o_or 3 100 103 _ _ rfl
        (by
          intro hg37
          have hs38 := hg37; try simp only [decide_eq_true_eq, decide_eq_false_iff_not, Bool.not_eq_true', Bool.not_eq_false', Bool.and_eq_true, Bool.or_eq_true, Bool.and_eq_false_iff, Bool.or_eq_false_iff, Bool.not_true, Bool.not_false] at hs38
          refine o_on 100 _ rfl rfl hg37 ?_
          refine o_p (p_pure rfl) rfl ?_
          refine o_on 100 _ rfl rfl hg37 ?_
          refine o_p (p_pure rfl) rfl ?_
          refine o_p (p_pickf rfl rfl hg37 rfl) rfl ?_
          refine o_nil ?_
          exact s_joinN 3 103 _ rfl rfl rfl (fun w h => by first | exact h | exact h.ent (by repeat (first | exact .nil | refine .cons (by repeat (first | exact .here | apply Pick.there)) ?_))))
        (by
          intro hg39
          have hs40 := hg39; try simp only [decide_eq_true_eq, decide_eq_false_iff_not, Bool.not_eq_true', Bool.not_eq_false', Bool.and_eq_true, Bool.or_eq_true, Bool.and_eq_false_iff, Bool.or_eq_false_iff, Bool.not_true, Bool.not_false] at hs40
          refine o_off 100 _ rfl rfl hg39 rfl ?_
          refine o_off 100 _ rfl rfl hg39 rfl ?_
          refine o_p (p_pickt rfl rfl hg39 rfl) rfl ?_
          refine o_nil ?_
          exact s_joinN 3 103 _ rfl rfl rfl (fun w h => by first | exact h | exact h.ent (by repeat (first | exact .nil | refine .cons (by repeat (first | exact .here | apply Pick.there)) ?_)))) ?_
      refine o_p (p_pure rfl) rfl ?_
      refine o_or 4 104 108 _ _ rfl
        (by
          intro hg41
          have hs42 := hg41; try simp only [decide_eq_true_eq, decide_eq_false_iff_not, Bool.not_eq_true', Bool.not_eq_false', Bool.and_eq_true, Bool.or_eq_true, Bool.and_eq_false_iff, Bool.or_eq_false_iff, Bool.not_true, Bool.not_false] at hs42
          refine o_on 104 _ rfl rfl hg41 ?_
          refine o_p (p_pure rfl) rfl ?_
          refine o_on 104 _ rfl rfl hg41 ?_
          first | refine o_p (p_len_slice rfl rfl Try.underlying41) rfl ?_ | refine o_q (q_len_own rfl rfl Try.underlying41 (by repeat (first | exact .here | apply Pick.there))) rfl ?_
          refine o_on 104 _ rfl rfl hg41 ?_
          refine o_p (p_pure rfl) rfl ?_
          refine o_p (p_pickf rfl rfl hg41 rfl) rfl ?_
          refine o_nil ?_
          exact s_joinN 4 108 _ rfl rfl rfl (fun w h => by first | exact h | exact h.ent (by repeat (first | exact .nil | refine .cons (by repeat (first | exact .here | apply Pick.there)) ?_))))
        (by
          intro hg43
          have hs44 := hg43; try simp only [decide_eq_true_eq, decide_eq_false_iff_not, Bool.not_eq_true', Bool.not_eq_false', Bool.and_eq_true, Bool.or_eq_true, Bool.and_eq_false_iff, Bool.or_eq_false_iff, Bool.not_true, Bool.not_false] at hs44
          refine o_off 104 _ rfl rfl hg43 rfl ?_
          refine o_off 104 _ rfl rfl hg43 rfl ?_
          refine o_off 104 _ rfl rfl hg43 rfl ?_
          refine o_p (p_pickt rfl rfl hg43 rfl) rfl ?_
          refine o_nil ?_
          exact s_joinN 4 108 _ rfl rfl rfl (fun w h => by first | exact h | exact h.ent (by repeat (first | exact .nil | refine .cons (by repeat (first | exact .here | apply Pick.there)) ?_)))) ?_
      refine o_nil ?_
      refine s_cond rfl (fun h45 => ?_) (fun h45 => ?_)
      · try simp only [decide_eq_true_eq, decide_eq_false_iff_not, Bool.not_eq_true', Bool.not_eq_false', Bool.and_eq_true, Bool.or_eq_true, Bool.and_eq_false_iff, Bool.or_eq_false_iff, Bool.not_true, Bool.not_false] at h45
        exfalso; first | omega | (simp at h45; done) | (simp_all; done)
      · try simp only [decide_eq_true_eq, decide_eq_false_iff_not, Bool.not_eq_true', Bool.not_eq_false', Bool.and_eq_true, Bool.or_eq_true, Bool.and_eq_false_iff, Bool.or_eq_false_iff, Bool.not_true, Bool.not_false] at h45
        refine s_skip ?_
        refine s_seq ?_
        refine s_region ?_
        refine o_p (p_pure rfl) rfl ?_
        refine o_h (h_call rfl fn_41 rfl (fun w1 h1 => c41 w1 _ _ [(u0, wrapL u0 o0 k0), (u1, wrapL u1 o1 k0)] (h1.fl (by repeat (first | exact .here | apply Pick.there)) rfl) (by simp))) rfl (fun b46 _ => ?_)
        refine o_q (q_call rfl fn_48 rfl (fun w1 h1 => z48 w1 _ _ [(u0, wrapL u0 o0 k0), (u1, wrapL u1 o1 k0)] (h1.fl (by repeat (first | exact .here | apply Pick.there)) rfl) (by simp) (T := (bytesF [(u0, wrapL u0 o0 k0), (u1, wrapL u1 o1 k0)] 2, 0)) (by unfold bytesT; rw [if_pos hc2]; rfl))) rfl ?_
        refine o_p (p_pure rfl) rfl ?_
        refine o_p (p_pure rfl) rfl ?_
        refine o_p (p_pure rfl) rfl ?_
        refine o_p (p_pure rfl) rfl ?_
        refine o_p (p_pure rfl) rfl ?_
        refine o_nil ?_
        refine s_seq ?_
        refine s_region ?_
        refine o_p (p_pure rfl) rfl ?_
        refine o_h (h_call rfl fn_50 rfl (fun w1 h1 => z50 w1 _ (by rw [bytesF_len (sh_ok s lw0 lw1) (by simp)]; omega) (sh_of s lw0 lw1))) rfl (fun b47 _ => ?_)
        refine o_p (p_pure rfl) rfl ?_
        refine o_p (p_pure rfl) rfl ?_
        refine o_p (p_pure rfl) rfl ?_
        refine o_p (p_pure rfl) rfl ?_
        refine o_p (p_pure rfl) rfl ?_
        refine o_nil ?_
        refine s_seq ?_
        refine s_seq ?_
        refine s_weaken (L' := [(3, _), (4, _), (5, _), (6, _), (8, _), (9, _), (10, _), (12, _), (13, _), (14, _)]) (by repeat (first | exact sl_n | refine sl_c rfl ?_)) (fun _ h => h) ?_
        refine s_region ?_
        refine o_p (p_pure rfl) rfl ?_
        refine o_p (p_pure rfl) rfl ?_
        refine o_p (p_pure rfl) rfl ?_
        refine o_or 3 122 125 _ _ rfl
          (by
            intro hg48
            have hs49 := hg48; try simp only [decide_eq_true_eq, decide_eq_false_iff_not, Bool.not_eq_true', Bool.not_eq_false', Bool.and_eq_true, Bool.or_eq_true, Bool.and_eq_false_iff, Bool.or_eq_false_iff, Bool.not_true, Bool.not_false] at hs49
            refine o_on 122 _ rfl rfl hg48 ?_
            refine o_p (p_pure rfl) rfl ?_
            refine o_on 122 _ rfl rfl hg48 ?_
            refine o_p (p_pure rfl) rfl ?_
            refine o_p (p_pickf rfl rfl hg48 rfl) rfl ?_
            refine o_nil ?_
            exact s_joinN 3 125 _ rfl rfl rfl (fun w h => by first | exact h | exact h.ent (by repeat (first | exact .nil | refine .cons (by repeat (first | exact .here | apply Pick.there)) ?_))))
          (by
            intro hg50
            have hs51 := hg50; try simp only [decide_eq_true_eq, decide_eq_false_iff_not, Bool.not_eq_true', Bool.not_eq_false', Bool.and_eq_true, Bool.or_eq_true, Bool.and_eq_false_iff, Bool.or_eq_false_iff, Bool.not_true, Bool.not_false] at hs51
            refine o_off 122 _ rfl rfl hg50 rfl ?_
            refine o_off 122 _ rfl rfl hg50 rfl ?_
            refine o_p (p_pickt rfl rfl hg50 rfl) rfl ?_
            refine o_nil ?_
            exact s_joinN 3 125 _ rfl rfl rfl (fun w h => by first | exact h | exact h.ent (by repeat (first | exact .nil | refine .cons (by repeat (first | exact .here | apply Pick.there)) ?_)))) ?_
        refine o_p (p_pure rfl) rfl ?_
        refine o_or 5 126 131 _ _ rfl
          (by
            intro hg52
            have hs53 := hg52; try simp only [decide_eq_true_eq, decide_eq_false_iff_not, Bool.not_eq_true', Bool.not_eq_false', Bool.and_eq_true, Bool.or_eq_true, Bool.and_eq_false_iff, Bool.or_eq_false_iff, Bool.not_true, Bool.not_false] at hs53
            refine o_on 126 _ rfl rfl hg52 ?_
            refine o_p (p_pure rfl) rfl ?_
            refine o_on 126 _ rfl rfl hg52 ?_
            refine o_p (p_pure rfl) rfl ?_
            refine o_on 126 _ rfl rfl hg52 ?_
            refine o_q (q_call rfl fn_47 rfl (fun w1 h1 => c47 w1 _ _ _ _ [(u0, wrapL u0 o0 k0), (u1, wrapL u1 o1 k0)] [(u0, wrapL u0 o0 k0), (u1, wrapL u1 o1 k0)] (h1.fl (by repeat (first | exact .here | apply Pick.there)) rfl) (h1.fl (by repeat (first | exact .here | apply Pick.there)) rfl) (by simp))) rfl ?_
            refine o_on 126 _ rfl rfl hg52 ?_
            refine o_p (p_pure rfl) rfl ?_
            refine o_p (p_pickf rfl rfl hg52 rfl) rfl ?_
            refine o_nil ?_
            exact s_joinN 5 131 _ rfl rfl rfl (fun w h => by first | exact h | exact h.ent (by repeat (first | exact .nil | refine .cons (by repeat (first | exact .here | apply Pick.there)) ?_))))
          (by
            intro hg54
            have hs55 := hg54; try simp only [decide_eq_true_eq, decide_eq_false_iff_not, Bool.not_eq_true', Bool.not_eq_false', Bool.and_eq_true, Bool.or_eq_true, Bool.and_eq_false_iff, Bool.or_eq_false_iff, Bool.not_true, Bool.not_false] at hs55
            refine o_off 126 _ rfl rfl hg54 rfl ?_
            refine o_off 126 _ rfl rfl hg54 rfl ?_
            refine o_off 126 _ rfl rfl hg54 rfl ?_
            refine o_off 126 _ rfl rfl hg54 rfl ?_
            refine o_p (p_pickt rfl rfl hg54 rfl) rfl ?_
            refine o_nil ?_
            exact s_joinN 5 131 _ rfl rfl rfl (fun w h => by first | exact h | exact h.ent (by repeat (first | exact .nil | refine .cons (by repeat (first | exact .here | apply Pick.there)) ?_)))) ?_
        refine o_nil ?_
        refine s_cond rfl (fun h56 => ?_) (fun h56 => ?_)
        · try simp only [decide_eq_true_eq, decide_eq_false_iff_not, Bool.not_eq_true', Bool.not_eq_false', Bool.and_eq_true, Bool.or_eq_true, Bool.and_eq_false_iff, Bool.or_eq_false_iff, Bool.not_true, Bool.not_false] at h56
          exfalso; first | omega | (simp at h56; done) | (simp_all; done)
        · try simp only [decide_eq_true_eq, decide_eq_false_iff_not, Bool.not_eq_true', Bool.not_eq_false', Bool.and_eq_true, Bool.or_eq_true, Bool.and_eq_false_iff, Bool.or_eq_false_iff, Bool.not_true, Bool.not_false] at h56
          refine s_skip ?_
          refine s_seq ?_
          refine s_region ?_
          refine o_p (p_pure rfl) rfl ?_
          refine o_p (p_fieldAddr rfl rfl fd_45_1 sz_3 rfl) rfl ?_
          refine o_q (q_load rfl rfl sz_3 (by repeat (first | exact .here | apply Pick.there)) rfl) rfl ?_
          refine o_p (p_build (cs := [_, _, _]) rfl rfl pl_43 zr_43 rfl) rfl ?_
          refine o_h (h_alloc rfl zr_43) rfl (fun b57 _ => ?_)
          refine o_h0 (h_store rfl rfl rfl sz_43 rfl (by repeat (first | exact .here | apply Put.there)) (by simp only [setMany_length, List.length_set, List.length_cons, List.length_nil, List.length_map]; omega) rfl) (fun _ _ => ?_)
          refine o_nil ?_
          refine s_seq ?_
          refine s_draw [8] mixed ?_
          refine d_q 0 [[]] rfl (q_loadn rfl rfl sz_43 (by repeat (first | exact .here | apply Pick.there)) rfl) (by kernel_rfl) (by kernel_rfl) (by kernel_rfl) rfl ?_
          refine d_p 2 rfl (p_indexAddr_arr rfl rfl rfl ar_93 0 rfl (by omega)) (by kernel_rfl) rfl rfl ?_
          refine d_q 3 [[]] rfl (q_loadn rfl rfl sz_31 (by repeat (first | exact .here | apply Pick.there)) rfl) (by kernel_rfl) (by kernel_rfl) (by kernel_rfl) rfl ?_
          refine d_h 1 rfl (h_call rfl fn_25 rfl (fun w1 h1 => c25 w1 _ _ [(u0, wrapL u0 o0 k0), (u1, wrapL u1 o1 k0)] _ _ (h1.fl (by repeat (first | exact .here | apply Pick.there)) rfl) (by simp))) (by kernel_rfl) (fun w h => h.ent (by repeat (first | exact .nil | refine .cons (by repeat (first | exact .here | apply Pick.there)) ?_))) rfl (fun b58 _ => ?_)
          refine d_base (fun w h => h.ent (by repeat (first | exact .nil | refine .cons (by repeat (first | exact .here | apply Pick.there)) ?_))) ?_
          refine d_h 4 rfl (h_call rfl fn_28 rfl (fun w1 h1 => z28 w1 _ _ [(u0, wrapL u0 o0 k0), (u1, wrapL u1 o1 k0)] cnt [] u0 o0 3 _ (h1.fl (by repeat (first | exact .here | apply Pick.there)) rfl) (by simp) (by simp) e1)) (by kernel_rfl) (fun w h => h.ent (by repeat (first | exact .nil | refine .cons (by repeat (first | exact .here | apply Pick.there)) ?_))) rfl (fun b59 _ => ?_)
          refine d_base (fun w h => h.ent (by repeat (first | exact .nil | refine .cons (by repeat (first | exact .here | apply Pick.there)) ?_))) ?_
          refine d_p 5 rfl (p_pure rfl) (by kernel_rfl) rfl rfl ?_
          refine d_p 6 rfl (p_pure rfl) (by kernel_rfl) rfl rfl ?_
          refine d_p 7 rfl (p_pure rfl) (by kernel_rfl) rfl rfl ?_
          refine d_h0 8 rfl (h_store rfl rfl rfl sz_43 rfl (by repeat (first | exact .here | apply Put.there)) (by simp only [setMany_length, List.length_set, List.length_cons, List.length_nil, List.length_map]; omega) rfl) (by kernel_rfl) (fun w h => h.ent (by repeat (first | exact .nil | refine .cons (by repeat (first | exact .here | apply Pick.there)) ?_))) (fun _ _ => ?_)
          refine d_turn [] (by kernel_rfl) ?_
          refine d_p 9 rfl (p_pure rfl) (by kernel_rfl) rfl rfl ?_
          refine d_nil (by kernel_rfl) (fun w h => h.ent (by repeat (first | exact .nil | refine .cons (by repeat (first | exact .here | apply Pick.there)) ?_))) ?_
          refine s_seq ?_
          refine s_weaken (L' := [(3, _), (4, _), (5, _), (6, _), (8, _), (10, _), (15, _)]) (by repeat (first | exact sl_n | refine sl_c rfl ?_)) (fun _ h => h) ?_
          refine s_draw [12] mixed ?_
          refine d_q 0 [[]] rfl (q_loadn rfl rfl sz_43 (by repeat (first | exact .here | apply Pick.there)) rfl) (by kernel_rfl) (by kernel_rfl) (by kernel_rfl) rfl ?_
          refine d_p 2 rfl (p_indexAddr_arr rfl rfl rfl ar_93 1 rfl (by omega)) (by kernel_rfl) rfl rfl ?_
          refine d_q 3 [[]] rfl (q_loadn rfl rfl sz_31 (by repeat (first | exact .here | apply Pick.there)) rfl) (by kernel_rfl) (by kernel_rfl) (by kernel_rfl) rfl ?_
          refine d_p 4 rfl (p_fieldAddr rfl rfl fd_45_0 sz_3 rfl) (by kernel_rfl) rfl rfl ?_
          refine d_q 5 [[]] rfl (q_load rfl rfl sz_3 (by repeat (first | exact .here | apply Pick.there)) rfl) (by kernel_rfl) (by kernel_rfl) (by kernel_rfl) rfl ?_
          refine d_p 6 rfl (p_fieldAddr rfl rfl fd_45_2 sz_9 rfl) (by kernel_rfl) rfl rfl ?_
          refine d_q 7 [[]] rfl (q_load rfl rfl sz_9 (by repeat (first | exact .here | apply Pick.there)) rfl) (by kernel_rfl) (by kernel_rfl) (by kernel_rfl) rfl ?_
          refine d_h 1 rfl (h_call rfl fn_25 rfl (fun w1 h1 => c25 w1 _ _ [(u0, wrapL u0 o0 k0), (u1, wrapL u1 o1 k0)] _ _ (h1.fl (by repeat (first | exact .here | apply Pick.there)) rfl) (by simp))) (by kernel_rfl) (fun w h => h.ent (by repeat (first | exact .nil | refine .cons (by repeat (first | exact .here | apply Pick.there)) ?_))) rfl (fun b60 _ => ?_)
          refine d_base (fun w h => h.ent (by repeat (first | exact .nil | refine .cons (by repeat (first | exact .here | apply Pick.there)) ?_))) ?_
          refine d_h 8 rfl (h_call rfl fn_28 rfl (fun w1 h1 => z28 w1 _ _ [(u0, wrapL u0 o0 k0), (u1, wrapL u1 o1 k0)] cnt _ u1 o1 at' data (h1.fl (by repeat (first | exact .here | apply Pick.there)) rfl) (by simp) (by omega) e2)) (by kernel_rfl) (fun w h => h.ent (by repeat (first | exact .nil | refine .cons (by repeat (first | exact .here | apply Pick.there)) ?_))) rfl (fun b61 _ => ?_)
          refine d_base (fun w h => h.ent (by repeat (first | exact .nil | refine .cons (by repeat (first | exact .here | apply Pick.there)) ?_))) ?_
          refine d_p 9 rfl (p_pure rfl) (by kernel_rfl) rfl rfl ?_
          refine d_p 10 rfl (p_pure rfl) (by kernel_rfl) rfl rfl ?_
          refine d_p 11 rfl (p_pure rfl) (by kernel_rfl) rfl rfl ?_
          refine d_h0 12 rfl (h_store rfl rfl rfl sz_43 rfl (by repeat (first | exact .here | apply Put.there)) (by simp only [setMany_length, List.length_set, List.length_cons, List.length_nil, List.length_map]; omega) rfl) (by kernel_rfl) (fun w h => h.ent (by repeat (first | exact .nil | refine .cons (by repeat (first | exact .here | apply Pick.there)) ?_))) (fun _ _ => ?_)
          refine d_turn [] (by kernel_rfl) ?_
          refine d_p 13 rfl (p_pure rfl) (by kernel_rfl) rfl rfl ?_
          refine d_nil (by kernel_rfl) (fun w h => h.ent (by repeat (first | exact .nil | refine .cons (by repeat (first | exact .here | apply Pick.there)) ?_))) ?_
          refine s_seq ?_
          refine s_seq ?_
          refine s_region ?_
          refine o_p (p_pure rfl) rfl ?_
          refine o_p (p_pure rfl) rfl ?_
          refine o_p (p_pure rfl) rfl ?_
          refine o_or 3 158 161 _ _ rfl
            (by
              intro hg62
              have hs63 := hg62; try simp only [decide_eq_true_eq, decide_eq_false_iff_not, Bool.not_eq_true', Bool.not_eq_false', Bool.and_eq_true, Bool.or_eq_true, Bool.and_eq_false_iff, Bool.or_eq_false_iff, Bool.not_true, Bool.not_false] at hs63
              refine o_on 158 _ rfl rfl hg62 ?_
              refine o_p (p_pure rfl) rfl ?_
              refine o_on 158 _ rfl rfl hg62 ?_
              refine o_p (p_pure rfl) rfl ?_
              refine o_p (p_pickf rfl rfl hg62 rfl) rfl ?_
              refine o_nil ?_
              exact s_joinN 3 161 _ rfl rfl rfl (fun w h => by first | exact h | exact h.ent (by repeat (first | exact .nil | refine .cons (by repeat (first | exact .here | apply Pick.there)) ?_))))
            (by
              intro hg64
              have hs65 := hg64; try simp only [decide_eq_true_eq, decide_eq_false_iff_not, Bool.not_eq_true', Bool.not_eq_false', Bool.and_eq_true, Bool.or_eq_true, Bool.and_eq_false_iff, Bool.or_eq_false_iff, Bool.not_true, Bool.not_false] at hs65
              refine o_off 158 _ rfl rfl hg64 rfl ?_
              refine o_off 158 _ rfl rfl hg64 rfl ?_
              refine o_p (p_pickt rfl rfl hg64 rfl) rfl ?_
              refine o_nil ?_
              exact s_joinN 3 161 _ rfl rfl rfl (fun w h => by first | exact h | exact h.ent (by repeat (first | exact .nil | refine .cons (by repeat (first | exact .here | apply Pick.there)) ?_)))) ?_
          refine o_nil ?_
          refine s_cond rfl (fun h66 => ?_) (fun h66 => ?_)
          · try simp only [decide_eq_true_eq, decide_eq_false_iff_not, Bool.not_eq_true', Bool.not_eq_false', Bool.and_eq_true, Bool.or_eq_true, Bool.and_eq_false_iff, Bool.or_eq_false_iff, Bool.not_true, Bool.not_false] at h66
            exfalso; first | omega | (simp at h66; done) | (simp_all; done)
          · try simp only [decide_eq_true_eq, decide_eq_false_iff_not, Bool.not_eq_true', Bool.not_eq_false', Bool.and_eq_true, Bool.or_eq_true, Bool.and_eq_false_iff, Bool.or_eq_false_iff, Bool.not_true, Bool.not_false] at h66
            refine s_skip ?_
            refine s_seq ?_
            refine s_region ?_
            refine o_p (p_pure rfl) rfl ?_
            refine o_nil ?_
            refine s_seq ?_
            refine s_seq ?_
            refine s_region ?_
            refine o_p (p_fieldAddr rfl rfl fd_45_2 sz_9 rfl) rfl ?_
            refine o_q (q_load rfl rfl sz_9 (by repeat (first | exact .here | apply Pick.there)) rfl) rfl ?_
            refine o_p (p_len_str rfl rfl Try.underlying9) rfl ?_
            refine o_p (p_pure rfl) rfl ?_
            refine o_nil ?_
            refine s_weaken (L' := [(3, _), (4, _), (5, _), (6, _), (8, _), (10, _), (15, _), (16, _), (165, _)]) (by repeat (first | exact sl_n | refine sl_c rfl ?_)) (fun _ h => h) ?_
            refine s_cutI (α := Unit) [16, 166, 167, 168, 169, 170, 171, 172, 173, 174, 175, 176, 177, 178, 179, 180, 181, 182, 183] (fun _ => [(16, .string (bs (if data = [] then [0, 0, 0, 102, 105, 114, 115, 116] else overT [0, 0, 0, 102, 105, 114, 115, 116] at'.toNat data)))]) (fun _ => HS w [] [.blk b57 43 3 [.slice b61.1 2 b61.2, .int .i64 cnt, .string (bs (cryptL k0 (wd cnt) 0 (if data = [] then [0, 0, 0, 102, 105, 114, 115, 116] else overT [0, 0, 0, 102, 105, 114, 115, 116] at'.toNat data)))], .own (.slice b61.1 2 b61.2) 96 2 2 (flatF [(u0, wrapL u0 o0 k0), (u1, wrapL u1 o1 k0)]), .blk b3 45 3 [.int .i64 at', .int .i64 cnt, .string (bs data)], .blk b2 94 2 [.string (bs k0), .string (bs k1)], .blk b1 93 4 [.int .i64 u0, .string (bs o0), .int .i64 u1, .string (bs o1)]]) (fun _ => True) ?_ ?_
            · skip
              refine s_cond rfl (fun h67 => ?_) (fun h67 => ?_)
              · try simp only [decide_eq_true_eq, decide_eq_false_iff_not, Bool.not_eq_true', Bool.not_eq_false', Bool.and_eq_true, Bool.or_eq_true, Bool.and_eq_false_iff, Bool.or_eq_false_iff, Bool.not_true, Bool.not_false] at h67
                refine s_seq ?_
                refine s_region ?_
                refine o_p (p_pure rfl) rfl ?_
                refine o_p (p_fieldAddr rfl rfl fd_45_0 sz_3 rfl) rfl ?_
                refine o_q (q_load rfl rfl sz_3 (by repeat (first | exact .here | apply Pick.there)) rfl) rfl ?_
                refine o_p (p_fieldAddr rfl rfl fd_45_2 sz_9 rfl) rfl ?_
                refine o_q (q_load rfl rfl sz_9 (by repeat (first | exact .here | apply Pick.there)) rfl) rfl ?_
                refine o_p (p_len_str rfl rfl Try.underlying9) rfl ?_
                refine o_p (p_pure rfl) rfl ?_
                try (refine o_slot (i64w (by omega) (by omega)) ?_)
                refine o_p (p_pure rfl) rfl ?_
                refine o_p (p_len_str rfl rfl Try.underlying9) rfl ?_
                refine o_slot (show _ = Value.int .i64 8 from rfl) ?_
                refine o_p (p_pure rfl) rfl ?_
                try (refine o_slot (i64w (by omega) (by omega)) ?_)
                refine o_q (q_call rfl fn_32 rfl (fun w1 h1 => d32 w1 _ (by omega))) rfl ?_
                refine o_p (p_str_add rfl rfl rfl (by (try simp only [List.length_append, List.length_cons, List.length_nil, List.length_replicate, List.length_take, List.length_drop]); omega)) rfl ?_
                refine o_slot (show _ = Value.string (bs (padR [0, 0, 0, 102, 105, 114, 115, 116] (at'.toNat + data.length))) from by congr 2; unfold padR; split <;> rename_i hpd <;> simp only [List.length_cons, List.length_nil] at hpd ⊢ <;> first | (congr 2; omega) | (rw [show (at' + (data.length : Int) - 8).toNat = 0 by omega]; simp)) ?_
                refine o_p (p_pure rfl) rfl ?_
                refine o_nil ?_
                refine s_region ?_
                refine o_p (p_pure rfl) rfl ?_
                refine o_p (p_fieldAddr rfl rfl fd_45_0 sz_3 rfl) rfl ?_
                refine o_q (q_load rfl rfl sz_3 (by repeat (first | exact .here | apply Pick.there)) rfl) rfl ?_
                refine o_p (p_fieldAddr rfl rfl fd_45_2 sz_9 rfl) rfl ?_
                refine o_q (q_load rfl rfl sz_9 (by repeat (first | exact .here | apply Pick.there)) rfl) rfl ?_
                refine o_q (q_call rfl fn_54 rfl (fun w1 h1 => by have h9 := c54 w1 (padR [0, 0, 0, 102, 105, 114, 115, 116] (at'.toNat + data.length)) at'.toNat data (by rw [padR_length]; omega) (by rw [padR_length]; simp only [List.length_cons, List.length_nil]; omega); rw [Int.toNat_of_nonneg ht0] at h9; exact h9)) rfl ?_
                refine o_slot (show _ = Value.string (bs (if data = [] then [0, 0, 0, 102, 105, 114, 115, 116] else overT [0, 0, 0, 102, 105, 114, 115, 116] at'.toNat data)) from by rw [patch_over, if_neg (by intro e; subst e; simp at h67)]) ?_
                refine o_p (p_pure rfl) rfl ?_
                refine o_nil ?_
                exact s_joinI () trivial (by repeat (first | exact sl_n | refine sl_c rfl ?_)) (fun w h => h.ent (by repeat (first | exact .nil | refine .cons (by repeat (first | exact .here | apply Pick.there)) ?_)))
              · try simp only [decide_eq_true_eq, decide_eq_false_iff_not, Bool.not_eq_true', Bool.not_eq_false', Bool.and_eq_true, Bool.or_eq_true, Bool.and_eq_false_iff, Bool.or_eq_false_iff, Bool.not_true, Bool.not_false] at h67
                refine s_skip ?_
                exact s_joinI () trivial (sl_c (congrArg (fun e => some (Value.string (bs e))) (by rw [if_pos (List.eq_nil_of_length_eq_zero (by omega))])) (by repeat (first | exact sl_n | refine sl_c rfl ?_))) (fun w h => h.ent (by repeat (first | exact .nil | refine .cons (by repeat (first | exact .here | apply Pick.there)) ?_)))
            · intro _ _
              refine s_seq ?_
              refine s_cutI (α := Nat × Option Addr × Nat) [8, 17, 184, 185, 186, 187, 188, 189, 190, 191, 192, 193, 194, 195, 196] (fun y => [(17, .pointer (some ⟨y.1, 0, none⟩)), (8, .int .i64 0)]) (fun y => HS w [] [.blk y.1 43 3 [.slice y.2.1 2 y.2.2, .int .i64 cnt, .string (bs (cryptL k1 (wd cnt) 0 (if data = [] then [0, 0, 0, 102, 105, 114, 115, 116] else overT [0, 0, 0, 102, 105, 114, 115, 116] at'.toNat data)))], .own (.slice y.2.1 2 y.2.2) 96 2 2 (flatF [(u0, wrapL u0 o0 k1), (u1, wrapL u1 o1 k1)]), .blk b57 43 3 [.slice b61.1 2 b61.2, .int .i64 cnt, .string (bs (cryptL k0 (wd cnt) 0 (if data = [] then [0, 0, 0, 102, 105, 114, 115, 116] else overT [0, 0, 0, 102, 105, 114, 115, 116] at'.toNat data)))], .own (.slice b61.1 2 b61.2) 96 2 2 (flatF [(u0, wrapL u0 o0 k0), (u1, wrapL u1 o1 k0)]), .blk b3 45 3 [.int .i64 at', .int .i64 cnt, .string (bs data)], .blk b2 94 2 [.string (bs k0), .string (bs k1)], .blk b1 93 4 [.int .i64 u0, .string (bs o0), .int .i64 u1, .string (bs o1)]]) (fun _ => True) ?_ ?_
              · skip
                refine s_draw [14] mixed ?_
                refine d_q 0 [[]] rfl (q_loadn rfl rfl sz_43 (by repeat (first | exact .here | apply Pick.there)) rfl) (by kernel_rfl) (by kernel_rfl) (by kernel_rfl) rfl ?_
                refine d_p 2 rfl (p_indexAddr_arr rfl rfl rfl ar_93 0 rfl (by omega)) (by kernel_rfl) rfl rfl ?_
                refine d_q 3 [[]] rfl (q_loadn rfl rfl sz_31 (by repeat (first | exact .here | apply Pick.there)) rfl) (by kernel_rfl) (by kernel_rfl) (by kernel_rfl) rfl ?_
                refine d_p 4 rfl (p_indexAddr_arr rfl rfl rfl ar_93 1 rfl (by omega)) (by kernel_rfl) rfl rfl ?_
                refine d_q 5 [[]] rfl (q_loadn rfl rfl sz_31 (by repeat (first | exact .here | apply Pick.there)) rfl) (by kernel_rfl) (by kernel_rfl) (by kernel_rfl) rfl ?_
                refine d_p 7 rfl (p_indexAddr_arr rfl rfl rfl ar_94 1 rfl (by omega)) (by kernel_rfl) rfl rfl ?_
                refine d_q 8 [[]] rfl (q_load rfl rfl sz_9 (by repeat (first | exact .here | apply Pick.there)) rfl) (by kernel_rfl) (by kernel_rfl) (by kernel_rfl) rfl ?_
                refine d_three 1 6 13 rfl rfl rfl  (h_call rfl fn_25 rfl (fun w1 h1 => c25 w1 _ _ [(u0, wrapL u0 o0 k0), (u1, wrapL u1 o1 k0)] _ _ (h1.fl (by repeat (first | exact .here | apply Pick.there)) rfl) (by simp))) (h_buildSlice (cs := [_, _, _, _]) rfl rfl sl_69 zr_31 rfl rfl rfl) (h_alloc rfl zr_43) (by kernel_rfl) (fun w h => h.ent (by repeat (first | exact .nil | refine .cons (by repeat (first | exact .here | apply Pick.there)) ?_))) rfl rfl rfl  (fun b68 _ => ?_) (fun b69 _ => ?_) (fun b70 _ => ?_)
                · skip
                  refine d_base (fun w h => h.ent (by repeat (first | exact .nil | refine .cons (by repeat (first | exact .here | apply Pick.there)) ?_))) ?_
                  refine d_two 6 13 rfl rfl  (h_buildSlice (cs := [_, _, _, _]) rfl rfl sl_69 zr_31 rfl rfl rfl) (h_alloc rfl zr_43) (by kernel_rfl) (fun w h => h.ent (by repeat (first | exact .nil | refine .cons (by repeat (first | exact .here | apply Pick.there)) ?_))) rfl rfl  (fun b71 _ => ?_) (fun b72 _ => ?_)
                  · skip
                    refine d_base (fun w h => h.ent (by repeat (first | exact .nil | refine .cons (by repeat (first | exact .here | apply Pick.there)) ?_))) ?_
                    refine d_two 9 13 rfl rfl  (h_call rfl fn_38 rfl (fun w1 h1 => z38 w1 _ _ _ _ 2 [(u0, wrapL u0 o0 k0), (u1, wrapL u1 o1 k0)] cnt _ [(u0, o0), (u1, o1)] k1 rfl (h1.fl (by repeat (first | exact .here | apply Pick.there)) rfl) (HS.fl_blk h1 (by repeat (first | exact .here | apply Pick.there))) (by simp) (by simp) (sh_rk s l0 q1 hw (P := (if data = [] then [0, 0, 0, 102, 105, 114, 115, 116] else overT [0, 0, 0, 102, 105, 114, 115, 116] at'.toNat data)) (by omega)))) (h_alloc rfl zr_43) (by kernel_rfl) (fun w h => h.ent (by repeat (first | exact .nil | refine .cons (by repeat (first | exact .here | apply Pick.there)) ?_))) rfl rfl  (fun b73 _ => ?_) (fun b74 _ => ?_)
                    · skip
                      refine d_base (fun w h => h.ent (by repeat (first | exact .nil | refine .cons (by repeat (first | exact .here | apply Pick.there)) ?_))) ?_
                      refine d_p 10 rfl (p_pure rfl) (by kernel_rfl) rfl rfl ?_
                      refine d_p 11 rfl (p_pure rfl) (by kernel_rfl) rfl rfl ?_
                      refine d_p 12 rfl (p_pure rfl) (by kernel_rfl) rfl rfl ?_
                      refine d_h 13 rfl (h_alloc rfl zr_43) (by kernel_rfl) (fun w h => h.ent (by repeat (first | exact .nil | refine .cons (by repeat (first | exact .here | apply Pick.there)) ?_))) rfl (fun b75 _ => ?_)
                      refine d_base (fun w h => h.ent (by repeat (first | exact .nil | refine .cons (by repeat (first | exact .here | apply Pick.there)) ?_))) ?_
                      refine d_h0 14 rfl (h_store rfl rfl rfl sz_43 rfl (by repeat (first | exact .here | apply Put.there)) (by simp only [setMany_length, List.length_set, List.length_cons, List.length_nil, List.length_map]; omega) rfl) (by kernel_rfl) (fun w h => h.ent (by repeat (first | exact .nil | refine .cons (by repeat (first | exact .here | apply Pick.there)) ?_))) (fun _ _ => ?_)
                      refine d_turn [] (by kernel_rfl) ?_
                      refine d_p 15 rfl (p_pure rfl) (by kernel_rfl) rfl rfl ?_
                      refine d_nil (by kernel_rfl) (fun w h => h.ent (by repeat (first | exact .nil | refine .cons (by repeat (first | exact .here | apply Pick.there)) ?_))) ?_
                      exact s_joinI (_, _, _) trivial (by repeat (first | exact sl_n | refine sl_c rfl ?_)) (fun w h => h.ent (by repeat (first | exact .nil | refine .cons (by repeat (first | exact .here | apply Pick.there)) ?_)))
                    · skip
                      refine d_base (fun w h => h.ent (by repeat (first | exact .nil | refine .cons (by repeat (first | exact .here | apply Pick.there)) ?_))) ?_
                      refine d_h 9 rfl (h_call rfl fn_38 rfl (fun w1 h1 => z38 w1 _ _ _ _ 2 [(u0, wrapL u0 o0 k0), (u1, wrapL u1 o1 k0)] cnt _ [(u0, o0), (u1, o1)] k1 rfl (h1.fl (by repeat (first | exact .here | apply Pick.there)) rfl) (HS.fl_blk h1 (by repeat (first | exact .here | apply Pick.there))) (by simp) (by simp) (sh_rk s l0 q1 hw (P := (if data = [] then [0, 0, 0, 102, 105, 114, 115, 116] else overT [0, 0, 0, 102, 105, 114, 115, 116] at'.toNat data)) (by omega)))) (by kernel_rfl) (fun w h => h.ent (by repeat (first | exact .nil | refine .cons (by repeat (first | exact .here | apply Pick.there)) ?_))) rfl (fun b76 _ => ?_)
                      refine d_base (fun w h => h.ent (by repeat (first | exact .nil | refine .cons (by repeat (first | exact .here | apply Pick.there)) ?_))) ?_
                      refine d_p 10 rfl (p_pure rfl) (by kernel_rfl) rfl rfl ?_
                      refine d_p 11 rfl (p_pure rfl) (by kernel_rfl) rfl rfl ?_
                      refine d_p 12 rfl (p_pure rfl) (by kernel_rfl) rfl rfl ?_
                      refine d_h0 14 rfl (h_store rfl rfl rfl sz_43 rfl (by repeat (first | exact .here | apply Put.there)) (by simp only [setMany_length, List.length_set, List.length_cons, List.length_nil, List.length_map]; omega) rfl) (by kernel_rfl) (fun w h => h.ent (by repeat (first | exact .nil | refine .cons (by repeat (first | exact .here | apply Pick.there)) ?_))) (fun _ _ => ?_)
                      refine d_turn [] (by kernel_rfl) ?_
                      refine d_p 15 rfl (p_pure rfl) (by kernel_rfl) rfl rfl ?_
                      refine d_nil (by kernel_rfl) (fun w h => h.ent (by repeat (first | exact .nil | refine .cons (by repeat (first | exact .here | apply Pick.there)) ?_))) ?_
                      exact s_joinI (_, _, _) trivial (by repeat (first | exact sl_n | refine sl_c rfl ?_)) (fun w h => h.ent (by repeat (first | exact .nil | refine .cons (by repeat (first | exact .here | apply Pick.there)) ?_)))
                  · skip
                    refine d_base (fun w h => h.ent (by repeat (first | exact .nil | refine .cons (by repeat (first | exact .here | apply Pick.there)) ?_))) ?_
                    refine d_h 6 rfl (h_buildSlice (cs := [_, _, _, _]) rfl rfl sl_69 zr_31 rfl rfl rfl) (by kernel_rfl) (fun w h => h.ent (by repeat (first | exact .nil | refine .cons (by repeat (first | exact .here | apply Pick.there)) ?_))) rfl (fun b77 _ => ?_)
                    refine d_base (fun w h => h.ent (by repeat (first | exact .nil | refine .cons (by repeat (first | exact .here | apply Pick.there)) ?_))) ?_
                    refine d_h 9 rfl (h_call rfl fn_38 rfl (fun w1 h1 => z38 w1 _ _ _ _ 2 [(u0, wrapL u0 o0 k0), (u1, wrapL u1 o1 k0)] cnt _ [(u0, o0), (u1, o1)] k1 rfl (h1.fl (by repeat (first | exact .here | apply Pick.there)) rfl) (HS.fl_blk h1 (by repeat (first | exact .here | apply Pick.there))) (by simp) (by simp) (sh_rk s l0 q1 hw (P := (if data = [] then [0, 0, 0, 102, 105, 114, 115, 116] else overT [0, 0, 0, 102, 105, 114, 115, 116] at'.toNat data)) (by omega)))) (by kernel_rfl) (fun w h => h.ent (by repeat (first | exact .nil | refine .cons (by repeat (first | exact .here | apply Pick.there)) ?_))) rfl (fun b78 _ => ?_)
                    refine d_base (fun w h => h.ent (by repeat (first | exact .nil | refine .cons (by repeat (first | exact .here | apply Pick.there)) ?_))) ?_
                    refine d_p 10 rfl (p_pure rfl) (by kernel_rfl) rfl rfl ?_
                    refine d_p 11 rfl (p_pure rfl) (by kernel_rfl) rfl rfl ?_
                    refine d_p 12 rfl (p_pure rfl) (by kernel_rfl) rfl rfl ?_
                    refine d_h0 14 rfl (h_store rfl rfl rfl sz_43 rfl (by repeat (first | exact .here | apply Put.there)) (by simp only [setMany_length, List.length_set, List.length_cons, List.length_nil, List.length_map]; omega) rfl) (by kernel_rfl) (fun w h => h.ent (by repeat (first | exact .nil | refine .cons (by repeat (first | exact .here | apply Pick.there)) ?_))) (fun _ _ => ?_)
                    refine d_turn [] (by kernel_rfl) ?_
                    refine d_p 15 rfl (p_pure rfl) (by kernel_rfl) rfl rfl ?_
                    refine d_nil (by kernel_rfl) (fun w h => h.ent (by repeat (first | exact .nil | refine .cons (by repeat (first | exact .here | apply Pick.there)) ?_))) ?_
                    exact s_joinI (_, _, _) trivial (by repeat (first | exact sl_n | refine sl_c rfl ?_)) (fun w h => h.ent (by repeat (first | exact .nil | refine .cons (by repeat (first | exact .here | apply Pick.there)) ?_)))
                · skip
                  refine d_base (fun w h => h.ent (by repeat (first | exact .nil | refine .cons (by repeat (first | exact .here | apply Pick.there)) ?_))) ?_
                  refine d_two 1 13 rfl rfl  (h_call rfl fn_25 rfl (fun w1 h1 => c25 w1 _ _ [(u0, wrapL u0 o0 k0), (u1, wrapL u1 o1 k0)] _ _ (h1.fl (by repeat (first | exact .here | apply Pick.there)) rfl) (by simp))) (h_alloc rfl zr_43) (by kernel_rfl) (fun w h => h.ent (by repeat (first | exact .nil | refine .cons (by repeat (first | exact .here | apply Pick.there)) ?_))) rfl rfl  (fun b79 _ => ?_) (fun b80 _ => ?_)
                  · skip
                    refine d_base (fun w h => h.ent (by repeat (first | exact .nil | refine .cons (by repeat (first | exact .here | apply Pick.there)) ?_))) ?_
                    refine d_two 9 13 rfl rfl  (h_call rfl fn_38 rfl (fun w1 h1 => z38 w1 _ _ _ _ 2 [(u0, wrapL u0 o0 k0), (u1, wrapL u1 o1 k0)] cnt _ [(u0, o0), (u1, o1)] k1 rfl (h1.fl (by repeat (first | exact .here | apply Pick.there)) rfl) (HS.fl_blk h1 (by repeat (first | exact .here | apply Pick.there))) (by simp) (by simp) (sh_rk s l0 q1 hw (P := (if data = [] then [0, 0, 0, 102, 105, 114, 115, 116] else overT [0, 0, 0, 102, 105, 114, 115, 116] at'.toNat data)) (by omega)))) (h_alloc rfl zr_43) (by kernel_rfl) (fun w h => h.ent (by repeat (first | exact .nil | refine .cons (by repeat (first | exact .here | apply Pick.there)) ?_))) rfl rfl  (fun b81 _ => ?_) (fun b82 _ => ?_)
                    · skip
                      refine d_base (fun w h => h.ent (by repeat (first | exact .nil | refine .cons (by repeat (first | exact .here | apply Pick.there)) ?_))) ?_
                      refine d_p 10 rfl (p_pure rfl) (by kernel_rfl) rfl rfl ?_
                      refine d_p 11 rfl (p_pure rfl) (by kernel_rfl) rfl rfl ?_
                      refine d_p 12 rfl (p_pure rfl) (by kernel_rfl) rfl rfl ?_
                      refine d_h 13 rfl (h_alloc rfl zr_43) (by kernel_rfl) (fun w h => h.ent (by repeat (first | exact .nil | refine .cons (by repeat (first | exact .here | apply Pick.there)) ?_))) rfl (fun b83 _ => ?_)
                      refine d_base (fun w h => h.ent (by repeat (first | exact .nil | refine .cons (by repeat (first | exact .here | apply Pick.there)) ?_))) ?_
                      refine d_h0 14 rfl (h_store rfl rfl rfl sz_43 rfl (by repeat (first | exact .here | apply Put.there)) (by simp only [setMany_length, List.length_set, List.length_cons, List.length_nil, List.length_map]; omega) rfl) (by kernel_rfl) (fun w h => h.ent (by repeat (first | exact .nil | refine .cons (by repeat (first | exact .here | apply Pick.there)) ?_))) (fun _ _ => ?_)
                      refine d_turn [] (by kernel_rfl) ?_
                      refine d_p 15 rfl (p_pure rfl) (by kernel_rfl) rfl rfl ?_
                      refine d_nil (by kernel_rfl) (fun w h => h.ent (by repeat (first | exact .nil | refine .cons (by repeat (first | exact .here | apply Pick.there)) ?_))) ?_
                      exact s_joinI (_, _, _) trivial (by repeat (first | exact sl_n | refine sl_c rfl ?_)) (fun w h => h.ent (by repeat (first | exact .nil | refine .cons (by repeat (first | exact .here | apply Pick.there)) ?_)))
                    · skip
                      refine d_base (fun w h => h.ent (by repeat (first | exact .nil | refine .cons (by repeat (first | exact .here | apply Pick.there)) ?_))) ?_
                      refine d_h 9 rfl (h_call rfl fn_38 rfl (fun w1 h1 => z38 w1 _ _ _ _ 2 [(u0, wrapL u0 o0 k0), (u1, wrapL u1 o1 k0)] cnt _ [(u0, o0), (u1, o1)] k1 rfl (h1.fl (by repeat (first | exact .here | apply Pick.there)) rfl) (HS.fl_blk h1 (by repeat (first | exact .here | apply Pick.there))) (by simp) (by simp) (sh_rk s l0 q1 hw (P := (if data = [] then [0, 0, 0, 102, 105, 114, 115, 116] else overT [0, 0, 0, 102, 105, 114, 115, 116] at'.toNat data)) (by omega)))) (by kernel_rfl) (fun w h => h.ent (by repeat (first | exact .nil | refine .cons (by repeat (first | exact .here | apply Pick.there)) ?_))) rfl (fun b84 _ => ?_)
                      refine d_base (fun w h => h.ent (by repeat (first | exact .nil | refine .cons (by repeat (first | exact .here | apply Pick.there)) ?_))) ?_
                      refine d_p 10 rfl (p_pure rfl) (by kernel_rfl) rfl rfl ?_
                      refine d_p 11 rfl (p_pure rfl) (by kernel_rfl) rfl rfl ?_
                      refine d_p 12 rfl (p_pure rfl) (by kernel_rfl) rfl rfl ?_
                      refine d_h0 14 rfl (h_store rfl rfl rfl sz_43 rfl (by repeat (first | exact .here | apply Put.there)) (by simp only [setMany_length, List.length_set, List.length_cons, List.length_nil, List.length_map]; omega) rfl) (by kernel_rfl) (fun w h => h.ent (by repeat (first | exact .nil | refine .cons (by repeat (first | exact .here | apply Pick.there)) ?_))) (fun _ _ => ?_)
                      refine d_turn [] (by kernel_rfl) ?_
                      refine d_p 15 rfl (p_pure rfl) (by kernel_rfl) rfl rfl ?_
                      refine d_nil (by kernel_rfl) (fun w h => h.ent (by repeat (first | exact .nil | refine .cons (by repeat (first | exact .here | apply Pick.there)) ?_))) ?_
                      exact s_joinI (_, _, _) trivial (by repeat (first | exact sl_n | refine sl_c rfl ?_)) (fun w h => h.ent (by repeat (first | exact .nil | refine .cons (by repeat (first | exact .here | apply Pick.there)) ?_)))
                  · skip
                    refine d_base (fun w h => h.ent (by repeat (first | exact .nil | refine .cons (by repeat (first | exact .here | apply Pick.there)) ?_))) ?_
                    refine d_h 1 rfl (h_call rfl fn_25 rfl (fun w1 h1 => c25 w1 _ _ [(u0, wrapL u0 o0 k0), (u1, wrapL u1 o1 k0)] _ _ (h1.fl (by repeat (first | exact .here | apply Pick.there)) rfl) (by simp))) (by kernel_rfl) (fun w h => h.ent (by repeat (first | exact .nil | refine .cons (by repeat (first | exact .here | apply Pick.there)) ?_))) rfl (fun b85 _ => ?_)
                    refine d_base (fun w h => h.ent (by repeat (first | exact .nil | refine .cons (by repeat (first | exact .here | apply Pick.there)) ?_))) ?_
                    refine d_h 9 rfl (h_call rfl fn_38 rfl (fun w1 h1 => z38 w1 _ _ _ _ 2 [(u0, wrapL u0 o0 k0), (u1, wrapL u1 o1 k0)] cnt _ [(u0, o0), (u1, o1)] k1 rfl (h1.fl (by repeat (first | exact .here | apply Pick.there)) rfl) (HS.fl_blk h1 (by repeat (first | exact .here | apply Pick.there))) (by simp) (by simp) (sh_rk s l0 q1 hw (P := (if data = [] then [0, 0, 0, 102, 105, 114, 115, 116] else overT [0, 0, 0, 102, 105, 114, 115, 116] at'.toNat data)) (by omega)))) (by kernel_rfl) (fun w h => h.ent (by repeat (first | exact .nil | refine .cons (by repeat (first | exact .here | apply Pick.there)) ?_))) rfl (fun b86 _ => ?_)
                    refine d_base (fun w h => h.ent (by repeat (first | exact .nil | refine .cons (by repeat (first | exact .here | apply Pick.there)) ?_))) ?_
                    refine d_p 10 rfl (p_pure rfl) (by kernel_rfl) rfl rfl ?_
                    refine d_p 11 rfl (p_pure rfl) (by kernel_rfl) rfl rfl ?_
                    refine d_p 12 rfl (p_pure rfl) (by kernel_rfl) rfl rfl ?_
                    refine d_h0 14 rfl (h_store rfl rfl rfl sz_43 rfl (by repeat (first | exact .here | apply Put.there)) (by simp only [setMany_length, List.length_set, List.length_cons, List.length_nil, List.length_map]; omega) rfl) (by kernel_rfl) (fun w h => h.ent (by repeat (first | exact .nil | refine .cons (by repeat (first | exact .here | apply Pick.there)) ?_))) (fun _ _ => ?_)
                    refine d_turn [] (by kernel_rfl) ?_
                    refine d_p 15 rfl (p_pure rfl) (by kernel_rfl) rfl rfl ?_
                    refine d_nil (by kernel_rfl) (fun w h => h.ent (by repeat (first | exact .nil | refine .cons (by repeat (first | exact .here | apply Pick.there)) ?_))) ?_
                    exact s_joinI (_, _, _) trivial (by repeat (first | exact sl_n | refine sl_c rfl ?_)) (fun w h => h.ent (by repeat (first | exact .nil | refine .cons (by repeat (first | exact .here | apply Pick.there)) ?_)))
                · skip
                  refine d_base (fun w h => h.ent (by repeat (first | exact .nil | refine .cons (by repeat (first | exact .here | apply Pick.there)) ?_))) ?_
                  refine d_two 1 6 rfl rfl  (h_call rfl fn_25 rfl (fun w1 h1 => c25 w1 _ _ [(u0, wrapL u0 o0 k0), (u1, wrapL u1 o1 k0)] _ _ (h1.fl (by repeat (first | exact .here | apply Pick.there)) rfl) (by simp))) (h_buildSlice (cs := [_, _, _, _]) rfl rfl sl_69 zr_31 rfl rfl rfl) (by kernel_rfl) (fun w h => h.ent (by repeat (first | exact .nil | refine .cons (by repeat (first | exact .here | apply Pick.there)) ?_))) rfl rfl  (fun b87 _ => ?_) (fun b88 _ => ?_)
                  · skip
                    refine d_base (fun w h => h.ent (by repeat (first | exact .nil | refine .cons (by repeat (first | exact .here | apply Pick.there)) ?_))) ?_
                    refine d_h 6 rfl (h_buildSlice (cs := [_, _, _, _]) rfl rfl sl_69 zr_31 rfl rfl rfl) (by kernel_rfl) (fun w h => h.ent (by repeat (first | exact .nil | refine .cons (by repeat (first | exact .here | apply Pick.there)) ?_))) rfl (fun b89 _ => ?_)
                    refine d_base (fun w h => h.ent (by repeat (first | exact .nil | refine .cons (by repeat (first | exact .here | apply Pick.there)) ?_))) ?_
                    refine d_h 9 rfl (h_call rfl fn_38 rfl (fun w1 h1 => z38 w1 _ _ _ _ 2 [(u0, wrapL u0 o0 k0), (u1, wrapL u1 o1 k0)] cnt _ [(u0, o0), (u1, o1)] k1 rfl (h1.fl (by repeat (first | exact .here | apply Pick.there)) rfl) (HS.fl_blk h1 (by repeat (first | exact .here | apply Pick.there))) (by simp) (by simp) (sh_rk s l0 q1 hw (P := (if data = [] then [0, 0, 0, 102, 105, 114, 115, 116] else overT [0, 0, 0, 102, 105, 114, 115, 116] at'.toNat data)) (by omega)))) (by kernel_rfl) (fun w h => h.ent (by repeat (first | exact .nil | refine .cons (by repeat (first | exact .here | apply Pick.there)) ?_))) rfl (fun b90 _ => ?_)
                    refine d_base (fun w h => h.ent (by repeat (first | exact .nil | refine .cons (by repeat (first | exact .here | apply Pick.there)) ?_))) ?_
                    refine d_p 10 rfl (p_pure rfl) (by kernel_rfl) rfl rfl ?_
                    refine d_p 11 rfl (p_pure rfl) (by kernel_rfl) rfl rfl ?_
                    refine d_p 12 rfl (p_pure rfl) (by kernel_rfl) rfl rfl ?_
                    refine d_h0 14 rfl (h_store rfl rfl rfl sz_43 rfl (by repeat (first | exact .here | apply Put.there)) (by simp only [setMany_length, List.length_set, List.length_cons, List.length_nil, List.length_map]; omega) rfl) (by kernel_rfl) (fun w h => h.ent (by repeat (first | exact .nil | refine .cons (by repeat (first | exact .here | apply Pick.there)) ?_))) (fun _ _ => ?_)
                    refine d_turn [] (by kernel_rfl) ?_
                    refine d_p 15 rfl (p_pure rfl) (by kernel_rfl) rfl rfl ?_
                    refine d_nil (by kernel_rfl) (fun w h => h.ent (by repeat (first | exact .nil | refine .cons (by repeat (first | exact .here | apply Pick.there)) ?_))) ?_
                    exact s_joinI (_, _, _) trivial (by repeat (first | exact sl_n | refine sl_c rfl ?_)) (fun w h => h.ent (by repeat (first | exact .nil | refine .cons (by repeat (first | exact .here | apply Pick.there)) ?_)))
                  · skip
                    refine d_base (fun w h => h.ent (by repeat (first | exact .nil | refine .cons (by repeat (first | exact .here | apply Pick.there)) ?_))) ?_
                    refine d_h 1 rfl (h_call rfl fn_25 rfl (fun w1 h1 => c25 w1 _ _ [(u0, wrapL u0 o0 k0), (u1, wrapL u1 o1 k0)] _ _ (h1.fl (by repeat (first | exact .here | apply Pick.there)) rfl) (by simp))) (by kernel_rfl) (fun w h => h.ent (by repeat (first | exact .nil | refine .cons (by repeat (first | exact .here | apply Pick.there)) ?_))) rfl (fun b91 _ => ?_)
                    refine d_base (fun w h => h.ent (by repeat (first | exact .nil | refine .cons (by repeat (first | exact .here | apply Pick.there)) ?_))) ?_
                    refine d_h 9 rfl (h_call rfl fn_38 rfl (fun w1 h1 => z38 w1 _ _ _ _ 2 [(u0, wrapL u0 o0 k0), (u1, wrapL u1 o1 k0)] cnt _ [(u0, o0), (u1, o1)] k1 rfl (h1.fl (by repeat (first | exact .here | apply Pick.there)) rfl) (HS.fl_blk h1 (by repeat (first | exact .here | apply Pick.there))) (by simp) (by simp) (sh_rk s l0 q1 hw (P := (if data = [] then [0, 0, 0, 102, 105, 114, 115, 116] else overT [0, 0, 0, 102, 105, 114, 115, 116] at'.toNat data)) (by omega)))) (by kernel_rfl) (fun w h => h.ent (by repeat (first | exact .nil | refine .cons (by repeat (first | exact .here | apply Pick.there)) ?_))) rfl (fun b92 _ => ?_)
                    refine d_base (fun w h => h.ent (by repeat (first | exact .nil | refine .cons (by repeat (first | exact .here | apply Pick.there)) ?_))) ?_
                    refine d_p 10 rfl (p_pure rfl) (by kernel_rfl) rfl rfl ?_
                    refine d_p 11 rfl (p_pure rfl) (by kernel_rfl) rfl rfl ?_
                    refine d_p 12 rfl (p_pure rfl) (by kernel_rfl) rfl rfl ?_
                    refine d_h0 14 rfl (h_store rfl rfl rfl sz_43 rfl (by repeat (first | exact .here | apply Put.there)) (by simp only [setMany_length, List.length_set, List.length_cons, List.length_nil, List.length_map]; omega) rfl) (by kernel_rfl) (fun w h => h.ent (by repeat (first | exact .nil | refine .cons (by repeat (first | exact .here | apply Pick.there)) ?_))) (fun _ _ => ?_)
                    refine d_turn [] (by kernel_rfl) ?_
                    refine d_p 15 rfl (p_pure rfl) (by kernel_rfl) rfl rfl ?_
                    refine d_nil (by kernel_rfl) (fun w h => h.ent (by repeat (first | exact .nil | refine .cons (by repeat (first | exact .here | apply Pick.there)) ?_))) ?_
                    exact s_joinI (_, _, _) trivial (by repeat (first | exact sl_n | refine sl_c rfl ?_)) (fun w h => h.ent (by repeat (first | exact .nil | refine .cons (by repeat (first | exact .here | apply Pick.there)) ?_)))
              · intro ⟨bq, gq1, gq2⟩ _
                refine s_seq ?_
                refine s_seq ?_
                refine s_region ?_
                refine o_p (p_pure rfl) rfl ?_
                refine o_p (p_pure rfl) rfl ?_
                refine o_nil ?_
                refine s_cond rfl (fun h93 => ?_) (fun h93 => ?_)
                · try simp only [decide_eq_true_eq, decide_eq_false_iff_not, Bool.not_eq_true', Bool.not_eq_false', Bool.and_eq_true, Bool.or_eq_true, Bool.and_eq_false_iff, Bool.or_eq_false_iff, Bool.not_true, Bool.not_false] at h93
                  exfalso; first | omega | (simp at h93; done) | (simp_all; done)
                · try simp only [decide_eq_true_eq, decide_eq_false_iff_not, Bool.not_eq_true', Bool.not_eq_false', Bool.and_eq_true, Bool.or_eq_true, Bool.and_eq_false_iff, Bool.or_eq_false_iff, Bool.not_true, Bool.not_false] at h93
                  refine s_skip ?_
                  refine s_seq ?_
                  refine s_seq ?_
                  refine s_region ?_
                  refine o_p (p_pure rfl) rfl ?_
                  refine o_nil ?_
                  refine s_block ?_
                  refine s_loopI (α := Nat) [6, 18, 19, 20, 21, 22, 199, 200, 201, 202, 203, 204, 205, 206, 207, 208, 209, 210, 211, 212, 213, 214, 215, 216, 217, 218, 219, 220, 221, 222, 223, 224, 225, 226, 227, 228, 229, 230, 231, 232, 233, 234, 235, 236] (fun k => [(18, .int .i64 (k : Int))]) (fun _ => HS w [] [.blk bq 43 3 [.slice gq1 2 gq2, .int .i64 cnt, .string (bs (cryptL k1 (wd cnt) 0 (if data = [] then [0, 0, 0, 102, 105, 114, 115, 116] else overT [0, 0, 0, 102, 105, 114, 115, 116] at'.toNat data)))], .own (.slice gq1 2 gq2) 96 2 2 (flatF [(u0, wrapL u0 o0 k1), (u1, wrapL u1 o1 k1)]), .blk b57 43 3 [.slice b61.1 2 b61.2, .int .i64 cnt, .string (bs (cryptL k0 (wd cnt) 0 (if data = [] then [0, 0, 0, 102, 105, 114, 115, 116] else overT [0, 0, 0, 102, 105, 114, 115, 116] at'.toNat data)))], .own (.slice b61.1 2 b61.2) 96 2 2 (flatF [(u0, wrapL u0 o0 k0), (u1, wrapL u1 o1 k0)]), .blk b3 45 3 [.int .i64 at', .int .i64 cnt, .string (bs data)], .blk b2 94 2 [.string (bs k0), .string (bs k1)], .blk b1 93 4 [.int .i64 u0, .string (bs o0), .int .i64 u1, .string (bs o1)]]) (fun k => k ≤ 2) (fun k => 2 - k) 0 (by simp) (by repeat (first | exact sl_n | refine sl_c rfl ?_)) (fun w h => h.ent (by repeat (first | exact .nil | refine .cons (by repeat (first | exact .here | apply Pick.there)) ?_))) (fun k hk => ?_)
                  rcases k with _ | _ | _ | k
                  · skip
                    refine s_seq ?_
                    refine s_seq ?_
                    refine s_region ?_
                    refine o_p (p_pure rfl) rfl ?_
                    refine o_p (p_pure rfl) rfl ?_
                    refine o_nil ?_
                    refine s_cond rfl (fun h94 => ?_) (fun h94 => ?_)
                    · try simp only [decide_eq_true_eq, decide_eq_false_iff_not, Bool.not_eq_true', Bool.not_eq_false', Bool.and_eq_true, Bool.or_eq_true, Bool.and_eq_false_iff, Bool.or_eq_false_iff, Bool.not_true, Bool.not_false] at h94
                      refine s_skip ?_
                      refine s_seq ?_
                      refine s_block ?_
                      refine s_seq ?_
                      refine s_draw [] mixed ?_
                      refine d_q 0 [] rfl (q_loadn rfl rfl sz_43 (by repeat (first | exact .here | apply Pick.there)) rfl) (by kernel_rfl) (by kernel_rfl) (by kernel_rfl) rfl ?_
                      refine d_p 2 rfl (p_pure rfl) (by kernel_rfl) rfl rfl ?_
                      refine d_p 3 rfl (p_indexAddr_arr rfl rfl rfl ar_93 0 rfl (by omega)) (by kernel_rfl) rfl rfl ?_
                      refine d_q 4 [] rfl (q_loadn rfl rfl sz_31 (by repeat (first | exact .here | apply Pick.there)) rfl) (by kernel_rfl) (by kernel_rfl) (by kernel_rfl) rfl ?_
                      refine d_h 1 rfl (h_call rfl fn_25 rfl (fun w1 h1 => c25 w1 _ _ [(u0, wrapL u0 o0 k0), (u1, wrapL u1 o1 k0)] _ _ (h1.fl (by repeat (first | exact .here | apply Pick.there)) rfl) (by simp))) (by kernel_rfl) (fun w h => h.ent (by repeat (first | exact .nil | refine .cons (by repeat (first | exact .here | apply Pick.there)) ?_))) rfl (fun b95 _ => ?_)
                      refine d_base (fun w h => h.ent (by repeat (first | exact .nil | refine .cons (by repeat (first | exact .here | apply Pick.there)) ?_))) ?_
                      refine d_q 5 [] rfl (q_call rfl fn_24 rfl (fun w1 h1 => z24 w1 _ _ [(u0, wrapL u0 o0 k0), (u1, wrapL u1 o1 k0)] cnt _ u0 o0 0 1000 (h1.fl (by repeat (first | exact .here | apply Pick.there)) rfl) (by simp) (sh_read (P := (if data = [] then [0, 0, 0, 102, 105, 114, 115, 116] else overT [0, 0, 0, 102, 105, 114, 115, 116] at'.toNat data)) hc2 hw hP2 s.h0 kk0))) (by kernel_rfl) (by kernel_rfl) (by kernel_rfl) rfl ?_
                      refine d_p 6 rfl (p_pure rfl) (by kernel_rfl) rfl rfl ?_
                      refine d_p 7 rfl (p_pure rfl) (by kernel_rfl) rfl rfl ?_
                      refine d_p 8 rfl (p_pure rfl) (by kernel_rfl) rfl rfl ?_
                      refine d_p 9 rfl (p_pure rfl) (by kernel_rfl) rfl rfl ?_
                      refine d_p 10 rfl (p_pure rfl) (by kernel_rfl) rfl rfl ?_
                      refine d_nil (by kernel_rfl) (fun w h => h.ent (by repeat (first | exact .nil | refine .cons (by repeat (first | exact .here | apply Pick.there)) ?_))) ?_
                      refine s_seq ?_
                      refine s_draw [] mixed ?_
                      refine d_q 0 [] rfl (q_loadn rfl rfl sz_43 (by repeat (first | exact .here | apply Pick.there)) rfl) (by kernel_rfl) (by kernel_rfl) (by kernel_rfl) rfl ?_
                      refine d_p 2 rfl (p_pure rfl) (by kernel_rfl) rfl rfl ?_
                      refine d_p 3 rfl (p_indexAddr_arr rfl rfl rfl ar_93 0 rfl (by omega)) (by kernel_rfl) rfl rfl ?_
                      refine d_q 4 [] rfl (q_loadn rfl rfl sz_31 (by repeat (first | exact .here | apply Pick.there)) rfl) (by kernel_rfl) (by kernel_rfl) (by kernel_rfl) rfl ?_
                      refine d_h 1 rfl (h_call rfl fn_25 rfl (fun w1 h1 => c25 w1 _ _ [(u0, wrapL u0 o0 k1), (u1, wrapL u1 o1 k1)] _ _ (h1.fl (by repeat (first | exact .here | apply Pick.there)) rfl) (by simp))) (by kernel_rfl) (fun w h => h.ent (by repeat (first | exact .nil | refine .cons (by repeat (first | exact .here | apply Pick.there)) ?_))) rfl (fun b96 _ => ?_)
                      refine d_base (fun w h => h.ent (by repeat (first | exact .nil | refine .cons (by repeat (first | exact .here | apply Pick.there)) ?_))) ?_
                      refine d_q 5 [] rfl (q_call rfl fn_24 rfl (fun w1 h1 => z24 w1 _ _ [(u0, wrapL u0 o0 k1), (u1, wrapL u1 o1 k1)] cnt _ u0 o0 0 1000 (h1.fl (by repeat (first | exact .here | apply Pick.there)) rfl) (by simp) (sh_read (P := (if data = [] then [0, 0, 0, 102, 105, 114, 115, 116] else overT [0, 0, 0, 102, 105, 114, 115, 116] at'.toNat data)) hc3 hw hP2 s.h0 jk0))) (by kernel_rfl) (by kernel_rfl) (by kernel_rfl) rfl ?_
                      refine d_p 6 rfl (p_pure rfl) (by kernel_rfl) rfl rfl ?_
                      refine d_p 7 rfl (p_pure rfl) (by kernel_rfl) rfl rfl ?_
                      refine d_p 8 rfl (p_pure rfl) (by kernel_rfl) rfl rfl ?_
                      refine d_p 9 rfl (p_pure rfl) (by kernel_rfl) rfl rfl ?_
                      refine d_p 10 rfl (p_pure rfl) (by kernel_rfl) rfl rfl ?_
                      refine d_nil (by kernel_rfl) (fun w h => h.ent (by repeat (first | exact .nil | refine .cons (by repeat (first | exact .here | apply Pick.there)) ?_))) ?_
                      refine s_seq ?_
                      refine s_weaken (L' := [(3, _), (4, _), (5, _), (8, _), (10, _), (15, _), (16, _), (17, _), (18, _), (19, _), (20, _), (21, _), (22, _), (165, _), (197, _), (198, _)]) (by repeat (first | exact sl_n | refine sl_c rfl ?_)) (fun _ h => h) ?_
                      refine s_region ?_
                      refine o_p (p_pure rfl) rfl ?_
                      refine o_p (p_pure rfl) rfl ?_
                      refine o_p (p_pure rfl) rfl ?_
                      refine o_or 3 223 226 _ _ rfl
                        (by
                          intro hg97
                          have hs98 := hg97; try simp only [decide_eq_true_eq, decide_eq_false_iff_not, Bool.not_eq_true', Bool.not_eq_false', Bool.and_eq_true, Bool.or_eq_true, Bool.and_eq_false_iff, Bool.or_eq_false_iff, Bool.not_true, Bool.not_false] at hs98
                          refine o_on 223 _ rfl rfl hg97 ?_
                          refine o_p (p_pure rfl) rfl ?_
                          refine o_on 223 _ rfl rfl hg97 ?_
                          refine o_p (p_pure rfl) rfl ?_
                          refine o_p (p_pickf rfl rfl hg97 rfl) rfl ?_
                          refine o_nil ?_
                          exact s_joinN 3 226 _ rfl rfl rfl (fun w h => by first | exact h | exact h.ent (by repeat (first | exact .nil | refine .cons (by repeat (first | exact .here | apply Pick.there)) ?_))))
                        (by
                          intro hg99
                          have hs100 := hg99; try simp only [decide_eq_true_eq, decide_eq_false_iff_not, Bool.not_eq_true', Bool.not_eq_false', Bool.and_eq_true, Bool.or_eq_true, Bool.and_eq_false_iff, Bool.or_eq_false_iff, Bool.not_true, Bool.not_false] at hs100
                          refine o_off 223 _ rfl rfl hg99 rfl ?_
                          refine o_off 223 _ rfl rfl hg99 rfl ?_
                          refine o_p (p_pickt rfl rfl hg99 rfl) rfl ?_
                          refine o_nil ?_
                          exact s_joinN 3 226 _ rfl rfl rfl (fun w h => by first | exact h | exact h.ent (by repeat (first | exact .nil | refine .cons (by repeat (first | exact .here | apply Pick.there)) ?_)))) ?_
                      refine o_p (p_pure rfl) rfl ?_
                      refine o_or 4 227 231 _ _ rfl
                        (by
                          intro hg101
                          have hs102 := hg101; try simp only [decide_eq_true_eq, decide_eq_false_iff_not, Bool.not_eq_true', Bool.not_eq_false', Bool.and_eq_true, Bool.or_eq_true, Bool.and_eq_false_iff, Bool.or_eq_false_iff, Bool.not_true, Bool.not_false] at hs102
                          refine o_on 227 _ rfl rfl hg101 ?_
                          refine o_p (p_pure rfl) rfl ?_
                          refine o_on 227 _ rfl rfl hg101 ?_
                          refine o_p (p_pure rfl) rfl ?_
                          refine o_on 227 _ rfl rfl hg101 ?_
                          refine o_p (p_pure rfl) rfl ?_
                          refine o_p (p_pickf rfl rfl hg101 rfl) rfl ?_
                          refine o_nil ?_
                          exact s_joinN 4 231 _ rfl rfl rfl (fun w h => by first | exact h | exact h.ent (by repeat (first | exact .nil | refine .cons (by repeat (first | exact .here | apply Pick.there)) ?_))))
                        (by
                          intro hg103
                          have hs104 := hg103; try simp only [decide_eq_true_eq, decide_eq_false_iff_not, Bool.not_eq_true', Bool.not_eq_false', Bool.and_eq_true, Bool.or_eq_true, Bool.and_eq_false_iff, Bool.or_eq_false_iff, Bool.not_true, Bool.not_false] at hs104
                          refine o_off 227 _ rfl rfl hg103 rfl ?_
                          refine o_off 227 _ rfl rfl hg103 rfl ?_
                          refine o_off 227 _ rfl rfl hg103 rfl ?_
                          refine o_p (p_pickt rfl rfl hg103 rfl) rfl ?_
                          refine o_nil ?_
                          exact s_joinN 4 231 _ rfl rfl rfl (fun w h => by first | exact h | exact h.ent (by repeat (first | exact .nil | refine .cons (by repeat (first | exact .here | apply Pick.there)) ?_)))) ?_
                      refine o_p (p_pure rfl) rfl ?_
                      refine o_or 4 232 236 _ _ rfl
                        (by
                          intro hg105
                          have hs106 := hg105; try simp only [decide_eq_true_eq, decide_eq_false_iff_not, Bool.not_eq_true', Bool.not_eq_false', Bool.and_eq_true, Bool.or_eq_true, Bool.and_eq_false_iff, Bool.or_eq_false_iff, Bool.not_true, Bool.not_false] at hs106
                          refine o_on 232 _ rfl rfl hg105 ?_
                          refine o_p (p_pure rfl) rfl ?_
                          refine o_on 232 _ rfl rfl hg105 ?_
                          refine o_p (p_pure rfl) rfl ?_
                          refine o_on 232 _ rfl rfl hg105 ?_
                          refine o_p (p_pure rfl) rfl ?_
                          refine o_p (p_pickf rfl rfl hg105 rfl) rfl ?_
                          refine o_nil ?_
                          exact s_joinN 4 236 _ rfl rfl rfl (fun w h => by first | exact h | exact h.ent (by repeat (first | exact .nil | refine .cons (by repeat (first | exact .here | apply Pick.there)) ?_))))
                        (by
                          intro hg107
                          have hs108 := hg107; try simp only [decide_eq_true_eq, decide_eq_false_iff_not, Bool.not_eq_true', Bool.not_eq_false', Bool.and_eq_true, Bool.or_eq_true, Bool.and_eq_false_iff, Bool.or_eq_false_iff, Bool.not_true, Bool.not_false] at hs108
                          refine o_off 232 _ rfl rfl hg107 rfl ?_
                          refine o_off 232 _ rfl rfl hg107 rfl ?_
                          refine o_off 232 _ rfl rfl hg107 rfl ?_
                          refine o_p (p_pickt rfl rfl hg107 rfl) rfl ?_
                          refine o_nil ?_
                          exact s_joinN 4 236 _ rfl rfl rfl (fun w h => by first | exact h | exact h.ent (by repeat (first | exact .nil | refine .cons (by repeat (first | exact .here | apply Pick.there)) ?_)))) ?_
                      refine o_nil ?_
                      refine s_cond rfl (fun h109 => ?_) (fun h109 => ?_)
                      · try simp only [decide_eq_true_eq, decide_eq_false_iff_not, Bool.not_eq_true', Bool.not_eq_false', Bool.and_eq_true, Bool.or_eq_true, Bool.and_eq_false_iff, Bool.or_eq_false_iff, Bool.not_true, Bool.not_false] at h109
                        exfalso; first | omega | (simp at h109; done) | (simp_all; done)
                      · try simp only [decide_eq_true_eq, decide_eq_false_iff_not, Bool.not_eq_true', Bool.not_eq_false', Bool.and_eq_true, Bool.or_eq_true, Bool.and_eq_false_iff, Bool.or_eq_false_iff, Bool.not_true, Bool.not_false] at h109
                        refine s_skip ?_
                        refine s_blk ?_
                        refine s_region ?_
                        refine o_p (p_pure rfl) rfl ?_
                        refine o_p (p_pure rfl) rfl ?_
                        try (refine o_slot (i64w (by omega) (by omega)) ?_)
                        refine o_p (p_pure rfl) rfl ?_
                        refine o_nil ?_
                        exact s_backI 1 (by omega) (by omega) (by repeat (first | exact sl_n | refine sl_c rfl ?_)) (fun w h => h.ent (by repeat (first | exact .nil | refine .cons (by repeat (first | exact .here | apply Pick.there)) ?_)))
                    · try simp only [decide_eq_true_eq, decide_eq_false_iff_not, Bool.not_eq_true', Bool.not_eq_false', Bool.and_eq_true, Bool.or_eq_true, Bool.and_eq_false_iff, Bool.or_eq_false_iff, Bool.not_true, Bool.not_false] at h94
                      exfalso; first | omega | (simp at h94; done) | (simp_all; done)
                  · skip
                    refine s_seq ?_
                    refine s_seq ?_
                    refine s_region ?_
                    refine o_p (p_pure rfl) rfl ?_
                    refine o_p (p_pure rfl) rfl ?_
                    refine o_nil ?_
                    refine s_cond rfl (fun h110 => ?_) (fun h110 => ?_)
                    · try simp only [decide_eq_true_eq, decide_eq_false_iff_not, Bool.not_eq_true', Bool.not_eq_false', Bool.and_eq_true, Bool.or_eq_true, Bool.and_eq_false_iff, Bool.or_eq_false_iff, Bool.not_true, Bool.not_false] at h110
                      refine s_skip ?_
                      refine s_seq ?_
                      refine s_block ?_
                      refine s_seq ?_
                      refine s_draw [] mixed ?_
                      refine d_q 0 [] rfl (q_loadn rfl rfl sz_43 (by repeat (first | exact .here | apply Pick.there)) rfl) (by kernel_rfl) (by kernel_rfl) (by kernel_rfl) rfl ?_
                      refine d_p 2 rfl (p_pure rfl) (by kernel_rfl) rfl rfl ?_
                      refine d_p 3 rfl (p_indexAddr_arr rfl rfl rfl ar_93 1 rfl (by omega)) (by kernel_rfl) rfl rfl ?_
                      refine d_q 4 [] rfl (q_loadn rfl rfl sz_31 (by repeat (first | exact .here | apply Pick.there)) rfl) (by kernel_rfl) (by kernel_rfl) (by kernel_rfl) rfl ?_
                      refine d_h 1 rfl (h_call rfl fn_25 rfl (fun w1 h1 => c25 w1 _ _ [(u0, wrapL u0 o0 k0), (u1, wrapL u1 o1 k0)] _ _ (h1.fl (by repeat (first | exact .here | apply Pick.there)) rfl) (by simp))) (by kernel_rfl) (fun w h => h.ent (by repeat (first | exact .nil | refine .cons (by repeat (first | exact .here | apply Pick.there)) ?_))) rfl (fun b111 _ => ?_)
                      refine d_base (fun w h => h.ent (by repeat (first | exact .nil | refine .cons (by repeat (first | exact .here | apply Pick.there)) ?_))) ?_
                      refine d_q 5 [] rfl (q_call rfl fn_24 rfl (fun w1 h1 => z24 w1 _ _ [(u0, wrapL u0 o0 k0), (u1, wrapL u1 o1 k0)] cnt _ u1 o1 0 1000 (h1.fl (by repeat (first | exact .here | apply Pick.there)) rfl) (by simp) (sh_read (P := (if data = [] then [0, 0, 0, 102, 105, 114, 115, 116] else overT [0, 0, 0, 102, 105, 114, 115, 116] at'.toNat data)) hc2 hw hP2 s.h1 kk1))) (by kernel_rfl) (by kernel_rfl) (by kernel_rfl) rfl ?_
                      refine d_p 6 rfl (p_pure rfl) (by kernel_rfl) rfl rfl ?_
                      refine d_p 7 rfl (p_pure rfl) (by kernel_rfl) rfl rfl ?_
                      refine d_p 8 rfl (p_pure rfl) (by kernel_rfl) rfl rfl ?_
                      refine d_p 9 rfl (p_pure rfl) (by kernel_rfl) rfl rfl ?_
                      refine d_p 10 rfl (p_pure rfl) (by kernel_rfl) rfl rfl ?_
                      refine d_nil (by kernel_rfl) (fun w h => h.ent (by repeat (first | exact .nil | refine .cons (by repeat (first | exact .here | apply Pick.there)) ?_))) ?_
                      refine s_seq ?_
                      refine s_draw [] mixed ?_
                      refine d_q 0 [] rfl (q_loadn rfl rfl sz_43 (by repeat (first | exact .here | apply Pick.there)) rfl) (by kernel_rfl) (by kernel_rfl) (by kernel_rfl) rfl ?_
                      refine d_p 2 rfl (p_pure rfl) (by kernel_rfl) rfl rfl ?_
                      refine d_p 3 rfl (p_indexAddr_arr rfl rfl rfl ar_93 1 rfl (by omega)) (by kernel_rfl) rfl rfl ?_
                      refine d_q 4 [] rfl (q_loadn rfl rfl sz_31 (by repeat (first | exact .here | apply Pick.there)) rfl) (by kernel_rfl) (by kernel_rfl) (by kernel_rfl) rfl ?_
                      refine d_h 1 rfl (h_call rfl fn_25 rfl (fun w1 h1 => c25 w1 _ _ [(u0, wrapL u0 o0 k1), (u1, wrapL u1 o1 k1)] _ _ (h1.fl (by repeat (first | exact .here | apply Pick.there)) rfl) (by simp))) (by kernel_rfl) (fun w h => h.ent (by repeat (first | exact .nil | refine .cons (by repeat (first | exact .here | apply Pick.there)) ?_))) rfl (fun b112 _ => ?_)
                      refine d_base (fun w h => h.ent (by repeat (first | exact .nil | refine .cons (by repeat (first | exact .here | apply Pick.there)) ?_))) ?_
                      refine d_q 5 [] rfl (q_call rfl fn_24 rfl (fun w1 h1 => z24 w1 _ _ [(u0, wrapL u0 o0 k1), (u1, wrapL u1 o1 k1)] cnt _ u1 o1 0 1000 (h1.fl (by repeat (first | exact .here | apply Pick.there)) rfl) (by simp) (sh_read (P := (if data = [] then [0, 0, 0, 102, 105, 114, 115, 116] else overT [0, 0, 0, 102, 105, 114, 115, 116] at'.toNat data)) hc3 hw hP2 s.h1 jk1))) (by kernel_rfl) (by kernel_rfl) (by kernel_rfl) rfl ?_
                      refine d_p 6 rfl (p_pure rfl) (by kernel_rfl) rfl rfl ?_
                      refine d_p 7 rfl (p_pure rfl) (by kernel_rfl) rfl rfl ?_
                      refine d_p 8 rfl (p_pure rfl) (by kernel_rfl) rfl rfl ?_
                      refine d_p 9 rfl (p_pure rfl) (by kernel_rfl) rfl rfl ?_
                      refine d_p 10 rfl (p_pure rfl) (by kernel_rfl) rfl rfl ?_
                      refine d_nil (by kernel_rfl) (fun w h => h.ent (by repeat (first | exact .nil | refine .cons (by repeat (first | exact .here | apply Pick.there)) ?_))) ?_
                      refine s_seq ?_
                      refine s_weaken (L' := [(3, _), (4, _), (5, _), (8, _), (10, _), (15, _), (16, _), (17, _), (18, _), (19, _), (20, _), (21, _), (22, _), (165, _), (197, _), (198, _)]) (by repeat (first | exact sl_n | refine sl_c rfl ?_)) (fun _ h => h) ?_
                      refine s_region ?_
                      refine o_p (p_pure rfl) rfl ?_
                      refine o_p (p_pure rfl) rfl ?_
                      refine o_p (p_pure rfl) rfl ?_
                      refine o_or 3 223 226 _ _ rfl
                        (by
                          intro hg113
                          have hs114 := hg113; try simp only [decide_eq_true_eq, decide_eq_false_iff_not, Bool.not_eq_true', Bool.not_eq_false', Bool.and_eq_true, Bool.or_eq_true, Bool.and_eq_false_iff, Bool.or_eq_false_iff, Bool.not_true, Bool.not_false] at hs114
                          refine o_on 223 _ rfl rfl hg113 ?_
                          refine o_p (p_pure rfl) rfl ?_
                          refine o_on 223 _ rfl rfl hg113 ?_
                          refine o_p (p_pure rfl) rfl ?_
                          refine o_p (p_pickf rfl rfl hg113 rfl) rfl ?_
                          refine o_nil ?_
                          exact s_joinN 3 226 _ rfl rfl rfl (fun w h => by first | exact h | exact h.ent (by repeat (first | exact .nil | refine .cons (by repeat (first | exact .here | apply Pick.there)) ?_))))
                        (by
                          intro hg115
                          have hs116 := hg115; try simp only [decide_eq_true_eq, decide_eq_false_iff_not, Bool.not_eq_true', Bool.not_eq_false', Bool.and_eq_true, Bool.or_eq_true, Bool.and_eq_false_iff, Bool.or_eq_false_iff, Bool.not_true, Bool.not_false] at hs116
                          refine o_off 223 _ rfl rfl hg115 rfl ?_
                          refine o_off 223 _ rfl rfl hg115 rfl ?_
                          refine o_p (p_pickt rfl rfl hg115 rfl) rfl ?_
                          refine o_nil ?_
                          exact s_joinN 3 226 _ rfl rfl rfl (fun w h => by first | exact h | exact h.ent (by repeat (first | exact .nil | refine .cons (by repeat (first | exact .here | apply Pick.there)) ?_)))) ?_
                      refine o_p (p_pure rfl) rfl ?_
                      refine o_or 4 227 231 _ _ rfl
                        (by
                          intro hg117
                          have hs118 := hg117; try simp only [decide_eq_true_eq, decide_eq_false_iff_not, Bool.not_eq_true', Bool.not_eq_false', Bool.and_eq_true, Bool.or_eq_true, Bool.and_eq_false_iff, Bool.or_eq_false_iff, Bool.not_true, Bool.not_false] at hs118
                          refine o_on 227 _ rfl rfl hg117 ?_
                          refine o_p (p_pure rfl) rfl ?_
                          refine o_on 227 _ rfl rfl hg117 ?_
                          refine o_p (p_pure rfl) rfl ?_
                          refine o_on 227 _ rfl rfl hg117 ?_
                          refine o_p (p_pure rfl) rfl ?_
                          refine o_p (p_pickf rfl rfl hg117 rfl) rfl ?_
                          refine o_nil ?_
                          exact s_joinN 4 231 _ rfl rfl rfl (fun w h => by first | exact h | exact h.ent (by repeat (first | exact .nil | refine .cons (by repeat (first | exact .here | apply Pick.there)) ?_))))
                        (by
                          intro hg119
                          have hs120 := hg119; try simp only [decide_eq_true_eq, decide_eq_false_iff_not, Bool.not_eq_true', Bool.not_eq_false', Bool.and_eq_true, Bool.or_eq_true, Bool.and_eq_false_iff, Bool.or_eq_false_iff, Bool.not_true, Bool.not_false] at hs120
                          refine o_off 227 _ rfl rfl hg119 rfl ?_
                          refine o_off 227 _ rfl rfl hg119 rfl ?_
                          refine o_off 227 _ rfl rfl hg119 rfl ?_
                          refine o_p (p_pickt rfl rfl hg119 rfl) rfl ?_
                          refine o_nil ?_
                          exact s_joinN 4 231 _ rfl rfl rfl (fun w h => by first | exact h | exact h.ent (by repeat (first | exact .nil | refine .cons (by repeat (first | exact .here | apply Pick.there)) ?_)))) ?_
                      refine o_p (p_pure rfl) rfl ?_
                      refine o_or 4 232 236 _ _ rfl
                        (by
                          intro hg121
                          have hs122 := hg121; try simp only [decide_eq_true_eq, decide_eq_false_iff_not, Bool.not_eq_true', Bool.not_eq_false', Bool.and_eq_true, Bool.or_eq_true, Bool.and_eq_false_iff, Bool.or_eq_false_iff, Bool.not_true, Bool.not_false] at hs122
                          refine o_on 232 _ rfl rfl hg121 ?_
                          refine o_p (p_pure rfl) rfl ?_
                          refine o_on 232 _ rfl rfl hg121 ?_
                          refine o_p (p_pure rfl) rfl ?_
                          refine o_on 232 _ rfl rfl hg121 ?_
                          refine o_p (p_pure rfl) rfl ?_
                          refine o_p (p_pickf rfl rfl hg121 rfl) rfl ?_
                          refine o_nil ?_
                          exact s_joinN 4 236 _ rfl rfl rfl (fun w h => by first | exact h | exact h.ent (by repeat (first | exact .nil | refine .cons (by repeat (first | exact .here | apply Pick.there)) ?_))))
                        (by
                          intro hg123
                          have hs124 := hg123; try simp only [decide_eq_true_eq, decide_eq_false_iff_not, Bool.not_eq_true', Bool.not_eq_false', Bool.and_eq_true, Bool.or_eq_true, Bool.and_eq_false_iff, Bool.or_eq_false_iff, Bool.not_true, Bool.not_false] at hs124
                          refine o_off 232 _ rfl rfl hg123 rfl ?_
                          refine o_off 232 _ rfl rfl hg123 rfl ?_
                          refine o_off 232 _ rfl rfl hg123 rfl ?_
                          refine o_p (p_pickt rfl rfl hg123 rfl) rfl ?_
                          refine o_nil ?_
                          exact s_joinN 4 236 _ rfl rfl rfl (fun w h => by first | exact h | exact h.ent (by repeat (first | exact .nil | refine .cons (by repeat (first | exact .here | apply Pick.there)) ?_)))) ?_
                      refine o_nil ?_
                      refine s_cond rfl (fun h125 => ?_) (fun h125 => ?_)
                      · try simp only [decide_eq_true_eq, decide_eq_false_iff_not, Bool.not_eq_true', Bool.not_eq_false', Bool.and_eq_true, Bool.or_eq_true, Bool.and_eq_false_iff, Bool.or_eq_false_iff, Bool.not_true, Bool.not_false] at h125
                        exfalso; first | omega | (simp at h125; done) | (simp_all; done)
                      · try simp only [decide_eq_true_eq, decide_eq_false_iff_not, Bool.not_eq_true', Bool.not_eq_false', Bool.and_eq_true, Bool.or_eq_true, Bool.and_eq_false_iff, Bool.or_eq_false_iff, Bool.not_true, Bool.not_false] at h125
                        refine s_skip ?_
                        refine s_blk ?_
                        refine s_region ?_
                        refine o_p (p_pure rfl) rfl ?_
                        refine o_p (p_pure rfl) rfl ?_
                        try (refine o_slot (i64w (by omega) (by omega)) ?_)
                        refine o_p (p_pure rfl) rfl ?_
                        refine o_nil ?_
                        exact s_backI 2 (by omega) (by omega) (by repeat (first | exact sl_n | refine sl_c rfl ?_)) (fun w h => h.ent (by repeat (first | exact .nil | refine .cons (by repeat (first | exact .here | apply Pick.there)) ?_)))
                    · try simp only [decide_eq_true_eq, decide_eq_false_iff_not, Bool.not_eq_true', Bool.not_eq_false', Bool.and_eq_true, Bool.or_eq_true, Bool.and_eq_false_iff, Bool.or_eq_false_iff, Bool.not_true, Bool.not_false] at h110
                      exfalso; first | omega | (simp at h110; done) | (simp_all; done)
                  · skip
                    refine s_seq ?_
                    refine s_seq ?_
                    refine s_region ?_
                    refine o_p (p_pure rfl) rfl ?_
                    refine o_p (p_pure rfl) rfl ?_
                    refine o_nil ?_
                    refine s_cond rfl (fun h126 => ?_) (fun h126 => ?_)
                    · try simp only [decide_eq_true_eq, decide_eq_false_iff_not, Bool.not_eq_true', Bool.not_eq_false', Bool.and_eq_true, Bool.or_eq_true, Bool.and_eq_false_iff, Bool.or_eq_false_iff, Bool.not_true, Bool.not_false] at h126
                      exfalso; first | omega | (simp at h126; done) | (simp_all; done)
                    · try simp only [decide_eq_true_eq, decide_eq_false_iff_not, Bool.not_eq_true', Bool.not_eq_false', Bool.and_eq_true, Bool.or_eq_true, Bool.and_eq_false_iff, Bool.or_eq_false_iff, Bool.not_true, Bool.not_false] at h126
                      refine s_exit_to rfl ?_
                      refine s_seq ?_
                      refine s_draw [] mixed ?_
                      refine d_p 0 rfl (p_fieldAddr rfl rfl fd_43_0 sz_41 rfl) (by kernel_rfl) rfl rfl ?_
                      refine d_q 1 [] rfl (q_load rfl rfl sz_41 (by repeat (first | exact .here | apply Pick.there)) rfl) (by kernel_rfl) (by kernel_rfl) (by kernel_rfl) rfl ?_
                      refine d_p 3 rfl (p_indexAddr_arr rfl rfl rfl ar_93 0 rfl (by omega)) (by kernel_rfl) rfl rfl ?_
                      refine d_p 4 rfl (p_fieldAddr rfl rfl fd_31_0 sz_3 rfl) (by kernel_rfl) rfl rfl ?_
                      refine d_q 5 [] rfl (q_load rfl rfl sz_3 (by repeat (first | exact .here | apply Pick.there)) rfl) (by kernel_rfl) (by kernel_rfl) (by kernel_rfl) rfl ?_
                      refine d_h 2 rfl (h_call rfl fn_41 rfl (fun w1 h1 => c41 w1 _ _ [(u0, wrapL u0 o0 k1), (u1, wrapL u1 o1 k1)] (h1.fl (by repeat (first | exact .here | apply Pick.there)) rfl) (by simp))) (by kernel_rfl) (fun w h => h.ent (by repeat (first | exact .nil | refine .cons (by repeat (first | exact .here | apply Pick.there)) ?_))) rfl (fun b127 _ => ?_)
                      refine d_base (fun w h => h.ent (by repeat (first | exact .nil | refine .cons (by repeat (first | exact .here | apply Pick.there)) ?_))) ?_
                      refine d_h 6 rfl (h_call rfl fn_45 rfl (fun w1 h1 => z45 w1 _ _ [(u0, wrapL u0 o0 k1), (u1, wrapL u1 o1 k1)] u0 (h1.fl (by repeat (first | exact .here | apply Pick.there)) rfl) (by simp) (by omega) (sh_rem s v0 v1))) (by kernel_rfl) (fun w h => h.ent (by repeat (first | exact .nil | refine .cons (by repeat (first | exact .here | apply Pick.there)) ?_))) rfl (fun b128 _ => ?_)
                      refine d_base (fun w h => h.ent (by repeat (first | exact .nil | refine .cons (by repeat (first | exact .here | apply Pick.there)) ?_))) ?_
                      refine d_p 7 rfl (p_pure rfl) (by kernel_rfl) rfl rfl ?_
                      refine d_p 8 rfl (p_pure rfl) (by kernel_rfl) rfl rfl ?_
                      refine d_p 9 rfl (p_pure rfl) (by kernel_rfl) rfl rfl ?_
                      refine d_p 10 rfl (p_pure rfl) (by kernel_rfl) rfl rfl ?_
                      refine d_p 11 rfl (p_pure rfl) (by kernel_rfl) rfl rfl ?_
                      refine d_nil (by kernel_rfl) (fun w h => h.ent (by repeat (first | exact .nil | refine .cons (by repeat (first | exact .here | apply Pick.there)) ?_))) ?_
                      refine s_seq ?_
                      refine s_region ?_
                      refine o_p (p_pure rfl) rfl ?_
                      refine o_p (p_indexAddr_arr rfl rfl rfl ar_93 0 rfl (by omega)) rfl ?_
                      refine o_q (q_loadn rfl rfl sz_31 (by repeat (first | exact .here | apply Pick.there)) rfl) rfl ?_
                      refine o_q (q_call rfl fn_43 rfl (fun w1 h1 => z43 w1 _ _ [(u1, wrapL u1 o1 k1)] u0 o0 (h1.fl (by repeat (first | exact .here | apply Pick.there)) rfl) (by simp) (sh_none s v1))) rfl ?_
                      refine o_p (p_pure rfl) rfl ?_
                      refine o_p (p_pure rfl) rfl ?_
                      refine o_p (p_pure rfl) rfl ?_
                      refine o_p (p_pure rfl) rfl ?_
                      refine o_nil ?_
                      refine s_seq ?_
                      refine s_weaken (L' := [(3, _), (4, _), (5, _), (8, _), (10, _), (15, _), (16, _), (17, _), (23, _), (165, _), (197, _), (198, _)]) (by repeat (first | exact sl_n | refine sl_c rfl ?_)) (fun _ h => h) ?_
                      refine s_region ?_
                      refine o_p (p_pure rfl) rfl ?_
                      refine o_p (p_pure rfl) rfl ?_
                      refine o_p (p_pure rfl) rfl ?_
                      refine o_and 4 256 260 _ _ rfl
                        (by
                          intro hg129
                          have hs130 := hg129; try simp only [decide_eq_true_eq, decide_eq_false_iff_not, Bool.not_eq_true', Bool.not_eq_false', Bool.and_eq_true, Bool.or_eq_true, Bool.and_eq_false_iff, Bool.or_eq_false_iff, Bool.not_true, Bool.not_false] at hs130
                          refine o_on 256 _ rfl rfl hg129 ?_
                          refine o_p (p_pure rfl) rfl ?_
                          refine o_on 256 _ rfl rfl hg129 ?_
                          first | refine o_p (p_len_slice rfl rfl Try.underlying41) rfl ?_ | refine o_q (q_len_own rfl rfl Try.underlying41 (by repeat (first | exact .here | apply Pick.there))) rfl ?_
                          refine o_on 256 _ rfl rfl hg129 ?_
                          refine o_p (p_pure rfl) rfl ?_
                          refine o_p (p_pickt rfl rfl hg129 rfl) rfl ?_
                          refine o_nil ?_
                          exact s_joinN 4 260 _ rfl rfl rfl (fun w h => by first | exact h | exact h.ent (by repeat (first | exact .nil | refine .cons (by repeat (first | exact .here | apply Pick.there)) ?_))))
                        (by
                          intro hg131
                          have hs132 := hg131; try simp only [decide_eq_true_eq, decide_eq_false_iff_not, Bool.not_eq_true', Bool.not_eq_false', Bool.and_eq_true, Bool.or_eq_true, Bool.and_eq_false_iff, Bool.or_eq_false_iff, Bool.not_true, Bool.not_false] at hs132
                          refine o_off 256 _ rfl rfl hg131 rfl ?_
                          refine o_off 256 _ rfl rfl hg131 rfl ?_
                          refine o_off 256 _ rfl rfl hg131 rfl ?_
                          refine o_p (p_pickf rfl rfl hg131 rfl) rfl ?_
                          refine o_nil ?_
                          exact s_joinN 4 260 _ rfl rfl rfl (fun w h => by first | exact h | exact h.ent (by repeat (first | exact .nil | refine .cons (by repeat (first | exact .here | apply Pick.there)) ?_)))) ?_
                      refine o_p (p_pure rfl) rfl ?_
                      refine o_and 3 261 264 _ _ rfl
                        (by
                          intro hg133
                          have hs134 := hg133; try simp only [decide_eq_true_eq, decide_eq_false_iff_not, Bool.not_eq_true', Bool.not_eq_false', Bool.and_eq_true, Bool.or_eq_true, Bool.and_eq_false_iff, Bool.or_eq_false_iff, Bool.not_true, Bool.not_false] at hs134
                          refine o_on 261 _ rfl rfl hg133 ?_
                          refine o_p (p_pure rfl) rfl ?_
                          refine o_on 261 _ rfl rfl hg133 ?_
                          refine o_p (p_pure rfl) rfl ?_
                          refine o_p (p_pickt rfl rfl hg133 rfl) rfl ?_
                          refine o_nil ?_
                          exact s_joinN 3 264 _ rfl rfl rfl (fun w h => by first | exact h | exact h.ent (by repeat (first | exact .nil | refine .cons (by repeat (first | exact .here | apply Pick.there)) ?_))))
                        (by
                          intro hg135
                          have hs136 := hg135; try simp only [decide_eq_true_eq, decide_eq_false_iff_not, Bool.not_eq_true', Bool.not_eq_false', Bool.and_eq_true, Bool.or_eq_true, Bool.and_eq_false_iff, Bool.or_eq_false_iff, Bool.not_true, Bool.not_false] at hs136
                          refine o_off 261 _ rfl rfl hg135 rfl ?_
                          refine o_off 261 _ rfl rfl hg135 rfl ?_
                          refine o_p (p_pickf rfl rfl hg135 rfl) rfl ?_
                          refine o_nil ?_
                          exact s_joinN 3 264 _ rfl rfl rfl (fun w h => by first | exact h | exact h.ent (by repeat (first | exact .nil | refine .cons (by repeat (first | exact .here | apply Pick.there)) ?_)))) ?_
                      refine o_p (p_pure rfl) rfl ?_
                      refine o_nil ?_
                      exact s_retv (rs := [.tmp 6]) rfl (.tmp rfl (.nil)) (fun w' h' => ⟨by simp; rfl, h'.below⟩)
                  · exfalso; omega

end Go.Proofs
