/- Plain data of chapter 25: tables of handles, as plain data and with the addresses of their rows; which tables are valid. Nothing of a program is named here. -/
import Derived.Test.YtgdigngojonbhaaGxMap
import Derived.Test.YtgdigngojonbhaaGxLib
import Derived.Test.YtgdigngojonbhaaGxCipher3
namespace Gx
set_option linter.unusedSimpArgs false
set_option linter.unusedVariables false
set_option linter.unusedSectionVars false
open Go Go.RowKit

structure Lock where
  fr : Int
  cnt : Int
  ex : Bool
structure Opn where
  hd : Int
  ac : Int
  sh : Int
  dl : Bool
  lk : List Lock
structure Fil where
  rc : Int
  sq : Int
  pd : Bool
  op : List Opn
/-- With the addresses and capacities of the rows. -/
structure LOpn where
  hd : Int
  ac : Int
  sh : Int
  dl : Bool
  la : Option Addr
  lc : Nat
  lk : List Lock
structure LFil where
  rc : Int
  sq : Int
  pd : Bool
  oa : Option Addr
  oc : Nat
  op : List LOpn
instance : Inhabited Lock := ⟨⟨0, 0, false⟩⟩
instance : Inhabited Opn := ⟨⟨0, 0, 0, false, []⟩⟩
instance : Inhabited Fil := ⟨⟨0, 0, false, []⟩⟩
instance : Inhabited LOpn := ⟨⟨0, 0, 0, false, none, 0, []⟩⟩
instance : Inhabited LFil := ⟨⟨0, 0, false, none, 0, []⟩⟩
def LOpn.pl (o : LOpn) : Opn := ⟨o.hd, o.ac, o.sh, o.dl, o.lk⟩
def LFil.pl (f : LFil) : Fil := ⟨f.rc, f.sq, f.pd, f.op.map LOpn.pl⟩
abbrev pls (l : List LFil) : List Fil := l.map LFil.pl
abbrev plo (l : List LOpn) : List Opn := l.map LOpn.pl
def Lock.vals (k : Lock) : List Value := [.int .i64 k.fr, .int .i64 k.cnt, .bool k.ex]
def LOpn.vals (o : LOpn) : List Value := [.int .i64 o.hd, .int .i64 o.ac, .int .i64 o.sh, .bool o.dl, .slice o.la o.lk.length o.lc]
def LFil.vals (f : LFil) : List Value := [.int .i64 f.rc, .int .i64 f.sq, .bool f.pd, .slice f.oa f.op.length f.oc]
theorem lv3 (k : Lock) : k.vals.length = 3 := rfl
theorem ov5 (o : LOpn) : o.vals.length = 5 := rfl
theorem fv4 (f : LFil) : f.vals.length = 4 := rfl
theorem lv1 (k : Lock) : ∀ u ∈ k.vals, u.oneCell' = true := by
  intro u hu
  simp only [Lock.vals, List.mem_cons, List.mem_nil_iff, or_false] at hu
  rcases hu with rfl | rfl | rfl <;> rfl
theorem ov1 (o : LOpn) : ∀ u ∈ o.vals, u.oneCell' = true := by
  intro u hu
  simp only [LOpn.vals, List.mem_cons, List.mem_nil_iff, or_false] at hu
  rcases hu with rfl | rfl | rfl | rfl | rfl <;> rfl
theorem fv1 (f : LFil) : ∀ u ∈ f.vals, u.oneCell' = true := by
  intro u hu
  simp only [LFil.vals, List.mem_cons, List.mem_nil_iff, or_false] at hu
  rcases hu with rfl | rfl | rfl | rfl <;> rfl
/-! ## What reads as locks, opens, files -/
def Kt (w : World) (M : List Nat) (a : Option Addr) (l : List Lock) : Prop := Rw Lock.vals 3 w M a l
def Ot (w : World) (M : List Nat) (a : Option Addr) (l : List LOpn) : Prop := Rw LOpn.vals 5 w M a l ∧ ∀ o ∈ l, Kt w M o.la o.lk
def Ft (w : World) (M : List Nat) (a : Option Addr) (l : List LFil) : Prop := Rw LFil.vals 4 w M a l ∧ ∀ f ∈ l, Ot w M f.oa f.op ∧ f.op.length ≤ f.oc
section
variable {w w' : World} {M M' : List Nat} {As : List HA} {a : Option Addr}
theorem Kt.later {l : List Lock} (h : Kt w M a l) (hs : HS w M As w') : Kt w' [] a l := Rw.later h hs
theorem Ot.later {l : List LOpn} (h : Ot w M a l) (hs : HS w M As w') : Ot w' [] a l := ⟨Rw.later h.1 hs, fun o ho => (h.2 o ho).later hs⟩
theorem Ft.later {l : List LFil} (h : Ft w M a l) (hs : HS w M As w') : Ft w' [] a l := ⟨Rw.later h.1 hs, fun f hf => ⟨(h.2 f hf).1.later hs, (h.2 f hf).2⟩⟩
theorem Kt.keep {l : List Lock} (h : Kt w M a l) (hs : HS w M As w') : Kt w' (fps As) a l := Rw.keep h hs
theorem Ot.keep {l : List LOpn} (h : Ot w M a l) (hs : HS w M As w') : Ot w' (fps As) a l := ⟨Rw.keep h.1 hs, fun o ho => (h.2 o ho).keep hs⟩
theorem Ft.keep {l : List LFil} (h : Ft w M a l) (hs : HS w M As w') : Ft w' (fps As) a l := ⟨Rw.keep h.1 hs, fun f hf => ⟨(h.2 f hf).1.keep hs, (h.2 f hf).2⟩⟩
theorem Kt.mono {l : List Lock} (h : Kt w M a l) (hM : ∀ b ∈ M', b ∈ M) : Kt w M' a l := Rw.mono h hM
theorem Ot.mono {l : List LOpn} (h : Ot w M a l) (hM : ∀ b ∈ M', b ∈ M) : Ot w M' a l := ⟨Rw.mono h.1 hM, fun o ho => (h.2 o ho).mono hM⟩
theorem Ft.mono {l : List LFil} (h : Ft w M a l) (hM : ∀ b ∈ M', b ∈ M) : Ft w M' a l := ⟨Rw.mono h.1 hM, fun f hf => ⟨(h.2 f hf).1.mono hM, (h.2 f hf).2⟩⟩
theorem mem_nth {α : Type} [Inhabited α] {l : List α} {i : Nat} (h : i < l.length) : nth l i ∈ l := List.mem_of_getElem? (nth_get h)
theorem Ot.at {l : List LOpn} (h : Ot w M a l) {k : Nat} (hk : k < l.length) : Kt w M (nth l k).la (nth l k).lk := h.2 _ (mem_nth hk)
theorem Ft.at {l : List LFil} (h : Ft w M a l) {k : Nat} (hk : k < l.length) : Ot w M (nth l k).oa (nth l k).op := (h.2 _ (mem_nth hk)).1
theorem Ft.cap {l : List LFil} (h : Ft w M a l) {k : Nat} (hk : k < l.length) : (nth l k).op.length ≤ (nth l k).oc := (h.2 _ (mem_nth hk)).2
theorem nth_take {α : Type} [Inhabited α] {l : List α} {i k : Nat} (h : i < k) : nth (l.take k) i = nth l i := by
  simp only [nth, List.getD_eq_getElem?_getD, List.getElem?_take, if_pos h]
theorem Ot.take {l : List LOpn} (h : Ot w M a l) (k : Nat) : Ot w M a (l.take k) := by
  refine ⟨⟨fun hn => ?_⟩, fun o ho => h.2 o (List.mem_of_mem_take ho)⟩
  have hk : (l.take k).length ≤ l.length := by rw [List.length_take]; omega
  obtain ⟨b, o, e, h2⟩ := h.1.at_ (by omega)
  refine ⟨b, o, e, fun i hi => ?_⟩
  rw [nth_take (by rw [List.length_take] at hi; omega)]
  exact h2 i (by omega)
end
/-! ## What owns them -/
def HA.locks (a : Option Addr) (cap : Nat) (l : List Lock) : HA := .own (.slice a l.length cap) 62 3 l.length (l.flatMap Lock.vals)
def HA.opens (a : Option Addr) (cap : Nat) (l : List LOpn) : HA := .row 48 5 LOpn.vals (fun o => .locks o.la o.lc o.lk) a cap l
def HA.files (a : Option Addr) (cap : Nat) (l : List LFil) : HA := .row 77 4 LFil.vals (fun f => .opens f.oa f.oc f.op) a cap l
section
variable {w0 w : World} {M : List Nat} {As As' : List HA} {a : Option Addr} {cap : Nat}
theorem HS.kt {l : List Lock} (h : HS w0 M As w) (hp : Pick As (.locks a cap l) As') : Kt w [] a l := h.rw_own lv3 hp rfl
theorem HS.ot {l : List LOpn} (h : HS w0 M As w) (hp : Pick As (.opens a cap l) As') : Ot w [] a l := by
  have h1 := HS.row_open (h.pick hp)
  refine ⟨h1.rw_own ov5 .here rfl, fun o ho => ?_⟩
  obtain ⟨i, hi, e⟩ := List.getElem_of_mem ho
  have e2 : nth l i = o := nth_eq (by rw [List.getElem?_eq_getElem hi, e])
  have h2 := h1.tail.sub_open hi
  rw [e2] at h2
  exact h2.kt .here
theorem HS.ft {l : List LFil} (h : HS w0 M As w) (hp : Pick As (.files a cap l) As') : Ft w [] a l := by
  have h1 := HS.row_open (h.pick hp)
  refine ⟨h1.rw_own fv4 .here rfl, fun f hf => ?_⟩
  obtain ⟨i, hi, e⟩ := List.getElem_of_mem hf
  have e2 : nth l i = f := nth_eq (by rw [List.getElem?_eq_getElem hi, e])
  have h2 := h1.tail.sub_open hi
  rw [e2] at h2
  exact ⟨h2.ot .here, (HS.row_open h2).own_facts .here |>.2.1⟩
end
theorem HS.rd_beside {w0 w : World} {M : List Nat} {Cs : List HA} {b i tot : Nat} {t : TypeId} {cs : List Value} {v : Value} (h : HS w0 M (.blk b t tot cs :: Cs) w) (hv : cs[i]? = some v) : Rd w (fps Cs) b i v := by
  have h1 := h.rd_blk (Mc := []) .here hv (by simp)
  refine ⟨h1.1, fun hb => ?_, h1.2.2⟩
  obtain ⟨A, hA, hb⟩ := List.mem_flatMap.1 hb
  exact (List.pairwise_cons.1 h.sep).1 A hA b (List.mem_singleton.2 rfl) hb
theorem Rd.next {w w' : World} {M : List Nat} {b o : Nat} {v : Value} {As : List HA} (hr : Rd w M b o v) (hs : HS w M As w') : Rd w' [] b o v := hr.later hs (by simp)
/-! ## Errors -/
def refE (rc sq : Int) : Int := if (0 ≤ rc ∧ rc ≤ 95) ∧ 1 ≤ sq ∧ sq ≤ 65535 then 0 else 2
def openE (ac sh : Int) : Int := if (1 ≤ ac ∧ ac ≤ 7) ∧ 0 ≤ sh ∧ sh ≤ 7 then 0 else 2
def rngE (fr cnt : Int) : Int := if (0 ≤ fr ∧ fr ≤ 2147483647) ∧ 1 ≤ cnt ∧ cnt ≤ 2147483647 - fr then 0 else 2
/-- Some access of the one that the other one does not share. -/
def missN (ac sh : Nat) : Bool := decide (ac % 2 = 1 ∧ sh % 2 = 0) || decide (ac / 2 % 2 = 1 ∧ sh / 2 % 2 = 0) || decide (ac / 4 % 2 = 1 ∧ sh / 4 % 2 = 0)
def cfl (a b : Opn) : Bool := missN a.ac.toNat b.sh.toNat || missN b.ac.toNat a.sh.toNat
theorem cfl_comm (a b : Opn) : cfl a b = cfl b a := Bool.or_comm ..
def ovl (a b : Lock) : Bool := decide (a.fr < b.fr + b.cnt) && decide (b.fr < a.fr + a.cnt)
def clsh (a b : Lock) : Bool := ovl a b && (a.ex || b.ex)
theorem ovl_comm (a b : Lock) : ovl a b = ovl b a := Bool.and_comm ..
theorem clsh_comm (a b : Lock) : clsh a b = clsh b a := by rw [clsh, clsh, ovl_comm, Bool.or_comm]
def refLt (a b : Int × Int) : Bool := decide (a.1 < b.1) || decide (a.1 = b.1) && decide (a.2 < b.2)
/-- The first error of items, with its index. -/
def eachF : List Int → Nat → Int × Int
  | [], _ => (0, 0)
  | e :: es, k => if e = 0 then eachF es (k + 1) else ((k : Int), e)
theorem eachF_drop {es : List Int} {k : Nat} (h : k < es.length) : eachF (es.drop k) k = if es.getD k 0 = 0 then eachF (es.drop (k + 1)) (k + 1) else ((k : Int), es.getD k 0) := by
  rw [List.drop_eq_getElem_cons h, eachF, List.getD_eq_getElem?_getD, List.getElem?_eq_getElem h]
  rfl
theorem eachF_end {es : List Int} {k : Nat} (h : es.length ≤ k) : eachF (es.drop k) k = (0, 0) := by rw [List.drop_of_length_le h]; rfl
theorem eachF_0 : ∀ {es : List Int} {k : Nat}, (eachF es k).2 = 0 ↔ ∀ e ∈ es, e = 0
  | [], _ => by simp [eachF]
  | e :: es, k => by
    unfold eachF
    split
    · rename_i h
      rw [eachF_0]
      simp [h]
    · rename_i h
      simp [h]
/-- Which locks of a handle clash with those before. -/
def lockedE : List Lock → List Lock → Int
  | _, [] => 0
  | held, k :: ks => if held.any (clsh · k) then 29 else lockedE (held ++ [k]) ks
def rngsE (l : List Lock) : Int := (eachF (l.map fun k => rngE k.fr k.cnt) 0).2
/-- The error of handle k of a file, beside the numbers that are known. -/
def hdlE (next : Int) (known : List Int) (ops : List Opn) (k : Nat) : Int :=
  let x := nth ops k
  if 1 ≤ x.hd ∧ x.hd ≤ next - 1 then
    if openE x.ac x.sh = 0 then
      if k = 0 ∨ (nth ops (k - 1)).hd < x.hd then
        if x.lk.length ≤ 16 then
          if rngsE x.lk = 0 then
            if x.hd ∈ known then 23
            else if (ops.take k).any (cfl x) then 28
            else lockedE ((ops.take k).flatMap Opn.lk) x.lk
          else rngsE x.lk
        else 8
      else 9
    else openE x.ac x.sh
  else 2
def hdlsE (next : Int) (known : List Int) (ops : List Opn) : Int := (eachF ((List.range ops.length).map (hdlE next known ops)) 0).2
def hds (L : List Fil) : List Int := L.flatMap fun f => f.op.map Opn.hd
/-- The error of file i of a table. -/
def filE (next : Int) (L : List Fil) (i : Nat) : Int :=
  let f := nth L i
  if refE f.rc f.sq = 0 then
    if i = 0 ∨ refLt ((nth L (i - 1)).rc, (nth L (i - 1)).sq) (f.rc, f.sq) = true then
      if 0 < f.op.length then hdlsE next (hds (L.take i)) f.op else 17
    else 9
  else refE f.rc f.sq
def cntT (L : List Fil) : Nat := (L.map fun f => f.op.length).sum
def chkT (next : Int) (L : List Fil) : Int × Int :=
  if 1 ≤ next ∧ next ≤ 2147483647 then
    if L.length ≤ 32 ∧ cntT L ≤ 32 then eachF ((List.range L.length).map (filE next L)) 0 else (0, 8)
  else (0, 2)
end Gx
