/- Contracts of the program's functions, proved by walking them with the rules of the Gx texts; without conditions beyond those that each contract names. -/
import Derived.WalkKit
import Derived.Deep.Draws
import Derived.TacticsIn
import Derived.OrdersIn
import Derived.RangeFuncLeaves
import Derived.Lib.Strings
import Derived.Laws.BytesArg
import Derived.Laws.IdiomStrings
import Derived.Deep.Quiet
import Derived.ProofKit
import Derived.OpenShut
import Derived.Laws.StructEq
import Derived.ChangeKeysEq
import Derived.Laws.Externs
import Derived.Lib.Overlaps
import Derived.Carry
import Derived.Laws.Small
import Derived.Lib.Bytealg
import Derived.Test.YtfappgmkbnddiaaGreatProg
import Derived.KernelRfl
import Derived.Lib.Builder
import Derived.Laws.Pointers
import Derived.RangeFuncRecord
import Derived.Test.YtfappgmkbnddiaaGreatP3
/- Chapter 12: the reference's acts on nodes: a new node, a split, an entry inserted. Plain data. -/
namespace Gx
set_option linter.unusedSimpArgs false
set_option linter.unusedVariables false
set_option linter.unusedSectionVars false
open Go Go.RowKit
abbrev LNd.fre : LNd := ⟨true, none, 0, [], none, 0, []⟩
section
variable {w0 w : World} {M : List Nat} {As A1 A2 A3 : List HA} {et : Nat} {L : List LNd} {i j gn cap nt' : Nat}
theorem HS.node_fre (hi : i < L.length) (h : HS w0 M As w)
    (hp : Pick As (.blk gn nt' (cap * 3) (setMany (L.flatMap LNd.vals) (i * 3) [.bool true, .slice none 0 0, .slice none 0 0])) A1) (hp3 : Pick A1 (.star (L.map (subN et))) A3) :
    ∃ L', NdSet L L' i LNd.fre ∧ HS w0 M (.blk gn nt' (cap * 3) (L'.flatMap LNd.vals) :: .star (L'.map (subN et)) :: A3) w := by
  refine ⟨_, ⟨hi, rfl⟩, ?_⟩
  rw [← node_set3 hi]
  have h1 := (((h.pick hp).node_out hi (.there hp3)).tail.tail.own_nil 3 1).own_nil et 2
  exact (HS.node_in hi LNd.fre h1).perm (List.Perm.swap ..)
end
section
variable {w0 w : World} {M : List Nat} {As A1 A2 A3 : List HA} {et : Nat} {L : List LNd} {i gn cap nt' : Nat}
theorem HS.es_setN (hi : i < L.length) {ea : Option Addr} {ec n : Nat} {es : List TEnt} {xs : List Value} (hn : n = es.length) (hx : xs = es.flatMap TEnt.vals) (h : HS w0 M As w) (hp : Pick As (.blk gn nt' (cap * 3) (setMany (L.flatMap LNd.vals) (i * 3 + 1) [.slice ea n ec])) A1) (hp2 : Pick A1 (.own (.slice ea n ec) et 2 n xs) A2) (hp3 : Pick A2 (.star (L.map (subN et))) A3) :
    ∃ L', NdSet L L' i { nth L i with ea := ea, ec := ec, es := es } ∧ HS w0 M (.blk gn nt' (cap * 3) (L'.flatMap LNd.vals) :: .star (L'.map (subN et)) :: A3) w := by
  subst hn hx
  exact HS.es_set hi h hp hp2 hp3
theorem HS.cs_setN (hi : i < L.length) {ca : Option Addr} {cc n : Nat} {cs : List Int} {xs : List Value} (hn : n = cs.length) (hx : xs = cs.flatMap inV) (h : HS w0 M As w) (hp : Pick As (.blk gn nt' (cap * 3) (setMany (L.flatMap LNd.vals) (i * 3 + 2) [.slice ca n cc])) A1) (hp2 : Pick A1 (.own (.slice ca n cc) 3 1 n xs) A2) (hp3 : Pick A2 (.star (L.map (subN et))) A3) :
    ∃ L', NdSet L L' i { nth L i with ca := ca, cc := cc, cs := cs } ∧ HS w0 M (.blk gn nt' (cap * 3) (L'.flatMap LNd.vals) :: .star (L'.map (subN et)) :: A3) w := by
  subst hn hx
  exact HS.cs_set hi h hp hp2 hp3
end
theorem cs_rowE {w : World} {n m : LNd} (he : n.ca = m.ca ∧ n.cc = m.cc ∧ n.cs = m.cs) (h : Rw inV 1 w [] n.ca n.cs) : Rw inV 1 w [] m.ca m.cs := by
  rw [← he.1, ← he.2.2]
  exact h
/-- The first node behind the root that is not used. -/
def frsI (ns : List Nd) : Nat → Nat → Nat
  | 0, i => i
  | f + 1, i => if i < ns.length then if (nth ns i).us = true then frsI ns f (i + 1) else i else i
def frsX (ns : List Nd) : Nat := frsI ns ns.length 1
def frsN (ns : List Nd) : Nat × List Nd := if frsX ns < ns.length then (frsX ns, ns.set (frsX ns) ⟨true, [], []⟩) else (ns.length, ns ++ [⟨true, [], []⟩])
theorem frsI_ge (ns : List Nd) : ∀ f i, i ≤ frsI ns f i
  | 0, i => Nat.le_refl _
  | f + 1, i => by
    rw [frsI]
    split
    · split
      · exact Nat.le_of_succ_le (frsI_ge ns f (i + 1))
      · exact Nat.le_refl _
    · exact Nat.le_refl _
theorem frsN_ge {ns : List Nd} (h0 : 0 < ns.length) : 1 ≤ (frsN ns).1 := by
  unfold frsN
  split
  · exact frsI_ge ns _ 1
  · exact h0
theorem frsN_lt (ns : List Nd) : (frsN ns).1 < (frsN ns).2.length := by
  unfold frsN
  split
  · simpa using ‹_›
  · simp
theorem frsN_len (ns : List Nd) : ns.length ≤ (frsN ns).2.length ∧ (frsN ns).2.length ≤ ns.length + 1 := by
  unfold frsN
  split
  · simp
  · simp
theorem frsI_us (ns : List Nd) : ∀ f i, frsI ns f i < ns.length → ns.length < i + f → (nth ns (frsI ns f i)).us = false
  | 0, i, h, hf => by
    rw [frsI] at h
    omega
  | f + 1, i, h, hf => by
    rw [frsI] at h ⊢
    split
    · rename_i h1
      rw [if_pos h1] at h
      split
      · rename_i h2
        rw [if_pos h2] at h
        exact frsI_us ns f (i + 1) h (by omega)
      · rename_i h2
        simpa using h2
    · rename_i h1
      rw [if_neg h1] at h
      omega
theorem frsN_ne {ns : List Nd} {i : Nat} (hi : i < ns.length) (hu : (nth ns i).us = true) : (frsN ns).1 ≠ i := by
  unfold frsN
  split
  · rename_i h
    intro e
    have h2 := frsI_us ns ns.length 1 h (by omega)
    rw [show frsI ns ns.length 1 = i from e, hu] at h2
    cases h2
  · simp only []
    omega
theorem frsN_nth {ns : List Nd} {i : Nat} (hi : i < ns.length) (hne : (frsN ns).1 ≠ i) : nth (frsN ns).2 i = nth ns i := by
  unfold frsN at hne ⊢
  split
  · rename_i h
    rw [if_pos h] at hne
    rw [nth_set_nd, if_neg (fun e => hne e.1)]
  · apply nth_eq
    simp only []
    rw [List.getElem?_append_left hi]
    exact nth_get hi
/-- Where a child is in its parent. -/
def ixR (cs : List Int) (c : Int) : Nat := if ixB (hasC cs c) < cs.length then ixB (hasC cs c) else 0
/-- A node split below its parent, as the reference does it. -/
def splRA (mo : Int) (ns : List Nd) (i : Nat) : List Nd :=
  let F := (frsN ns).2; let o := (frsN ns).1; let x := nth F i
  let n := esN (esN F o (x.es.drop (splM mo + 1))) i (x.es.take (splM mo))
  if x.cs.length = 0 then n else csN (csN n o (x.cs.drop (splM mo + 1))) i (x.cs.take (splM mo + 1))
def splR (mo : Int) (ns : List Nd) (p i : Nat) : List Nd := addP (splRA mo ns i) p (ixR (nth (splRA mo ns i) p).cs (i : Int)) (nth (nth (frsN ns).2 i).es (splM mo)) (frsN ns).1
def lowR (ns : List Nd) : Nat × List Nd := ((frsN ns).1, csN (esN (csN (esN (frsN ns).2 (frsN ns).1 (nth (frsN ns).2 0).es) (frsN ns).1 (nth (frsN ns).2 0).cs) 0 []) 0 [((frsN ns).1 : Int)])
/-- Along a way: node k and its parent k - 1. -/
def grwRW (mo : Int) (P : List Nat) : Nat → List Nd → List Nd
  | 0, ns => ns
  | k + 1, ns => grwRW mo P k (if mo < ((nth ns (nth P (k + 1))).es.length : Int) then splR mo ns (nth P k) (nth P (k + 1)) else ns)
def grwRR (mo rm : Int) (ns : List Nd) : List Nd := if rm < ((nth ns 0).es.length : Int) then if mo < ((nth (lowR ns).2 (lowR ns).1).es.length : Int) then splR mo (lowR ns).2 0 (lowR ns).1 else (lowR ns).2 else ns
def insR (co mo rm : Int) (ns : List Nd) (x : TEnt) : List Nd :=
  let P := (pathN co ns x.key).1; let lf := lastN P
  grwRR mo rm (grwRW mo P (P.length - 1) (esN ns lf (insAt (nth ns lf).es (plc co (nth ns lf).es x.key) x)))
structure SpROk (mo : Int) (ns : List Nd) (p i : Nat) : Prop where
  mo0 : 0 ≤ mo ∧ mo ≤ 1000
  len : ns.length ≤ 900
  sm : Sm 900 ns
  lt : i < ns.length
  us : (nth ns i).us = true
  es : splM mo < (nth ns i).es.length
  cs : (nth ns i).cs.length = 0 ∨ splM mo + 1 ≤ (nth ns i).cs.length
  par : p < ns.length
  parE : ixR (nth (splRA mo ns i) p).cs (i : Int) ≤ (nth (splRA mo ns i) p).es.length
  parC : ixR (nth (splRA mo ns i) p).cs (i : Int) + 1 ≤ (nth (splRA mo ns i) p).cs.length
def GrwROk (mo : Int) (P : List Nat) : Nat → List Nd → Prop
  | 0, _ => True
  | k + 1, ns => (nth P (k + 1) < ns.length ∧ (mo < ((nth ns (nth P (k + 1))).es.length : Int) → SpROk mo ns (nth P k) (nth P (k + 1)))) ∧ GrwROk mo P k (if mo < ((nth ns (nth P (k + 1))).es.length : Int) then splR mo ns (nth P k) (nth P (k + 1)) else ns)
structure RootROk (mo rm : Int) (ns : List Nd) : Prop where
  lt : 0 < ns.length
  len : ns.length ≤ 900
  us : (nth ns 0).us = true
  spl : rm < ((nth ns 0).es.length : Int) → mo < ((nth (lowR ns).2 (lowR ns).1).es.length : Int) → SpROk mo (lowR ns).2 0 (lowR ns).1
structure InsROk (co mo rm : Int) (ns : List Nd) (x : TEnt) : Prop where
  ne : 0 < (pathN co ns x.key).1.length
  len : (pathN co ns x.key).1.length ≤ 900
  lf : lastN (pathN co ns x.key).1 < ns.length
  grw : GrwROk mo (pathN co ns x.key).1 ((pathN co ns x.key).1.length - 1) (esN ns (lastN (pathN co ns x.key).1) (insAt (nth ns (lastN (pathN co ns x.key).1)).es (plc co (nth ns (lastN (pathN co ns x.key).1)).es x.key) x))
  root : RootROk mo rm (grwRW mo (pathN co ns x.key).1 ((pathN co ns x.key).1.length - 1) (esN ns (lastN (pathN co ns x.key).1) (insAt (nth ns (lastN (pathN co ns x.key).1)).es (plc co (nth ns (lastN (pathN co ns x.key).1)).es x.key) x)))
theorem Sm.frs {m : Nat} {ns : List Nd} (h : Sm m ns) : Sm m (frsN ns).2 := by
  unfold frsN
  split
  · exact h.set _ _ ⟨Nat.zero_le _, Nat.zero_le _⟩
  · exact h.app _ ⟨Nat.zero_le _, Nat.zero_le _⟩
theorem Sm.splRA {m : Nat} {ns : List Nd} (h : Sm m ns) (mo : Int) (i : Nat) : Sm m (splRA mo ns i) := by
  have h1 := h.frs
  have e1 := (h1 i).1
  have e2 := (h1 i).2
  have h2 := (h1.es (frsN ns).1 (es := (nth (frsN ns).2 i).es.drop (splM mo + 1)) (by rw [List.length_drop]; omega)).es i (es := (nth (frsN ns).2 i).es.take (splM mo)) (by rw [List.length_take]; omega)
  unfold Gx.splRA
  simp only []
  split
  · exact h2
  · exact (h2.cs _ (by rw [List.length_drop]; omega)).cs _ (by rw [List.length_take]; omega)
theorem splRA_0 {mo : Int} {ns F : List Nd} {i : Nat} {x : Nd} (hF : (frsN ns).2 = F) (hx : nth F i = x) (h : x.cs.length = 0) : splRA mo ns i = esN (esN F (frsN ns).1 (x.es.drop (splM mo + 1))) i (x.es.take (splM mo)) := by
  subst hF hx
  exact if_pos h
theorem splRA_1 {mo : Int} {ns F : List Nd} {i : Nat} {x : Nd} (hF : (frsN ns).2 = F) (hx : nth F i = x) (h : ¬ x.cs.length = 0) : splRA mo ns i = csN (csN (esN (esN F (frsN ns).1 (x.es.drop (splM mo + 1))) i (x.es.take (splM mo))) (frsN ns).1 (x.cs.drop (splM mo + 1))) i (x.cs.take (splM mo + 1)) := by
  subst hF hx
  exact if_neg h
end Gx

namespace Go.Proofs
open Go Go.RowKit Gx
set_option linter.unusedVariables false
set_option linter.unusedSimpArgs false
attribute [local irreducible] Go.Calls Gx.S Gx.O Gx.D Gx.OpP Gx.OpQ Gx.OpH

theorem fn_61 : isFn Tryz.prog 61 = true := by kernel_rfl


set_option maxRecDepth 20000 in
theorem c20 (w : World) (j : Nat) (mo rm : Int) (a : Option Addr) (cap : Nat) (L : List LNd) (key : List UInt8) (hj : j ≤ 3) (h0 : 0 < L.length) (hB : Bd (pln L)) (hT : TOk (j : Int) (pln L)) (hs : Nt w [] a L) (hk : keyOk (j : Int) key = true) (hkl : key.length ≤ 1000000) : Calls Tryz.prog 20 #[.agg #[.int .i64 (j : Int), .int .i64 mo, .int .i64 rm, .slice a L.length cap], .string (bs key)] w fun en w' => ∃ g : Option Addr × Nat, en = .returned (.tuple #[.slice g.1 (pathN (j : Int) (pln L) key).1.length g.2, .bool (pathN (j : Int) (pln L) key).2.2]) ∧ True ∧ HS w [] [.own (.slice g.1 ((pathN (j : Int) (pln L) key).1).length g.2) 3 1 ((pathN (j : Int) (pln L) key).1).length (((pathN (j : Int) (pln L) key).1).map fun i : Nat => Value.int .i64 (i : Int))] w' := by
  have hK : ∀ i, i < L.length → ∀ y ∈ (nth L i).es, keyOk (j : Int) y.key = true ∧ y.key.length ≤ 1000000 := fun i hi y hy => tok_key hT i (by rw [pln_len]; exact hi) y (by rw [pln_nth hi]; exact hy)
  refine enter (args := [_, _]) Tryz.func20 Tryz.ntmps20 rfl rfl (HS.refl w []) ?_
  refine s_seq ?_
  refine s_region ?_
  refine o_h (h_box rfl rfl) rfl (fun b1 _ => ?_)
  refine oP ?_
  refine oP ?_
  refine o_nil ?_
  refine s_seq ?_
  refine s_region ?_
  refine oP ?_
  refine o_nil ?_
  refine s_seq ?_
  refine s_region ?_
  refine o_h (h_buildSlice (cs := [_]) rfl rfl sl_30 zr_3 rfl rfl rfl) rfl (fun b2 _ => ?_)
  refine oP ?_
  refine o_nil ?_
  refine s_block ?_
  refine s_loopI (α := (Option Addr × Nat) × List Nat × Nat × Nat) [4, 5, 6, 7, 8, 9, 11, 12, 13, 14, 15, 16, 17, 18, 19, 20, 21, 22, 23, 24, 25, 26, 27, 28, 29, 30, 31, 32, 33, 34, 35, 36, 37, 38, 39, 40, 41, 42, 43] (fun x => [(7, .slice x.1.1 (x.2.1 ++ [x.2.2.1]).length x.1.2), (6, .int .i64 (x.2.2.1 : Int))]) (fun x => HS w [] [.own (.slice x.1.1 (x.2.1 ++ [x.2.2.1]).length x.1.2) 3 1 (x.2.1 ++ [x.2.2.1]).length ((x.2.1 ++ [x.2.2.1]).map fun i : Nat => Value.int .i64 (i : Int)), .blk b1 24 4 [.int .i64 (j : Int), .int .i64 mo, .int .i64 rm, .slice a L.length cap]]) (fun x => x.2.2.1 < L.length ∧ x.2.1.length + x.2.2.2 = L.length ∧ Gx.Way (pln L) (x.2.2.1 :: x.2.1.reverse) ∧ (pathN (j : Int) (pln L) key) = (x.2.1 ++ (pthN (j : Int) (pln L) key x.2.2.2 x.2.2.1).1, (pthN (j : Int) (pln L) key x.2.2.2 x.2.2.1).2)) (fun x => x.2.2.2) ((some ⟨b2, 0, none⟩, 1), [], 0, L.length) ⟨h0, by simp, rfl, by rw [pathN, pln_len]; rfl⟩ aSx (fun w h => (HS.own_shut (t := 3) (sz := 1) (n := 1) (cap := 1) (h.pick (A := .blk b2 3 (1 * 1) [.int .i64 0]) aPk) rfl (by decide) (by decide)).ent aEt) (fun ⟨⟨ga, gc⟩, P, i, f⟩ hx => ?_)
  dsimp only
  obtain ⟨hi, hlen, hway, hpath⟩ := hx
  simp only [] at hi hlen hway hpath
  have hwl := way_len hT (by rw [pln_len]; exact h0) hway
  simp only [List.length_cons, List.length_reverse, pln_len] at hwl
  obtain ⟨f, rfl⟩ : ∃ f9, f = f9 + 1 := ⟨f - 1, by omega⟩
  have hni := pln_nth hi
  have hle := hB.len
  rw [pln_len] at hle
  have hes9 := hB.es i (by rw [pln_len]; exact hi)
  have hcs9 := hB.cs i (by rw [pln_len]; exact hi)
  rw [hni] at hes9 hcs9
  have hPl : (P ++ [i]).length = P.length + 1 := by simp
  refine s_block ?_
  refine s_seq ?_
  refine s_region ?_
  refine o_q (q_loadn rfl rfl sz_24 aPk rfl) rfl ?_
  refine oP ?_
  refine oP ?_
  refine o_q (q_call rfl fn_61 rfl (fun w1 h1 => c61 w1 j mo rm a cap L i key hj hi (hs.later h1.nil) (by omega) hes9 (hK i hi) hk hkl)) rfl ?_
  refine oP ?_
  refine oP ?_
  refine oP ?_
  refine oP ?_
  refine oP ?_
  refine o_nil ?_
  refine s_seq ?_
  refine s_seq ?_
  refine s_region ?_
  refine oP ?_
  refine oP ?_
  refine o_or 9 19 28 _ _ rfl
    (by
      intro hg3
      have hs4 := hg3; skip
      refine o_on 19 _ rfl rfl hg3 ?_
      refine o_p (p_fieldAddr rfl rfl fd_24_3 sz_22 rfl) rfl ?_
      refine o_on 19 _ rfl rfl hg3 ?_
      refine o_q (q_load rfl rfl sz_22 aPk rfl) rfl ?_
      refine o_on 19 _ rfl rfl hg3 ?_
      refine oP ?_
      refine o_on 19 _ rfl rfl hg3 ?_
      refine o_p (p_indexAddr rfl rfl rfl sl_22 (i) (by omega) (by omega) (Rw.some hs.1 (by omega))) rfl ?_
      refine o_on 19 _ rfl rfl hg3 ?_
      refine o_p (p_fieldAddr rfl rfl fd_102_2 sz_30 rfl) rfl ?_
      refine o_on 19 _ rfl rfl hg3 ?_
      refine o_q (q_load_old rfl rfl sz_30 ((hs.1.rdj 2 hi rfl))) rfl ?_
      refine o_on 19 _ rfl rfl hg3 ?_
      refine o_p (p_len_slice rfl rfl Tryz.underlying30) rfl ?_
      refine o_on 19 _ rfl rfl hg3 ?_
      refine oP ?_
      refine o_p (p_pickf rfl rfl hg3 rfl) rfl ?_
      refine o_nil ?_
      exact s_joinN 9 28 _ rfl rfl rfl (fun w h => by first | exact h | exact h.ent aEt))
    (by
      intro hg5
      have hs6 := hg5; skip
      refine o_off 19 _ rfl rfl hg5 rfl ?_
      refine o_off 19 _ rfl rfl hg5 rfl ?_
      refine o_off 19 _ rfl rfl hg5 rfl ?_
      refine o_off 19 _ rfl rfl hg5 rfl ?_
      refine o_off 19 _ rfl rfl hg5 rfl ?_
      refine o_off 19 _ rfl rfl hg5 rfl ?_
      refine o_off 19 _ rfl rfl hg5 rfl ?_
      refine o_off 19 _ rfl rfl hg5 rfl ?_
      refine o_p (p_pickt rfl rfl hg5 rfl) rfl ?_
      refine o_nil ?_
      exact s_joinN 9 28 _ rfl rfl rfl (fun w h => by first | exact h | exact h.ent aEt)) ?_
  refine o_nil ?_
  refine s_cond rfl (fun h7 => ?_) (fun h7 => ?_)
  · try simp only [Bool.or_eq_true, decide_eq_true_eq] at h7
    have hst : fnd (j : Int) (nth (pln L) i).es key = true ∨ (nth (pln L) i).cs.length = 0 := by rw [hni]; have hq := h7; first | exact hq | (simp at hq; simpa [LNd.pl] using hq)
    refine s_seq ?_
    refine s_region ?_
    refine oP ?_
    refine oP ?_
    refine oP ?_
    refine oP ?_
    refine o_nil ?_
    exact s_retv (rs := [.tmp 4, .tmp 5]) rfl (.tmp rfl (.tmp rfl (.nil))) (fun w' h' => ⟨(ga, gc), by rw [hpath, pthN_stop hst, hni]; rfl, trivial, by rw [hpath, pthN_stop hst]; exact h'.ent aEt⟩)
  · try simp only [Bool.or_eq_false_iff, decide_eq_false_iff_not] at h7
    have hst : ¬ (fnd (j : Int) (nth (pln L) i).es key = true ∨ (nth (pln L) i).cs.length = 0) := by rw [hni]; have hq := h7; first | exact hq | (simp at hq; simpa [LNd.pl] using hq)
    have hcl : (nth L i).cs.length = (nth L i).es.length + 1 := by rcases hT.shape i (by rw [pln_len]; exact hi) with h9 | h9; exact absurd (.inr h9) hst; rw [hni] at h9; exact h9
    have hple := plc_le (j : Int) key (nth L i).es
    have hpk : plc (j : Int) (nth L i).es key < (nth L i).cs.length := by omega
    have hkid := kid_in hT (by rw [pln_len]; exact hi) (i := i) (k := plc (j : Int) (nth L i).es key) (by rw [hni]; exact hpk)
    rw [hni, pln_len] at hkid
    simp only [LNd.pl] at hkid
    have hway2 := way_kid hway (by rw [pln_len]; exact hi) (k := plc (j : Int) (nth L i).es key) (by rw [hni]; exact hpk) (by rw [hni]; simp only [LNd.pl]; omega)
    rw [hni] at hway2
    simp only [LNd.pl] at hway2
    refine s_skip ?_
    refine s_seq ?_
    refine s_region ?_
    refine o_p (p_fieldAddr rfl rfl fd_24_3 sz_22 rfl) rfl ?_
    refine o_q (q_load rfl rfl sz_22 aPk rfl) rfl ?_
    refine oP ?_
    refine o_p (p_indexAddr rfl rfl rfl sl_22 (i) (by omega) (by omega) (Rw.some hs.1 (by omega))) rfl ?_
    refine o_p (p_fieldAddr rfl rfl fd_102_2 sz_30 rfl) rfl ?_
    refine o_q (q_load_old rfl rfl sz_30 ((hs.1.rdj 2 hi rfl))) rfl ?_
    refine oP ?_
    refine o_p (p_indexAddr rfl rfl rfl sl_30 (plc (j : Int) (nth L i).es key) (by omega) (by omega) (Rw.some (hs.cs hi) (by omega))) rfl ?_
    refine o_q (q_load_old rfl rfl sz_3 (((hs.cs hi).rdj 0 (i := plc (j : Int) (nth L i).es key) hpk rfl))) rfl ?_
    refine oP ?_
    refine o_nil ?_
    refine s_region ?_
    refine oP ?_
    refine oP ?_
    refine o_h (h_buildSlice (cs := [_]) rfl rfl sl_30 zr_3 rfl rfl rfl) rfl (fun b8 _ => ?_)
    refine o_h (h_appendS [_] rfl rfl rfl sl_30 Tryz.underlying30 zr_3 rfl aPk (src_blk aPk) rfl (by intro u hu; simp only [List.mem_cons, List.mem_nil_iff, or_false] at hu; subst hu; rfl) (by omega) (by simp only [maxLen]; omega)) rfl (fun b9 _ => ?_)
    refine oP ?_
    refine o_nil ?_
    refine s_blk ?_
    exact s_backI ((b9.1, b9.2), P ++ [i], ((nth L i).cs.getD (plc (j : Int) (nth L i).es key) 0).toNat, f) (by (try simp only []); omega) ⟨by simp only []; omega, by simp only [List.length_append, List.length_singleton]; omega, by simp only [List.reverse_append, List.reverse_singleton, List.singleton_append]; exact hway2, by simp only []; rw [hpath, pthN_step hst]; simp [hni, LNd.pl]⟩ (by simp only [List.length_append (bs := [((nth L i).cs.getD (plc (j : Int) (nth L i).es key) 0).toNat]), List.length_singleton]; rw [Int.toNat_of_nonneg (by omega)]; exact aSx) (fun w h => by have h2 := h; simp only [List.length_append (bs := [((nth L i).cs.getD (plc (j : Int) (nth L i).es key) 0).toNat]), List.length_singleton, List.map_append (l₂ := [((nth L i).cs.getD (plc (j : Int) (nth L i).es key) 0).toNat]), List.map_cons, List.map_nil]; rw [Int.toNat_of_nonneg (by omega)]; exact h2.ent aEt)

set_option maxRecDepth 20000 in
theorem c100 (w : World) (j : Nat) (mo rm : Int) (a : Option Addr) (cap : Nat) (L : List LNd) (p : Nat) (c : Int) (hp : p < L.length) (hs : Nt w [] a L) (hl : L.length ≤ 1000) (hcl : (nth L p).cs.length ≤ 1000) : Calls Tryz.prog 100 #[.agg #[.int .i64 (j : Int), .int .i64 mo, .int .i64 rm, .slice a L.length cap], .int .i64 (p : Int), .int .i64 c] w fun en w' => en = .returned (.int .i64 (ixR (nth L p).cs c : Int)) ∧ Below w.heap.size w w' := by
  refine enter (args := [_, _, _]) Tryz.func100 Tryz.ntmps100 rfl rfl (HS.refl w []) ?_
  refine s_seq ?_
  refine s_region ?_
  refine o_h (h_box rfl rfl) rfl (fun b1 _ => ?_)
  refine oP ?_
  refine o_nil ?_
  refine s_seq ?_
  refine s_seq ?_
  refine s_region ?_
  refine oP ?_
  refine o_nil ?_
  refine s_block ?_
  refine s_loopI (α := Nat) [6, 7, 8, 9, 10, 11, 12, 13, 14, 15, 16, 17, 18, 19, 20, 21, 22, 23, 24, 25, 26, 27, 28, 29, 30] (fun k => [(7, .int .i64 (k : Int))]) (fun _ => HS w [] [.blk b1 24 4 [.int .i64 (j : Int), .int .i64 mo, .int .i64 rm, .slice a L.length cap]]) (fun k => k ≤ (nth L p).cs.length ∧ ∀ q, q < k → (hasC (nth L p).cs c).getD q false = false) (fun k => (nth L p).cs.length - k) 0 ⟨Nat.zero_le _, fun j h => absurd h (Nat.not_lt_zero j)⟩ aSx (fun w h => h.ent aEt) (fun k hx => ?_)
  obtain ⟨hk1, hk3⟩ := hx
  refine s_seq ?_
  refine s_seq ?_
  refine s_region ?_
  refine oP ?_
  refine o_p (p_fieldAddr rfl rfl fd_24_3 sz_22 rfl) rfl ?_
  refine o_q (q_load rfl rfl sz_22 aPk rfl) rfl ?_
  refine oP ?_
  refine o_p (p_indexAddr rfl rfl rfl sl_22 (p) (by omega) (by omega) (Rw.some hs.1 (by omega))) rfl ?_
  refine o_p (p_fieldAddr rfl rfl fd_102_2 sz_30 rfl) rfl ?_
  refine o_q (q_load_old rfl rfl sz_30 ((hs.1.rdj 2 hp rfl))) rfl ?_
  refine o_p (p_len_slice rfl rfl Tryz.underlying30) rfl ?_
  refine oP ?_
  refine o_nil ?_
  refine s_cond rfl (fun h2 => ?_) (fun h2 => ?_)
  · try simp only [decide_eq_true_eq] at h2
    have hk : k < (nth L p).cs.length := by omega
    refine s_skip ?_
    refine s_seq ?_
    refine s_block ?_
    refine s_seq ?_
    refine s_region ?_
    refine o_p (p_fieldAddr rfl rfl fd_24_3 sz_22 rfl) rfl ?_
    refine o_q (q_load rfl rfl sz_22 aPk rfl) rfl ?_
    refine oP ?_
    refine o_p (p_indexAddr rfl rfl rfl sl_22 (p) (by omega) (by omega) (Rw.some hs.1 (by omega))) rfl ?_
    refine o_p (p_fieldAddr rfl rfl fd_102_2 sz_30 rfl) rfl ?_
    refine o_q (q_load_old rfl rfl sz_30 ((hs.1.rdj 2 hp rfl))) rfl ?_
    refine oP ?_
    refine o_p (p_indexAddr rfl rfl rfl sl_30 (k) (by omega) (by omega) (Rw.some (hs.cs hp) (by omega))) rfl ?_
    refine o_q (q_load_old rfl rfl sz_3 (((hs.cs hp).rdj 0 (by omega) rfl))) rfl ?_
    refine oP ?_
    refine oP ?_
    refine o_nil ?_
    refine s_cond rfl (fun h3 => ?_) (fun h3 => ?_)
    · try simp only [decide_eq_true_eq] at h3
      have hq9 : c = (nth L p).cs.getD k 0 := (h3).symm
      have hix := ixB_eq (l := hasC (nth L p).cs c) (k := k) (by rw [hasC_len]; omega) hk3 (fun h9 => by rw [hasC_get hk]; exact decide_eq_true hq9)
      refine s_seq ?_
      refine s_region ?_
      refine oP ?_
      refine oP ?_
      refine o_nil ?_
      exact s_retv (rs := [.tmp 6]) rfl (.tmp rfl (.nil)) (fun w' h' => ⟨by simp only [retV, ixR]; rw [hix, if_pos hk], h'.below⟩)
    · try simp only [decide_eq_false_iff_not] at h3
      have hq9 : ¬ c = (nth L p).cs.getD k 0 := fun e => h3 e.symm
      refine s_skip ?_
      refine s_blk ?_
      refine s_region ?_
      refine oP ?_
      refine oP ?_
      try (refine o_slot (i64w (by omega) (by omega)) ?_)
      refine oP ?_
      refine o_nil ?_
      exact s_backI (k + 1) (by omega) ⟨by omega, fun q hq => (Nat.lt_or_ge q k).elim (hk3 q) (fun h9 => by obtain rfl : q = k := (by omega); rw [hasC_get hk]; exact decide_eq_false hq9)⟩ aSx (fun w h => h.ent aEt)
  · try simp only [decide_eq_false_iff_not] at h2
    obtain rfl : k = (nth L p).cs.length := by omega
    have hix := ixB_eq (l := hasC (nth L p).cs c) (k := (nth L p).cs.length) (by rw [hasC_len]; omega) hk3 (fun h9 => absurd h9 (by rw [hasC_len]; omega))
    refine s_exit_to rfl ?_
    refine s_seq ?_
    refine s_region ?_
    refine oP ?_
    refine o_nil ?_
    exact s_retv (rs := [.tmp 6]) rfl (.tmp rfl (.nil)) (fun w' h' => ⟨by simp only [retV, ixR]; rw [hix, if_neg (Nat.lt_irrefl _)]; rfl, h'.below⟩)

set_option maxRecDepth 20000 in
theorem c64 (w : World) (bt : Nat) (j : Nat) (mo rm : Int) (gn cap : Nat) (L : List LNd) (hw : HS w (fps [.blk bt 24 4 [.int .i64 (j : Int), .int .i64 mo, .int .i64 rm, .slice (some ⟨gn, 0, none⟩) (L).length cap], .blk gn 102 (cap * 3) ((L).flatMap LNd.vals), .star ((L).map (subN 26))]) [.blk bt 24 4 [.int .i64 (j : Int), .int .i64 mo, .int .i64 rm, .slice (some ⟨gn, 0, none⟩) (L).length cap], .blk gn 102 (cap * 3) ((L).flatMap LNd.vals), .star ((L).map (subN 26))] w) (hnc : L.length ≤ cap) (hcm : cap ≤ maxLen) (h0 : 0 < L.length) (hl : L.length ≤ 1000) : Calls Tryz.prog 64 #[.pointer (some ⟨bt, 0, none⟩)] w fun en w' => ∃ g : (Nat × Nat) × List LNd, en = .returned (.int .i64 ((frsN (pln L)).1 : Int)) ∧ (pln g.2 = (frsN (pln L)).2 ∧ g.2.length ≤ g.1.2 ∧ g.1.2 ≤ maxLen) ∧ HS w (fps [.blk bt 24 4 [.int .i64 (j : Int), .int .i64 mo, .int .i64 rm, .slice (some ⟨gn, 0, none⟩) (L).length cap], .blk gn 102 (cap * 3) ((L).flatMap LNd.vals), .star ((L).map (subN 26))]) [.blk bt 24 4 [.int .i64 (j : Int), .int .i64 mo, .int .i64 rm, .slice (some ⟨g.1.1, 0, none⟩) (g.2).length g.1.2], .blk g.1.1 102 (g.1.2 * 3) ((g.2).flatMap LNd.vals), .star ((g.2).map (subN 26))] w' := by
  have hnl : (pln L).length = L.length := pln_len L
  refine enter (args := [_]) Tryz.func64 Tryz.ntmps64 rfl rfl hw ?_
  refine s_seq ?_
  refine s_region ?_
  refine oP ?_
  refine o_nil ?_
  refine s_seq ?_
  refine s_seq ?_
  refine s_region ?_
  refine oP ?_
  refine o_nil ?_
  refine s_block ?_
  refine s_loopI (α := Nat × Nat) [2, 3, 4, 5, 6, 7, 8, 9, 10, 11, 12, 13, 14, 15, 16, 17, 18, 19, 20, 21, 22, 23, 24, 25, 26, 27, 28, 29] (fun x => [(3, .int .i64 (x.1 : Int))]) (fun _ => HS w (fps [.blk bt 24 4 [.int .i64 (j : Int), .int .i64 mo, .int .i64 rm, .slice (some ⟨gn, 0, none⟩) (L).length cap], .blk gn 102 (cap * 3) ((L).flatMap LNd.vals), .star ((L).map (subN 26))]) [.blk bt 24 4 [.int .i64 (j : Int), .int .i64 mo, .int .i64 rm, .slice (some ⟨gn, 0, none⟩) (L).length cap], .blk gn 102 (cap * 3) ((L).flatMap LNd.vals), .star ((L).map (subN 26))]) (fun x => (1 ≤ x.1 ∧ x.1 ≤ L.length) ∧ x.1 + x.2 = L.length + 1 ∧ frsI (pln L) x.2 x.1 = (frsX (pln L))) (fun x => x.2) (1, L.length) ⟨⟨Nat.le_refl _, h0⟩, by simp only []; omega, by rw [frsX, hnl]⟩ aSx (fun w h => h.ent aEt) (fun ⟨i, f⟩ hx => ?_)
  dsimp only
  obtain ⟨⟨hi1, hi2⟩, hf1, hf2⟩ := hx
  simp only [] at hi1 hi2 hf1 hf2
  obtain ⟨f, rfl⟩ : ∃ f9, f = f9 + 1 := ⟨f - 1, by omega⟩
  rw [frsI] at hf2
  refine s_seq ?_
  refine s_seq ?_
  refine s_region ?_
  refine oP ?_
  refine oP ?_
  refine oP ?_
  refine o_p (p_fieldAddr rfl rfl fd_24_3 sz_22 rfl) rfl ?_
  refine o_q (q_load rfl rfl sz_22 aPk rfl) rfl ?_
  refine o_p (p_len_slice rfl rfl Tryz.underlying22) rfl ?_
  refine oP ?_
  refine o_nil ?_
  refine s_cond rfl (fun h1 => ?_) (fun h1 => ?_)
  · try simp only [decide_eq_true_eq] at h1
    have hil : i < L.length := by omega
    rw [if_pos (by rw [hnl]; exact hil), pln_nth hil] at hf2
    simp only [LNd.pl] at hf2
    refine s_skip ?_
    refine s_seq ?_
    refine s_block ?_
    refine s_seq ?_
    refine s_region ?_
    refine oP ?_
    refine oP ?_
    refine o_p (p_fieldAddr rfl rfl fd_24_3 sz_22 rfl) rfl ?_
    refine o_q (q_load rfl rfl sz_22 aPk rfl) rfl ?_
    refine oP ?_
    refine o_p (p_indexAddr rfl rfl rfl sl_22 (i) (by omega) (by omega) rfl) rfl ?_
    refine o_slot (show _ = Value.pointer (some ⟨gn, i * 3, none⟩) from by rw [Nat.zero_add]) ?_
    refine o_p (p_fieldAddr rfl rfl fd_102_0 sz_4 rfl) rfl ?_
    refine o_q (q_load_at rfl rfl sz_4 (fun w h => HS.nd_cell (i := i) (by omega) h aPk 0 rfl (by decide))) rfl ?_
    refine oP ?_
    refine o_nil ?_
    refine s_cond rfl (fun h2 => ?_) (fun h2 => ?_)
    · try simp only [Bool.not_eq_true'] at h2
      have hus : ¬ (nth L i).us = true := by have hq := h2; simp [hq]
      have hf3 : i = (frsX (pln L)) := by rw [← hf2]; exact (if_neg hus).symm
      have hz : (frsX (pln L)) < (pln L).length := by rw [← hf3, hnl]; exact hil
      refine s_seq ?_
      refine s_region ?_
      refine oP ?_
      refine oP ?_
      refine o_p (p_fieldAddr rfl rfl fd_24_3 sz_22 rfl) rfl ?_
      refine o_q (q_load rfl rfl sz_22 aPk rfl) rfl ?_
      refine oP ?_
      refine o_p (p_build (cs := [_, _, _]) rfl rfl pl_102 zr_102 rfl) rfl ?_
      refine o_p (p_indexAddr rfl rfl rfl sl_22 (i) (by omega) (by omega) rfl) rfl ?_
      refine o_slot (show _ = Value.pointer (some ⟨gn, i * 3, none⟩) from by rw [Nat.zero_add]) ?_
      refine o_h0 (h_store rfl rfl rfl sz_102 rfl aPt (by rw [flat_length nv3]; show _ + 3 ≤ _; omega) rfl) (fun _ _ => ?_)
      refine o_nil ?_
      refine s_seq ?_
      refine s_region ?_
      refine oP ?_
      refine oP ?_
      refine o_nil ?_
      exact s_retv (rs := [.tmp 2]) rfl (.tmp rfl (.nil)) (fun w' h' => by obtain ⟨L9, hS9, hC⟩ := HS.node_fre (i := i) (gn := gn) (cap := cap) hil h' aPk aPk; exact ⟨((gn, cap), L9), by rw [frsN, if_pos hz, ← hf3]; rfl, ⟨by rw [hS9.pl, frsN, if_pos hz, ← hf3]; rfl, by simp only []; rw [hS9.len]; exact hnc, hcm⟩, by simp only []; rw [hS9.len]; exact hC.ent aEt⟩)
    · try simp only [Bool.not_eq_false'] at h2
      have hus : (nth L i).us = true := by have hq := h2; simpa using hq
      have hf4 : frsI (pln L) f (i + 1) = (frsX (pln L)) := by rw [← hf2]; exact (if_pos hus).symm
      refine s_skip ?_
      refine s_blk ?_
      refine s_region ?_
      refine oP ?_
      refine oP ?_
      try (refine o_slot (i64w (by omega) (by omega)) ?_)
      refine oP ?_
      refine o_nil ?_
      exact s_backI (i + 1, f) (by (try simp only []); omega) ⟨⟨by (try simp only []); omega, by (try simp only []); omega⟩, by (try simp only []); omega, hf4⟩ aSx (fun w h => h.ent aEt)
  · try simp only [decide_eq_false_iff_not] at h1
    obtain rfl : i = L.length := by omega
    rw [if_neg (by rw [hnl]; omega)] at hf2
    have hz : ¬ (frsX (pln L)) < (pln L).length := by rw [← hf2, hnl]; omega
    refine s_class (fun w h => (HS.own_shut (n := L.length) (h.ent (Bs := [.blk gn 102 (cap * 3) (L.flatMap LNd.vals), .star (L.map (subN 26)), .blk bt 24 4 [.int .i64 (j : Int), .int .i64 mo, .int .i64 rm, .slice (some ⟨gn, 0, none⟩) L.length cap]]) aEt) (flat_length nv3 L) hnc hcm)) ?_
    refine s_exit_to rfl ?_
    refine s_seq ?_
    refine s_region ?_
    refine oP ?_
    refine oP ?_
    refine oP ?_
    refine o_p (p_fieldAddr rfl rfl fd_24_3 sz_22 rfl) rfl ?_
    refine o_q (q_load rfl rfl sz_22 aPk rfl) rfl ?_
    refine o_p (p_build (cs := [_, _, _]) rfl rfl pl_102 zr_102 rfl) rfl ?_
    refine o_h (h_buildSlice (cs := [_, _, _]) rfl rfl sl_22 zr_102 rfl rfl rfl) rfl (fun b3 _ => ?_)
    refine o_h (h_appendS [_, _, _] rfl rfl rfl sl_22 Tryz.underlying22 zr_102 rfl aPk (src_blk aPk) rfl (by intro u hu; simp only [List.mem_cons, List.mem_nil_iff, or_false] at hu; rcases hu with rfl | rfl | rfl <;> rfl) (by omega) (by simp only [maxLen]; omega)) rfl (fun b4 _ => ?_)
    refine o_fact (fun w h => own_addr (n := L.length + 1) (by omega) h aPk) (fun hgn => ?_)
    obtain ⟨⟨ga, gc⟩, hga⟩ : ∃ q : Option Addr × Nat, b4 = q := ⟨_, rfl⟩
    subst hga
    obtain ⟨g9, e9, hn9, hm9⟩ := hgn
    simp only [] at e9 hn9 hm9
    subst e9
    refine o_class (fun w h => HS.own_at h aPk) ?_
    refine oP ?_
    refine o_p (p_fieldAddr rfl rfl fd_24_3 sz_22 rfl) rfl ?_
    refine o_h0 (h_store rfl rfl rfl sz_22 rfl aPt (by show 4 ≤ 4; omega) rfl) (fun _ _ => ?_)
    refine o_nil ?_
    refine s_seq ?_
    refine s_region ?_
    refine oP ?_
    refine oP ?_
    refine o_p (p_fieldAddr rfl rfl fd_24_3 sz_22 rfl) rfl ?_
    refine o_q (q_load rfl rfl sz_22 aPk rfl) rfl ?_
    refine o_p (p_len_slice rfl rfl Tryz.underlying22) rfl ?_
    refine oP ?_
    try (refine o_slot (i64w (by omega) (by omega)) ?_)
    refine oP ?_
    refine o_nil ?_
    exact s_retv (rs := [.tmp 2]) rfl (.tmp rfl (.nil)) (fun w' h' => ⟨((g9, gc), L ++ [(LNd.fre : LNd)]), by rw [frsN, if_neg hz, hnl]; simp only [retV]; congr 2; omega, ⟨by rw [frsN, if_neg hz, pln_app]; rfl, by simp only [List.length_append, List.length_singleton]; exact hn9, hm9⟩, by have h2 := HS.sub_app (sub := subN 26) (l := L) (x := (LNd.fre : LNd)) (HS.star_close (Bs := [_, _]) (((h'.ent (Bs := [.star (L.map (subN 26)), .blk bt 24 4 [.int .i64 (j : Int), .int .i64 mo, .int .i64 rm, .slice (some ⟨g9, 0, none⟩) (L.length + 1) gc], .blk g9 102 (gc * 3) (L.flatMap LNd.vals ++ [.bool true, .slice none 0 0, .slice none 0 0])]) aEt).own_nil 3 1).own_nil 26 2)); have e8 : (L ++ [(LNd.fre : LNd)]).flatMap LNd.vals = L.flatMap LNd.vals ++ [.bool true, .slice none 0 0, .slice none 0 0] := (by rw [List.flatMap_append]; rfl); have e7 : (L ++ [(LNd.fre : LNd)]).length = L.length + 1 := (by simp); dsimp only; rw [e8, e7]; exact h2.ent aEt⟩)

end Go.Proofs

namespace Go.Proofs
open Go Go.RowKit Gx
set_option linter.unusedVariables false
set_option linter.unusedSimpArgs false
attribute [local irreducible] Go.Calls Gx.S Gx.O Gx.D Gx.OpP Gx.OpQ Gx.OpH

theorem fn_64 : isFn Tryz.prog 64 = true := by kernel_rfl
theorem fn_100 : isFn Tryz.prog 100 = true := by kernel_rfl
theorem fn_62 : isFn Tryz.prog 62 = true := by kernel_rfl
theorem fn_101 : isFn Tryz.prog 101 = true := by kernel_rfl


set_option maxRecDepth 20000 in
set_option maxHeartbeats 300000 in
theorem c63 (w : World) (bt : Nat) (j : Nat) (mo rm : Int) (gn cap : Nat) (L : List LNd) (p i : Nat) (hw : HS w (fps [.blk bt 24 4 [.int .i64 (j : Int), .int .i64 mo, .int .i64 rm, .slice (some ⟨gn, 0, none⟩) (L).length cap], .blk gn 102 (cap * 3) ((L).flatMap LNd.vals), .star ((L).map (subN 26))]) [.blk bt 24 4 [.int .i64 (j : Int), .int .i64 mo, .int .i64 rm, .slice (some ⟨gn, 0, none⟩) (L).length cap], .blk gn 102 (cap * 3) ((L).flatMap LNd.vals), .star ((L).map (subN 26))] w) (hnc : L.length ≤ cap) (hcm : cap ≤ maxLen) (hok : SpROk mo (pln L) p i) : Calls Tryz.prog 63 #[.pointer (some ⟨bt, 0, none⟩), .int .i64 (p : Int), .int .i64 (i : Int)] w fun en w' => ∃ g : (Nat × Nat) × List LNd, en = .returned (.tuple #[]) ∧ (pln g.2 = splR mo (pln L) p i ∧ g.2.length ≤ g.1.2 ∧ g.1.2 ≤ maxLen) ∧ HS w (fps [.blk bt 24 4 [.int .i64 (j : Int), .int .i64 mo, .int .i64 rm, .slice (some ⟨gn, 0, none⟩) (L).length cap], .blk gn 102 (cap * 3) ((L).flatMap LNd.vals), .star ((L).map (subN 26))]) [.blk bt 24 4 [.int .i64 (j : Int), .int .i64 mo, .int .i64 rm, .slice (some ⟨g.1.1, 0, none⟩) (g.2).length g.1.2], .blk g.1.1 102 (g.1.2 * 3) ((g.2).flatMap LNd.vals), .star ((g.2).map (subN 26))] w' := by
  have hlt0 := hok.lt
  have hln0 := hok.len
  have hpl0 := hok.par
  rw [pln_len] at hlt0 hln0 hpl0
  have hmo := hok.mo0
  have hes0 := hok.es
  have hcs0 := hok.cs
  have hne := frsN_ne hok.lt hok.us
  have hfn := frsN_nth hok.lt hne
  have hfl := frsN_lt (pln L)
  have hfl2 := frsN_len (pln L)
  rw [pln_len] at hfl2
  have hparE := hok.parE
  have hparC := hok.parC
  have hsA := hok.sm.splRA mo i
  refine enter (args := [_, _, _]) Tryz.func63 Tryz.ntmps63 rfl rfl hw ?_
  refine s_seq ?_
  refine s_region ?_
  refine oP ?_
  refine o_h (h_callF (Cs := [.blk bt 24 4 [.int .i64 (j : Int), .int .i64 mo, .int .i64 rm, .slice (some ⟨gn, 0, none⟩) (L).length cap], .blk gn 102 (cap * 3) ((L).flatMap LNd.vals), .star ((L).map (subN 26))]) rfl fn_64 rfl aPs (fun w1 h1 hf => c64 w1 bt j mo rm gn cap L hf hnc hcm (by omega) (by omega))) rfl (fun ⟨⟨gn1, cap1⟩, L1⟩ hF1 => ?_)
  dsimp only
  obtain ⟨hL1, hn1, hm1⟩ := hF1
  simp only [] at hL1 hn1 hm1
  have hl1 : L1.length = (frsN (pln L)).2.length := by rw [← hL1, pln_len]
  have hi1 : i < L1.length := by omega
  have ho1 : (frsN (pln L)).1 < L1.length := by omega
  have hN1 : (nth L1 i).pl = nth (pln L) i := by rw [← pln_nth hi1, hL1, hfn]
  have hE1 : (nth L1 i).es = (nth (pln L) i).es := congrArg Nd.es hN1
  have hC1 : (nth L1 i).cs = (nth (pln L) i).cs := congrArg Nd.cs hN1
  have hsm1 : (splM mo) < (nth L1 i).es.length := by rw [hE1]; exact hes0
  have hsE1 := (hok.sm i).1
  rw [← hE1] at hsE1
  have hsC1 := (hok.sm i).2
  rw [← hC1] at hsC1
  rw [← hC1] at hcs0
  have hxF : nth (frsN (pln L)).2 i = (nth L1 i).pl := by rw [hfn, hN1]
  refine oP ?_
  refine o_nil ?_
  refine s_seq ?_
  refine s_region ?_
  refine oP ?_
  refine oP ?_
  refine o_p (p_fieldAddr rfl rfl fd_24_3 sz_22 rfl) rfl ?_
  refine o_q (q_load rfl rfl sz_22 aPk rfl) rfl ?_
  refine oP ?_
  refine o_p (p_indexAddr rfl rfl rfl sl_22 (i) (by omega) (by omega) rfl) rfl ?_
  refine o_slot (show _ = Value.pointer (some ⟨gn1, i * 3, none⟩) from by rw [Nat.zero_add]) ?_
  refine o_q (q_load_atn _ rfl rfl sz_102 rfl (fun w h => HS.nd_cells hi1 h aPk)) rfl ?_
  refine o_h (h_alloc rfl zr_102) rfl (fun b1 _ => ?_)
  refine o_h0 (h_store rfl rfl rfl sz_102 rfl aPt (by simp only [setMany_length, List.length_set, List.length_cons, List.length_nil, List.length_map]; omega) rfl) (fun _ _ => ?_)
  refine o_nil ?_
  refine s_seq ?_
  refine s_region ?_
  refine oP ?_
  refine oP ?_
  refine o_p (p_fieldAddr rfl rfl fd_24_1 sz_3 rfl) rfl ?_
  refine o_q (q_load rfl rfl sz_3 aPk rfl) rfl ?_
  refine oP ?_
  try (refine o_slot (i64w (by omega) (by omega)) ?_)
  refine o_p (p_quo_nn rfl rfl rfl (by omega) (by omega) (by omega)) rfl ?_
  refine o_slot (show _ = Value.int .i64 ((splM mo) : Int) from by unfold splM; congr 1; omega) ?_
  refine oP ?_
  refine o_nil ?_
  refine s_seq ?_
  refine s_region ?_
  refine o_p (p_fieldAddr rfl rfl fd_102_1 sz_77 rfl) rfl ?_
  refine o_q (q_load rfl rfl sz_77 aPk rfl) rfl ?_
  refine o_fact (fun w h => HS.es_some hi1 (by omega) h aPk) fun hge => ?_
  obtain ⟨ge, hge⟩ := hge
  refine o_fact (fun w h => HS.es_room hi1 h aPk) fun hrE => ?_
  refine o_fact (fun w h => HS.cs_room hi1 h aPk) fun hrC => ?_
  refine oP ?_
  refine o_p (p_indexAddr rfl rfl rfl sl_77 ((splM mo)) (by omega) (by omega) hge) rfl ?_
  refine o_q (q_load_atn _ rfl rfl sz_26 rfl (fun w h => HS.es_rd hi1 hsm1 hge h aPk)) rfl ?_
  refine o_h (h_alloc rfl zr_26) rfl (fun b2 _ => ?_)
  refine o_h0 (h_store rfl rfl rfl sz_26 rfl aPt (by simp only [setMany_length, List.length_set, List.length_cons, List.length_nil, List.length_map]; omega) rfl) (fun _ _ => ?_)
  refine o_nil ?_
  refine s_seq ?_
  refine s_drawB [.blk bt 24 4 [.int .i64 (j : Int), .int .i64 mo, .int .i64 rm, .slice (some ⟨gn1, 0, none⟩) L1.length cap1], .blk gn1 102 (cap1 * 3) (L1.flatMap LNd.vals), .star (L1.map (subN 26)), .blk b1 102 3 (LNd.vals (nth L1 i)), .blk b2 26 2 (TEnt.vals (nth (nth L1 i).es (splM mo)))] [14] mixed ?_
  refine dP 0 ?_
  refine dP 1 ?_
  refine d_p 2 rfl (p_fieldAddr rfl rfl fd_24_3 sz_22 rfl) (by kernel_rfl) rfl rfl ?_
  refine d_q 3 [[]] rfl (q_load rfl rfl sz_22 aPk rfl) (by kernel_rfl) (by kernel_rfl) (by kernel_rfl) rfl ?_
  refine dP 4 ?_
  refine d_p 6 rfl (p_fieldAddr rfl rfl fd_102_1 sz_77 rfl) (by kernel_rfl) rfl rfl ?_
  refine d_q 7 [[]] rfl (q_load rfl rfl sz_77 aPk rfl) (by kernel_rfl) (by kernel_rfl) (by kernel_rfl) rfl ?_
  refine dP 8 ?_
  refine dP 9 ?_
  try (refine d_slot (i64w (by omega) (by omega)) ?_)
  refine d_p 10 rfl (p_slice _ _ ((splM mo) + 1) ((nth L1 i).es.length) rfl rfl sl_77 ⟨_, _, rfl, (by omega)⟩ rfl (by omega) (by omega)) (by kernel_rfl) rfl rfl ?_
  refine d_h 5 rfl (h_buildSlice0 rfl sl_77) (by kernel_rfl) (fun w h => h.ent aEt) rfl (fun b3 _ => ?_)
  refine d_h 11 rfl (h_appendS (((nth L1 i).es.drop ((splM mo) + 1)).flatMap TEnt.vals) rfl rfl rfl sl_77 Tryz.underlying77 zr_26 rfl aPk (fun w h => Rw.src ev2 (Rw.cut (HS.es_row hi1 h aPk) hrE.1) (HS.refl _ [])) (by rw [flat_length ev2, List.length_drop]) (flat_one ev1 _) (by omega) (by simp only [maxLen]; omega)) (by kernel_rfl) (fun w h => h.ent aEt) rfl (fun b4 _ => ?_)
  refine d_p 12 rfl (p_indexAddr rfl rfl rfl sl_22 ((frsN (pln L)).1) (by omega) (by omega) rfl) (by kernel_rfl) rfl rfl ?_
  refine d_slot (show _ = Value.pointer (some ⟨gn1, (frsN (pln L)).1 * 3, none⟩) from by rw [Nat.zero_add]) ?_
  refine d_p 13 rfl (p_fieldAddr rfl rfl fd_102_1 sz_77 rfl) (by kernel_rfl) rfl rfl ?_
  refine d_h0 14 rfl (h_store rfl rfl rfl sz_77 rfl aPt (by rw [flat_length nv3]; show _ + 1 ≤ _; omega) rfl) (by kernel_rfl) (fun w h => h.ent aEt) (fun _ _ => ?_)
  refine d_turn [] (by kernel_rfl) ?_
  refine d_nil (by kernel_rfl) (fun w h => by first | exact h | exact h.ent aEt) ?_
  refine s_seq ?_
  refine s_weaken (L' := [(0, _), (1, _), (2, _), (6, _), (7, _), (8, _), (9, _)]) aSx (fun _ h => h) ?_
  refine s_ex (fun w h => HS.es_setN (gn := gn1) (cap := cap1) (ea := b4.1) (ec := b4.2) (es := (nth L1 i).es.drop ((splM mo) + 1)) (n := 0 + ((nth L1 i).es.length - ((splM mo) + 1))) (xs := [] ++ ((nth L1 i).es.drop ((splM mo) + 1)).flatMap TEnt.vals) ho1 (by rw [List.length_drop, Nat.zero_add]) (by rw [List.nil_append]) h aPk aPk aPk) fun L2 => ?_
  refine s_fact (fun w h => h.1) fun hS2 => ?_
  refine s_class (fun w h => h.2) ?_
  have hi2 : i < L2.length := by rw [hS2.len]; exact hi1
  have hN2 : nth L2 i = nth L1 i := hS2.other hi1 hne
  refine s_drawB [.blk bt 24 4 [.int .i64 (j : Int), .int .i64 mo, .int .i64 rm, .slice (some ⟨gn1, 0, none⟩) L1.length cap1], .blk gn1 102 (cap1 * 3) (L2.flatMap LNd.vals), .star (L2.map (subN 26)), .blk b1 102 3 (LNd.vals (nth L1 i)), .blk b2 26 2 (TEnt.vals (nth (nth L1 i).es (splM mo)))] [13] mixed ?_
  refine dP 0 ?_
  refine dP 1 ?_
  refine d_p 2 rfl (p_fieldAddr rfl rfl fd_24_3 sz_22 rfl) (by kernel_rfl) rfl rfl ?_
  refine d_q 3 [[]] rfl (q_load rfl rfl sz_22 aPk rfl) (by kernel_rfl) (by kernel_rfl) (by kernel_rfl) rfl ?_
  refine dP 4 ?_
  refine d_p 6 rfl (p_fieldAddr rfl rfl fd_102_1 sz_77 rfl) (by kernel_rfl) rfl rfl ?_
  refine d_q 7 [[]] rfl (q_load rfl rfl sz_77 aPk rfl) (by kernel_rfl) (by kernel_rfl) (by kernel_rfl) rfl ?_
  refine dP 8 ?_
  refine d_p 9 rfl (p_slice _ _ 0 (splM mo) rfl rfl sl_77 rfl ⟨_, _, rfl, rfl⟩ (by omega) (by omega)) (by kernel_rfl) rfl rfl ?_
  refine d_h 5 rfl (h_buildSlice0 rfl sl_77) (by kernel_rfl) (fun w h => h.ent aEt) rfl (fun b5 _ => ?_)
  refine d_h 10 rfl (h_appendS (((nth L1 i).es.take (splM mo)).flatMap TEnt.vals) rfl rfl rfl sl_77 Tryz.underlying77 zr_26 rfl aPk (fun w h => Rw.src ev2 (rw_take (Rw.cut (i := 0) (hN2 ▸ HS.es_row hi2 h aPk) hrE.1) (splM mo)) (HS.refl _ [])) (by rw [flat_length ev2, List.length_take]; omega) (flat_one ev1 _) (by omega) (by simp only [maxLen]; omega)) (by kernel_rfl) (fun w h => h.ent aEt) rfl (fun b6 _ => ?_)
  refine d_p 11 rfl (p_indexAddr rfl rfl rfl sl_22 (i) (by omega) (by omega) rfl) (by kernel_rfl) rfl rfl ?_
  refine d_slot (show _ = Value.pointer (some ⟨gn1, i * 3, none⟩) from by rw [Nat.zero_add]) ?_
  refine d_p 12 rfl (p_fieldAddr rfl rfl fd_102_1 sz_77 rfl) (by kernel_rfl) rfl rfl ?_
  refine d_h0 13 rfl (h_store rfl rfl rfl sz_77 rfl aPt (by rw [flat_length nv3]; show _ + 1 ≤ _; omega) rfl) (by kernel_rfl) (fun w h => h.ent aEt) (fun _ _ => ?_)
  refine d_turn [] (by kernel_rfl) ?_
  refine d_nil (by kernel_rfl) (fun w h => by first | exact h | exact h.ent aEt) ?_
  refine s_seq ?_
  refine s_seq ?_
  refine s_region ?_
  refine o_p (p_fieldAddr rfl rfl fd_102_2 sz_30 rfl) rfl ?_
  refine o_ex (fun w h => HS.es_setN (gn := gn1) (cap := cap1) (ea := b6.1) (ec := b6.2) (es := (nth L1 i).es.take (splM mo)) (n := 0 + ((splM mo) - 0)) (xs := [] ++ ((nth L1 i).es.take (splM mo)).flatMap TEnt.vals) hi2 (by rw [List.length_take]; omega) (by rw [List.nil_append]) h aPk aPk aPk) fun L3 => ?_
  refine o_fact (fun w h => h.1) fun hS3 => ?_
  refine o_class (fun w h => h.2) ?_
  have hi3 : i < L3.length := by rw [hS3.len]; exact hi2
  have ho3 : (frsN (pln L)).1 < L3.length := by rw [hS3.len, hS2.len]; exact ho1
  have hcr3 : (nth L3 i).ca = (nth L1 i).ca ∧ (nth L3 i).cc = (nth L1 i).cc ∧ (nth L3 i).cs = (nth L1 i).cs := by rw [hS3.at_, hN2]; exact ⟨rfl, rfl, rfl⟩
  refine o_q (q_load rfl rfl sz_30 aPk rfl) rfl ?_
  refine o_p (p_len_slice rfl rfl Tryz.underlying30) rfl ?_
  refine oP ?_
  refine o_nil ?_
  refine s_weaken (L' := [(0, _), (1, _), (2, _), (6, _), (7, _), (8, _), (9, _), (61, _)]) aSx (fun _ h => h) ?_
  refine s_cutI (α := List LNd) [62, 63, 64, 65, 66, 67, 68, 69, 70, 71, 72, 73, 74, 75, 76, 77, 78, 79, 80, 81, 82, 83, 84, 85, 86, 87, 88, 89] (fun _ => []) (fun x => HS w (fps [.blk bt 24 4 [.int .i64 (j : Int), .int .i64 mo, .int .i64 rm, .slice (some ⟨gn, 0, none⟩) (L).length cap], .blk gn 102 (cap * 3) ((L).flatMap LNd.vals), .star ((L).map (subN 26))]) [.blk bt 24 4 [.int .i64 (j : Int), .int .i64 mo, .int .i64 rm, .slice (some ⟨gn1, 0, none⟩) (x).length cap1], .blk gn1 102 (cap1 * 3) ((x).flatMap LNd.vals), .star ((x).map (subN 26)), .blk b2 26 2 (TEnt.vals (nth (nth L1 i).es (splM mo)))]) (fun x => pln x = (splRA mo (pln L) i) ∧ x.length = L1.length) ?_ ?_
  · skip
    refine s_cond rfl (fun h7 => ?_) (fun h7 => ?_)
    · try simp only [decide_eq_true_eq] at h7
      have hcz : (nth L1 i).cs.length ≠ 0 := by have hq := h7; omega
      have hsm4 : (splM mo) + 1 ≤ (nth L1 i).cs.length := by omega
      refine s_seq ?_
      refine s_drawB [.blk bt 24 4 [.int .i64 (j : Int), .int .i64 mo, .int .i64 rm, .slice (some ⟨gn1, 0, none⟩) L1.length cap1], .blk gn1 102 (cap1 * 3) (L3.flatMap LNd.vals), .star (L3.map (subN 26)), .blk b1 102 3 (LNd.vals (nth L1 i)), .blk b2 26 2 (TEnt.vals (nth (nth L1 i).es (splM mo)))] [14] mixed ?_
      refine dP 0 ?_
      refine dP 1 ?_
      refine d_p 2 rfl (p_fieldAddr rfl rfl fd_24_3 sz_22 rfl) (by kernel_rfl) rfl rfl ?_
      refine d_q 3 [[]] rfl (q_load rfl rfl sz_22 aPk rfl) (by kernel_rfl) (by kernel_rfl) (by kernel_rfl) rfl ?_
      refine dP 4 ?_
      refine d_p 6 rfl (p_fieldAddr rfl rfl fd_102_2 sz_30 rfl) (by kernel_rfl) rfl rfl ?_
      refine d_q 7 [[]] rfl (q_load rfl rfl sz_30 aPk rfl) (by kernel_rfl) (by kernel_rfl) (by kernel_rfl) rfl ?_
      refine dP 8 ?_
      refine dP 9 ?_
      try (refine d_slot (i64w (by omega) (by omega)) ?_)
      refine d_p 10 rfl (p_slice _ _ ((splM mo) + 1) ((nth L1 i).cs.length) rfl rfl sl_30 ⟨_, _, rfl, (by omega)⟩ rfl (by omega) (by omega)) (by kernel_rfl) rfl rfl ?_
      refine d_h 5 rfl (h_buildSlice0 rfl sl_30) (by kernel_rfl) (fun w h => h.ent aEt) rfl (fun b8 _ => ?_)
      refine d_h 11 rfl (h_appendS (((nth L1 i).cs.drop ((splM mo) + 1)).flatMap inV) rfl rfl rfl sl_30 Tryz.underlying30 zr_3 rfl aPk (fun w h => Rw.src iv1 (Rw.cut (cs_rowE hcr3 (HS.cs_row hi3 h aPk)) hrC.1) (HS.refl _ [])) (by rw [flat_length iv1, List.length_drop]) (flat_one iv1c _) (by omega) (by simp only [maxLen]; omega)) (by kernel_rfl) (fun w h => h.ent aEt) rfl (fun b9 _ => ?_)
      refine d_p 12 rfl (p_indexAddr rfl rfl rfl sl_22 ((frsN (pln L)).1) (by omega) (by omega) rfl) (by kernel_rfl) rfl rfl ?_
      refine d_slot (show _ = Value.pointer (some ⟨gn1, (frsN (pln L)).1 * 3, none⟩) from by rw [Nat.zero_add]) ?_
      refine d_p 13 rfl (p_fieldAddr rfl rfl fd_102_2 sz_30 rfl) (by kernel_rfl) rfl rfl ?_
      refine d_h0 14 rfl (h_store rfl rfl rfl sz_30 rfl aPt (by rw [flat_length nv3]; show _ + 1 ≤ _; omega) rfl) (by kernel_rfl) (fun w h => h.ent aEt) (fun _ _ => ?_)
      refine d_turn [] (by kernel_rfl) ?_
      refine d_nil (by kernel_rfl) (fun w h => by first | exact h | exact h.ent aEt) ?_
      refine s_ex (fun w h => HS.cs_setN (gn := gn1) (cap := cap1) (ca := b9.1) (cc := b9.2) (cs := (nth L1 i).cs.drop ((splM mo) + 1)) (n := 0 + ((nth L1 i).cs.length - ((splM mo) + 1))) (xs := [] ++ ((nth L1 i).cs.drop ((splM mo) + 1)).flatMap inV) ho3 (by rw [List.length_drop, Nat.zero_add]) (by rw [List.nil_append]) h aPk aPk aPk) fun L4 => ?_
      refine s_fact (fun w h => h.1) fun hS4 => ?_
      refine s_class (fun w h => h.2) ?_
      have hi4 : i < L4.length := by rw [hS4.len]; exact hi3
      have hN4 : nth L4 i = nth L3 i := hS4.other hi3 hne
      have hcr4 : (nth L4 i).ca = (nth L1 i).ca ∧ (nth L4 i).cc = (nth L1 i).cc ∧ (nth L4 i).cs = (nth L1 i).cs := by rw [hN4]; exact hcr3
      refine s_drawB [.blk bt 24 4 [.int .i64 (j : Int), .int .i64 mo, .int .i64 rm, .slice (some ⟨gn1, 0, none⟩) L1.length cap1], .blk gn1 102 (cap1 * 3) (L4.flatMap LNd.vals), .star (L4.map (subN 26)), .blk b1 102 3 (LNd.vals (nth L1 i)), .blk b2 26 2 (TEnt.vals (nth (nth L1 i).es (splM mo)))] [14] mixed ?_
      refine dP 0 ?_
      refine dP 1 ?_
      refine d_p 2 rfl (p_fieldAddr rfl rfl fd_24_3 sz_22 rfl) (by kernel_rfl) rfl rfl ?_
      refine d_q 3 [[]] rfl (q_load rfl rfl sz_22 aPk rfl) (by kernel_rfl) (by kernel_rfl) (by kernel_rfl) rfl ?_
      refine dP 4 ?_
      refine d_p 6 rfl (p_fieldAddr rfl rfl fd_102_2 sz_30 rfl) (by kernel_rfl) rfl rfl ?_
      refine d_q 7 [[]] rfl (q_load rfl rfl sz_30 aPk rfl) (by kernel_rfl) (by kernel_rfl) (by kernel_rfl) rfl ?_
      refine dP 8 ?_
      refine dP 9 ?_
      try (refine d_slot (i64w (by omega) (by omega)) ?_)
      refine d_p 10 rfl (p_slice _ _ 0 ((splM mo) + 1) rfl rfl sl_30 rfl ⟨_, _, rfl, (by omega)⟩ (by omega) (by omega)) (by kernel_rfl) rfl rfl ?_
      refine d_h 5 rfl (h_buildSlice0 rfl sl_30) (by kernel_rfl) (fun w h => h.ent aEt) rfl (fun b10 _ => ?_)
      refine d_h 11 rfl (h_appendS (((nth L1 i).cs.take ((splM mo) + 1)).flatMap inV) rfl rfl rfl sl_30 Tryz.underlying30 zr_3 rfl aPk (fun w h => Rw.src iv1 (rw_take (Rw.cut (i := 0) (cs_rowE hcr4 (HS.cs_row hi4 h aPk)) hrC.1) ((splM mo) + 1)) (HS.refl _ [])) (by rw [flat_length iv1, List.length_take]; omega) (flat_one iv1c _) (by omega) (by simp only [maxLen]; omega)) (by kernel_rfl) (fun w h => h.ent aEt) rfl (fun b11 _ => ?_)
      refine d_p 12 rfl (p_indexAddr rfl rfl rfl sl_22 (i) (by omega) (by omega) rfl) (by kernel_rfl) rfl rfl ?_
      refine d_slot (show _ = Value.pointer (some ⟨gn1, i * 3, none⟩) from by rw [Nat.zero_add]) ?_
      refine d_p 13 rfl (p_fieldAddr rfl rfl fd_102_2 sz_30 rfl) (by kernel_rfl) rfl rfl ?_
      refine d_h0 14 rfl (h_store rfl rfl rfl sz_30 rfl aPt (by rw [flat_length nv3]; show _ + 1 ≤ _; omega) rfl) (by kernel_rfl) (fun w h => h.ent aEt) (fun _ _ => ?_)
      refine d_turn [] (by kernel_rfl) ?_
      refine d_nil (by kernel_rfl) (fun w h => by first | exact h | exact h.ent aEt) ?_
      refine s_ex (fun w h => HS.cs_setN (gn := gn1) (cap := cap1) (ca := b11.1) (cc := b11.2) (cs := (nth L1 i).cs.take ((splM mo) + 1)) (n := 0 + ((splM mo) + 1 - 0)) (xs := [] ++ ((nth L1 i).cs.take ((splM mo) + 1)).flatMap inV) hi4 (by rw [List.length_take]; omega) (by rw [List.nil_append]) h aPk aPk aPk) fun L5 => ?_
      refine s_fact (fun w h => h.1) fun hS5 => ?_
      refine s_class (fun w h => h.2) ?_
      exact s_joinI L5 ⟨by rw [hS5.cs, hS4.cs, hS3.es, hS2.es]; exact (splRA_1 hL1.symm (hL1.symm ▸ hxF) hcz).symm, by rw [hS5.len, hS4.len, hS3.len, hS2.len]⟩ aSx (fun w h => by rw [hS5.len, hS4.len, hS3.len, hS2.len]; exact h.ent aEt)
    · try simp only [decide_eq_false_iff_not] at h7
      have hcz : (nth L1 i).cs.length = 0 := by have hq := h7; omega
      refine s_skip ?_
      exact s_joinI L3 ⟨by rw [hS3.es, hS2.es]; exact (splRA_0 hL1.symm (hL1.symm ▸ hxF) hcz).symm, by rw [hS3.len, hS2.len]⟩ aSx (fun w h => by rw [hS3.len, hS2.len]; exact h.ent aEt)
  · intro LA hx
    obtain ⟨hA, hlA⟩ := hx
    have hpA : p < LA.length := by omega
    have hNA : (nth LA p).pl = nth (splRA mo (pln L) i) p := by rw [← pln_nth hpA, hA]
    have hEA : (nth LA p).es = (nth (splRA mo (pln L) i) p).es := congrArg Nd.es hNA
    have hCA : (nth LA p).cs = (nth (splRA mo (pln L) i) p).cs := congrArg Nd.cs hNA
    have hsAE := (hsA p).1
    have hsAC := (hsA p).2
    rw [← hEA] at hsAE
    rw [← hCA] at hsAC
    have hparE2 : (ixR (nth (splRA mo (pln L) i) p).cs (i : Int)) ≤ (nth LA p).es.length := by rw [hEA]; exact hparE
    have hparC2 : (ixR (nth (splRA mo (pln L) i) p).cs (i : Int)) + 1 ≤ (nth LA p).cs.length := by rw [hCA]; exact hparC
    refine s_seq ?_
    refine s_region ?_
    refine oP ?_
    refine oP ?_
    refine o_q (q_loadn rfl rfl sz_24 aPk rfl) rfl ?_
    refine oP ?_
    refine oP ?_
    refine o_q (q_call rfl fn_100 rfl (fun w1 h1 => c100 w1 j mo rm (some ⟨gn1, 0, none⟩) cap1 LA p (i : Int) hpA (HS.nt_at h1 aPk aPk) (by omega) (by omega))) rfl ?_
    refine o_slot (show _ = Value.int .i64 ((ixR (nth (splRA mo (pln L) i) p).cs (i : Int)) : Int) from by rw [hCA]) ?_
    refine oP ?_
    refine o_nil ?_
    refine s_seq ?_
    refine s_draw [18] mixed ?_
    refine dP 0 ?_
    refine dP 1 ?_
    refine d_p 2 rfl (p_fieldAddr rfl rfl fd_24_3 sz_22 rfl) (by kernel_rfl) rfl rfl ?_
    refine d_q 3 [[]] rfl (q_load rfl rfl sz_22 aPk rfl) (by kernel_rfl) (by kernel_rfl) (by kernel_rfl) rfl ?_
    refine dP 4 ?_
    refine dP 5 ?_
    refine dP 6 ?_
    refine d_p 7 rfl (p_fieldAddr rfl rfl fd_24_3 sz_22 rfl) (by kernel_rfl) rfl rfl ?_
    refine d_q 8 [[]] rfl (q_load rfl rfl sz_22 aPk rfl) (by kernel_rfl) (by kernel_rfl) (by kernel_rfl) rfl ?_
    refine dP 9 ?_
    refine d_p 10 rfl (p_indexAddr rfl rfl rfl sl_22 (p) (by omega) (by omega) rfl) (by kernel_rfl) rfl rfl ?_
    refine d_slot (show _ = Value.pointer (some ⟨gn1, p * 3, none⟩) from by rw [Nat.zero_add]) ?_
    refine d_p 11 rfl (p_fieldAddr rfl rfl fd_102_1 sz_77 rfl) (by kernel_rfl) rfl rfl ?_
    refine d_q 12 [[]] rfl (q_load_at rfl rfl sz_77 (fun w h => HS.nd_cell hpA h aPk 1 rfl (by decide))) (by kernel_rfl) (by kernel_rfl) (by kernel_rfl) rfl ?_
    refine dP 13 ?_
    refine d_q 14 [[]] rfl (q_loadn rfl rfl sz_26 aPk rfl) (by kernel_rfl) (by kernel_rfl) (by kernel_rfl) rfl ?_
    refine d_h 15 rfl (h_call rfl fn_62 rfl (fun w1 h1 => c62 w1 (nth LA p).ea (nth LA p).ec (nth LA p).es (ixR (nth (splRA mo (pln L) i) p).cs (i : Int)) (nth (nth L1 i).es (splM mo)) (HS.es_row hpA h1 aPk) (by omega) hparE2 (HS.es_room hpA h1 aPk).1)) (by kernel_rfl) (fun w h => h.ent aEt) rfl (fun b12 _ => ?_)
    refine d_base (fun w h => h.ent aEt) ?_
    refine d_p 16 rfl (p_indexAddr rfl rfl rfl sl_22 (p) (by omega) (by omega) rfl) (by kernel_rfl) rfl rfl ?_
    refine d_slot (show _ = Value.pointer (some ⟨gn1, p * 3, none⟩) from by rw [Nat.zero_add]) ?_
    refine d_p 17 rfl (p_fieldAddr rfl rfl fd_102_1 sz_77 rfl) (by kernel_rfl) rfl rfl ?_
    refine d_h0 18 rfl (h_store rfl rfl rfl sz_77 rfl aPt (by rw [flat_length nv3]; show _ + 1 ≤ _; omega) rfl) (by kernel_rfl) (fun w h => h.ent aEt) (fun _ _ => ?_)
    refine d_turn [] (by kernel_rfl) ?_
    refine d_nil (by kernel_rfl) (fun w h => by first | exact h | exact h.ent aEt) ?_
    refine s_weaken (L' := [(0, _), (1, _), (6, _), (10, _)]) aSx (fun _ h => h) ?_
    refine s_ex (fun w h => HS.es_set (gn := gn1) (cap := cap1) (ea := b12.1) (ec := b12.2) (es := insAt (nth LA p).es (ixR (nth (splRA mo (pln L) i) p).cs (i : Int)) (nth (nth L1 i).es (splM mo))) hpA h aPk aPk aPk) fun LB => ?_
    refine s_fact (fun w h => h.1) fun hSB => ?_
    refine s_class (fun w h => h.2) ?_
    have hpB : p < LB.length := by rw [hSB.len]; exact hpA
    have hBC : (nth LB p).cs = (nth LA p).cs := by rw [hSB.at_]
    have hBCl : (nth LB p).cs.length = (nth LA p).cs.length := by rw [hBC]
    refine s_draw [19] mixed ?_
    refine dP 0 ?_
    refine dP 1 ?_
    refine d_p 2 rfl (p_fieldAddr rfl rfl fd_24_3 sz_22 rfl) (by kernel_rfl) rfl rfl ?_
    refine d_q 3 [[]] rfl (q_load rfl rfl sz_22 aPk rfl) (by kernel_rfl) (by kernel_rfl) (by kernel_rfl) rfl ?_
    refine dP 4 ?_
    refine dP 5 ?_
    refine dP 6 ?_
    refine d_p 7 rfl (p_fieldAddr rfl rfl fd_24_3 sz_22 rfl) (by kernel_rfl) rfl rfl ?_
    refine d_q 8 [[]] rfl (q_load rfl rfl sz_22 aPk rfl) (by kernel_rfl) (by kernel_rfl) (by kernel_rfl) rfl ?_
    refine dP 9 ?_
    refine d_p 10 rfl (p_indexAddr rfl rfl rfl sl_22 (p) (by omega) (by omega) rfl) (by kernel_rfl) rfl rfl ?_
    refine d_slot (show _ = Value.pointer (some ⟨gn1, p * 3, none⟩) from by rw [Nat.zero_add]) ?_
    refine d_p 11 rfl (p_fieldAddr rfl rfl fd_102_2 sz_30 rfl) (by kernel_rfl) rfl rfl ?_
    refine d_q 12 [[]] rfl (q_load_at rfl rfl sz_30 (fun w h => HS.nd_cell hpB h aPk 2 rfl (by decide))) (by kernel_rfl) (by kernel_rfl) (by kernel_rfl) rfl ?_
    refine dP 13 ?_
    refine dP 14 ?_
    try (refine d_slot (i64w (by omega) (by omega)) ?_)
    refine dP 15 ?_
    refine d_h 16 rfl (h_call rfl fn_101 rfl (fun w1 h1 => c101 w1 (nth LB p).ca (nth LB p).cc (nth LB p).cs ((ixR (nth (splRA mo (pln L) i) p).cs (i : Int)) + 1) ((frsN (pln L)).1 : Int) (HS.cs_row hpB h1 aPk) (by omega) (by omega) (HS.cs_room hpB h1 aPk).1)) (by kernel_rfl) (fun w h => h.ent aEt) rfl (fun b13 _ => ?_)
    refine d_base (fun w h => h.ent aEt) ?_
    refine d_p 17 rfl (p_indexAddr rfl rfl rfl sl_22 (p) (by omega) (by omega) rfl) (by kernel_rfl) rfl rfl ?_
    refine d_slot (show _ = Value.pointer (some ⟨gn1, p * 3, none⟩) from by rw [Nat.zero_add]) ?_
    refine d_p 18 rfl (p_fieldAddr rfl rfl fd_102_2 sz_30 rfl) (by kernel_rfl) rfl rfl ?_
    refine d_h0 19 rfl (h_store rfl rfl rfl sz_30 rfl aPt (by rw [flat_length nv3]; show _ + 1 ≤ _; omega) rfl) (by kernel_rfl) (fun w h => h.ent aEt) (fun _ _ => ?_)
    refine d_turn [] (by kernel_rfl) ?_
    refine d_nil (by kernel_rfl) (fun w h => by first | exact h | exact h.ent aEt) ?_
    exact s_end0 rfl (fun w' h' => by obtain ⟨LC, hSC, hC⟩ := HS.cs_set (gn := gn1) (cap := cap1) (ca := b13.1) (cc := b13.2) (cs := insAt (nth LB p).cs ((ixR (nth (splRA mo (pln L) i) p).cs (i : Int)) + 1) ((frsN (pln L)).1 : Int)) hpB h' aPk aPk aPk; exact ⟨((gn1, cap1), LC), rfl, ⟨by rw [hSC.cs, hBC, hSB.es, hA, hEA, hCA]; unfold splR addP; rw [hxF]; rfl, by simp only []; rw [hSC.len, hSB.len, hlA]; exact hn1, hm1⟩, by simp only []; rw [hSC.len, hSB.len]; exact hC.ent aEt⟩)

end Go.Proofs

/- Chapter 12: the reference's insertion, parts. Plain data. -/
namespace Gx
set_option linter.unusedSimpArgs false
set_option linter.unusedVariables false
set_option linter.unusedSectionVars false
open Go Go.RowKit
theorem sm_bd2 {ns : List Nd} (h : Bd ns) : Sm 1000 ns := fun k => by
  rcases Nat.lt_or_ge k ns.length with hk | hk
  · exact ⟨h.es k hk, h.cs k hk⟩
  · rw [nth_out hk]
    exact ⟨Nat.zero_le _, Nat.zero_le _⟩
def insRB (co : Int) (ns : List Nd) (x : TEnt) : List Nd := esN ns (lastN (pathN co ns x.key).1) (insAt (nth ns (lastN (pathN co ns x.key).1)).es (plc co (nth ns (lastN (pathN co ns x.key).1)).es x.key) x)
theorem lowR_eq {LG L6 L7 L8 : List LNd} {b : Option Addr} {c : Nat} (hL6 : pln L6 = (frsN (pln LG)).2) (hi6 : 0 < L6.length) (ho6 : (frsN (pln LG)).1 < L6.length) (hS7 : NdSet L6 L7 (frsN (pln LG)).1 { nth L6 0 with us := (nth L6 (frsN (pln LG)).1).us }) (hS8 : NdSet L7 L8 0 ⟨(nth L7 0).us, none, 0, [], b, c, [((frsN (pln LG)).1 : Int)]⟩) (hi7 : 0 < L7.length) : pln L8 = (lowR (pln LG)).2 := by
  have e2 : pln L7 = csN (esN (pln L6) (frsN (pln LG)).1 (nth (pln L6) 0).es) (frsN (pln LG)).1 (nth (pln L6) 0).cs := by
    rw [csN_esN (by rw [pln_len]; exact ho6), hS7.pl, pln_nth ho6, pln_nth hi6]
    rfl
  rw [hS8.pl, lowR, ← hL6, ← e2, csN_esN (by rw [pln_len]; exact hi7), pln_nth hi7]
  rfl
end Gx

namespace Go.Proofs
open Go Go.RowKit Gx
set_option linter.unusedVariables false
set_option linter.unusedSimpArgs false
attribute [local irreducible] Go.Calls Gx.S Gx.O Gx.D Gx.OpP Gx.OpQ Gx.OpH

theorem fn_17 : isFn Tryz.prog 17 = true := by kernel_rfl
theorem fn_20 : isFn Tryz.prog 20 = true := by kernel_rfl
theorem fn_63 : isFn Tryz.prog 63 = true := by kernel_rfl


set_option maxRecDepth 20000 in
set_option maxHeartbeats 400000 in
theorem c22 (w : World) (j : Nat) (mo rm : Int) (a : Option Addr) (cap : Nat) (L : List LNd) (x : TEnt) (hj : j ≤ 3) (h0 : 0 < L.length) (hB : Bd (pln L)) (hT : TOk (j : Int) (pln L)) (hs : Nt w [] a L) (hk : keyOk (j : Int) x.key = true) (hkl : x.key.length ≤ 1000000) (hok0 : InsROk (j : Int) mo rm (pln L) x) : Calls Tryz.prog 22 #[.agg #[.int .i64 (j : Int), .int .i64 mo, .int .i64 rm, .slice a L.length cap], .agg #[.string (bs x.key), .string (bs x.val)]] w fun en w' => ∃ g : (Option Addr × Nat) × List LNd, en = .returned (.agg #[.int .i64 (j : Int), .int .i64 mo, .int .i64 rm, .slice g.1.1 g.2.length g.1.2]) ∧ pln g.2 = insR (j : Int) mo rm (pln L) x ∧ HS w [] [.nodes 26 102 g.1.1 g.1.2 g.2] w' := by
  have hln0 := hB.len
  rw [pln_len] at hln0
  have hsmB : Sm 1000 (pln L) := sm_bd2 hB
  refine enter (args := [_, _]) Tryz.func22 Tryz.ntmps22 rfl rfl (HS.refl w []) ?_
  refine s_seq ?_
  refine s_region ?_
  refine o_h (h_box rfl rfl) rfl (fun b1 _ => ?_)
  refine o_h (h_box rfl rfl) rfl (fun b2 _ => ?_)
  refine o_h (h_alloc rfl zr_24) rfl (fun b3 _ => ?_)
  refine o_nil ?_
  refine s_seq ?_
  refine s_region ?_
  refine o_q (q_loadn rfl rfl sz_24 aPk rfl) rfl ?_
  refine o_h (h_call rfl fn_17 rfl (fun w1 h1 => c17 w1 (j : Int) mo rm a cap L (hs.later h1.nil) hln0 hsmB)) rfl (fun ⟨⟨ga0, gc0⟩, L9⟩ hF9 => ?_)
  dsimp only
  have hL9 : pln L9 = pln L := hF9
  have hl9 : L9.length = L.length := by rw [← pln_len L9, hL9, pln_len]
  have h09 : 0 < L9.length := by omega
  refine o_ex (fun w h => nodes_split h09 h aPk) fun gn => ?_
  refine o_fact (p := ga0 = some ⟨gn, 0, none⟩ ∧ L9.length ≤ gc0 ∧ gc0 ≤ maxLen) (fun w h => ⟨h.1, h.2.1, h.2.2.1⟩) fun hgn => ?_
  obtain ⟨hga, hn9, hm9⟩ := hgn
  subst hga
  refine o_class (fun w h => h.2.2.2) ?_
  have hB9 : Bd (pln L9) := by rw [hL9]; exact hB
  have hT9 : TOk (j : Int) (pln L9) := by rw [hL9]; exact hT
  have hK9 : ∀ i, i < L9.length → ∀ y ∈ (nth L9 i).es, keyOk (j : Int) y.key = true ∧ y.key.length ≤ 1000000 := fun i hi y hy => tok_key hT9 i (by rw [pln_len]; exact hi) y (by rw [pln_nth hi]; exact hy)
  have hok : InsROk (j : Int) mo rm (pln L9) x := by rw [hL9]; exact hok0
  have hne := hok.ne
  have hlen9 := hok.len
  have hlf := hok.lf
  rw [pln_len] at hlf
  have hel9 := hB9.es _ (by rw [pln_len]; exact hlf)
  rw [pln_nth hlf] at hel9
  simp only [LNd.pl] at hel9
  refine o_h (h_alloc rfl zr_24) rfl (fun b4 _ => ?_)
  refine o_h0 (h_store rfl rfl rfl sz_24 rfl aPt (by simp only [setMany_length, List.length_set, List.length_cons, List.length_nil, List.length_map]; omega) rfl) (fun _ _ => ?_)
  refine o_nil ?_
  refine s_seq ?_
  refine s_region ?_
  refine o_q (q_loadn rfl rfl sz_24 aPk rfl) rfl ?_
  refine o_p (p_fieldAddr rfl rfl fd_26_0 sz_9 rfl) rfl ?_
  refine o_q (q_load rfl rfl sz_9 aPk rfl) rfl ?_
  refine o_h (h_call rfl fn_20 rfl (fun w1 h1 => c20 w1 j mo rm (some ⟨gn, 0, none⟩) gc0 L9 x.key hj h09 hB9 hT9 (HS.nt_at h1 aPk aPk) hk hkl)) rfl (fun ⟨pa, pc⟩ _ => ?_)
  dsimp only
  refine o_fact (fun w h => HS.pown_some (P := (pathN (j : Int) (pln L9) x.key).1) (a := pa) (c := pc) hne h aPk) fun hpa => ?_
  obtain ⟨gp, hpa⟩ := hpa
  refine oP ?_
  refine oP ?_
  refine oP ?_
  refine oP ?_
  refine oP ?_
  refine o_nil ?_
  refine s_seq ?_
  refine s_region ?_
  refine oP ?_
  refine oP ?_
  refine o_p (p_len_slice rfl rfl Tryz.underlying30) rfl ?_
  refine oP ?_
  try (refine o_slot (i64w (by omega) (by omega)) ?_)
  refine o_p (p_indexAddr rfl rfl rfl sl_30 ((pathN (j : Int) (pln L9) x.key).1.length - 1) (by omega) (by omega) hpa) rfl ?_
  refine o_q (q_load_at rfl rfl sz_3 (fun w h => HS.pown_rd (P := (pathN (j : Int) (pln L9) x.key).1) (a := pa) (c := pc) (k := (pathN (j : Int) (pln L9) x.key).1.length - 1) (by omega) hpa h aPk)) rfl ?_
  refine o_slot (show _ = Value.int .i64 ((lastN (pathN (j : Int) (pln L9) x.key).1) : Int) from rfl) ?_
  refine oP ?_
  refine o_nil ?_
  refine s_seq ?_
  refine s_region ?_
  refine o_q (q_loadn rfl rfl sz_24 aPk rfl) rfl ?_
  refine oP ?_
  refine o_p (p_fieldAddr rfl rfl fd_26_0 sz_9 rfl) rfl ?_
  refine o_q (q_load rfl rfl sz_9 aPk rfl) rfl ?_
  refine o_q (q_call rfl fn_61 rfl (fun w1 h1 => c61 w1 j mo rm (some ⟨gn, 0, none⟩) gc0 L9 (lastN (pathN (j : Int) (pln L9) x.key).1) x.key hj hlf (HS.nt_at h1 aPk aPk) (by omega) hel9 (hK9 _ hlf) hk hkl)) rfl ?_
  refine oP ?_
  refine oP ?_
  refine oP ?_
  refine oP ?_
  refine oP ?_
  refine o_nil ?_
  refine s_seq ?_
  refine s_weaken (L' := [(3, _), (4, _), (5, _), (6, _), (8, _), (9, _)]) aSx (fun _ h => h) ?_
  refine s_draw [14] mixed ?_
  refine d_p 0 rfl (p_fieldAddr rfl rfl fd_24_3 sz_22 rfl) (by kernel_rfl) rfl rfl ?_
  refine d_q 1 [[]] rfl (q_load rfl rfl sz_22 aPk rfl) (by kernel_rfl) (by kernel_rfl) (by kernel_rfl) rfl ?_
  refine dP 2 ?_
  refine d_p 3 rfl (p_fieldAddr rfl rfl fd_24_3 sz_22 rfl) (by kernel_rfl) rfl rfl ?_
  refine d_q 4 [[]] rfl (q_load rfl rfl sz_22 aPk rfl) (by kernel_rfl) (by kernel_rfl) (by kernel_rfl) rfl ?_
  refine dP 5 ?_
  refine d_p 6 rfl (p_indexAddr rfl rfl rfl sl_22 ((lastN (pathN (j : Int) (pln L9) x.key).1)) (by omega) (by omega) rfl) (by kernel_rfl) rfl rfl ?_
  refine d_slot (show _ = Value.pointer (some ⟨gn, (lastN (pathN (j : Int) (pln L9) x.key).1) * 3, none⟩) from by rw [Nat.zero_add]) ?_
  refine d_p 7 rfl (p_fieldAddr rfl rfl fd_102_1 sz_77 rfl) (by kernel_rfl) rfl rfl ?_
  refine d_q 8 [[]] rfl (q_load_at rfl rfl sz_77 (fun w h => HS.nd_cell hlf h aPk 1 rfl (by decide))) (by kernel_rfl) (by kernel_rfl) (by kernel_rfl) rfl ?_
  refine dP 9 ?_
  refine d_q 10 [[]] rfl (q_loadn rfl rfl sz_26 aPk rfl) (by kernel_rfl) (by kernel_rfl) (by kernel_rfl) rfl ?_
  refine d_h 11 rfl (h_call rfl fn_62 rfl (fun w1 h1 => c62 w1 (nth L9 (lastN (pathN (j : Int) (pln L9) x.key).1)).ea (nth L9 (lastN (pathN (j : Int) (pln L9) x.key).1)).ec (nth L9 (lastN (pathN (j : Int) (pln L9) x.key).1)).es (plc (j : Int) (nth L9 (lastN (pathN (j : Int) (pln L9) x.key).1)).es x.key) x (HS.es_row hlf h1 aPk) (by omega) (plc_le _ _ _) (HS.es_room hlf h1 aPk).1)) (by kernel_rfl) (fun w h => h.ent aEt) rfl (fun b5 _ => ?_)
  refine d_base (fun w h => h.ent aEt) ?_
  refine d_p 12 rfl (p_indexAddr rfl rfl rfl sl_22 ((lastN (pathN (j : Int) (pln L9) x.key).1)) (by omega) (by omega) rfl) (by kernel_rfl) rfl rfl ?_
  refine d_slot (show _ = Value.pointer (some ⟨gn, (lastN (pathN (j : Int) (pln L9) x.key).1) * 3, none⟩) from by rw [Nat.zero_add]) ?_
  refine d_p 13 rfl (p_fieldAddr rfl rfl fd_102_1 sz_77 rfl) (by kernel_rfl) rfl rfl ?_
  refine d_h0 14 rfl (h_store rfl rfl rfl sz_77 rfl aPt (by rw [flat_length nv3]; show _ + 1 ≤ _; omega) rfl) (by kernel_rfl) (fun w h => h.ent aEt) (fun _ _ => ?_)
  refine d_turn [] (by kernel_rfl) ?_
  refine d_nil (by kernel_rfl) (fun w h => by first | exact h | exact h.ent aEt) ?_
  refine s_seq ?_
  refine s_seq ?_
  refine s_region ?_
  refine oP ?_
  refine o_ex (fun w h => HS.es_set (gn := gn) (cap := gc0) (ea := b5.1) (ec := b5.2) (es := insAt (nth L9 (lastN (pathN (j : Int) (pln L9) x.key).1)).es (plc (j : Int) (nth L9 (lastN (pathN (j : Int) (pln L9) x.key).1)).es x.key) x) hlf h aPk aPk aPk) fun L1 => ?_
  refine o_fact (fun w h => h.1) fun hS1 => ?_
  refine o_class (fun w h => h.2) ?_
  have hL1 : pln L1 = (insRB (j : Int) (pln L9) x) := by rw [hS1.es, insRB, pln_nth hlf]; rfl
  refine o_class (C' := HS w [] [.blk b4 24 4 [.int .i64 (j : Int), .int .i64 mo, .int .i64 rm, .slice (some ⟨gn, 0, none⟩) (L1).length gc0], .blk gn 102 (gc0 * 3) ((L1).flatMap LNd.vals), .star ((L1).map (subN 26)), .own (.slice pa ((pathN (j : Int) (pln L9) x.key).1).length pc) 3 1 ((pathN (j : Int) (pln L9) x.key).1).length (((pathN (j : Int) (pln L9) x.key).1).map fun i : Nat => Value.int .i64 (i : Int)), .blk b2 26 2 (TEnt.vals x), .blk b3 24 4 [.int .i64 0, .int .i64 0, .int .i64 0, .slice none 0 0]]) (fun w2 h => by rw [hS1.len]; exact h.ent aEt) ?_
  refine o_p (p_len_slice rfl rfl Tryz.underlying30) rfl ?_
  refine oP ?_
  try (refine o_slot (i64w (by omega) (by omega)) ?_)
  refine o_slot (show _ = Value.int .i64 (((pathN (j : Int) (pln L9) x.key).1.length - 1 : Nat) : Int) from by congr 1; omega) ?_
  refine oP ?_
  refine o_nil ?_
  refine s_block ?_
  refine s_weaken (L' := [(4, _), (5, _), (6, _), (11, _)]) aSx (fun _ h => h) ?_
  refine s_loopI (α := ((Nat × Nat) × List LNd) × Nat) [11, 53, 54, 55, 56, 57, 58, 59, 60, 61, 62, 63, 64, 65, 66, 67, 68, 69, 70, 71, 72, 73, 74, 75, 76, 77, 78, 79] (fun y => [(11, .int .i64 (y.2 : Int))]) (fun y => HS w [] [.blk b4 24 4 [.int .i64 (j : Int), .int .i64 mo, .int .i64 rm, .slice (some ⟨y.1.1.1, 0, none⟩) (y.1.2).length y.1.1.2], .blk y.1.1.1 102 (y.1.1.2 * 3) ((y.1.2).flatMap LNd.vals), .star ((y.1.2).map (subN 26)), .own (.slice pa ((pathN (j : Int) (pln L9) x.key).1).length pc) 3 1 ((pathN (j : Int) (pln L9) x.key).1).length (((pathN (j : Int) (pln L9) x.key).1).map fun i : Nat => Value.int .i64 (i : Int)), .blk b2 26 2 (TEnt.vals x), .blk b3 24 4 [.int .i64 0, .int .i64 0, .int .i64 0, .slice none 0 0]]) (fun y => grwRW mo (pathN (j : Int) (pln L9) x.key).1 y.2 (pln y.1.2) = grwRW mo (pathN (j : Int) (pln L9) x.key).1 ((pathN (j : Int) (pln L9) x.key).1.length - 1) (insRB (j : Int) (pln L9) x) ∧ GrwROk mo (pathN (j : Int) (pln L9) x.key).1 y.2 (pln y.1.2) ∧ y.2 < (pathN (j : Int) (pln L9) x.key).1.length ∧ y.1.2.length ≤ y.1.1.2 ∧ y.1.1.2 ≤ maxLen) (fun y => y.2) (((gn, gc0), L1), (pathN (j : Int) (pln L9) x.key).1.length - 1) ⟨by rw [hL1], by rw [hL1]; exact hok.grw, by simp only []; omega, by simp only []; rw [hS1.len]; exact hn9, hm9⟩ aSx (fun w h => h.ent aEt) (fun ⟨⟨⟨ga, gc⟩, Lk⟩, k⟩ hx => ?_)
  dsimp only
  obtain ⟨hx1, hx2, hx3, hx4, hx5⟩ := hx
  simp only [] at hx1 hx2 hx3 hx4 hx5
  refine s_seq ?_
  refine s_seq ?_
  refine s_region ?_
  refine oP ?_
  refine oP ?_
  refine o_nil ?_
  refine s_cond rfl (fun h6 => ?_) (fun h6 => ?_)
  · try simp only [decide_eq_true_eq] at h6
    obtain ⟨k1, rfl⟩ : ∃ k1, k = k1 + 1 := ⟨k - 1, by omega⟩
    obtain ⟨hkl9, hsp⟩ := hx2.1
    rw [pln_len] at hkl9
    rw [pln_nth hkl9] at hsp
    simp only [LNd.pl] at hsp
    refine s_skip ?_
    refine s_seq ?_
    refine s_block ?_
    refine s_seq ?_
    refine s_draw [] mixed ?_
    refine d_p 0 rfl (p_fieldAddr rfl rfl fd_24_3 sz_22 rfl) (by kernel_rfl) rfl rfl ?_
    refine d_q 1 [] rfl (q_load rfl rfl sz_22 aPk rfl) (by kernel_rfl) (by kernel_rfl) (by kernel_rfl) rfl ?_
    refine dP 2 ?_
    refine dP 3 ?_
    refine d_p 4 rfl (p_indexAddr rfl rfl rfl sl_30 (k1 + 1) (by omega) (by omega) hpa) (by kernel_rfl) rfl rfl ?_
    refine d_q 5 [] rfl (q_load_at rfl rfl sz_3 (fun w h => HS.pown_rd (P := (pathN (j : Int) (pln L9) x.key).1) (a := pa) (c := pc) (k := k1 + 1) (by omega) hpa h aPk)) (by kernel_rfl) (by kernel_rfl) (by kernel_rfl) rfl ?_
    refine d_p 6 rfl (p_indexAddr rfl rfl rfl sl_22 ((nth (pathN (j : Int) (pln L9) x.key).1 (k1 + 1))) (by omega) (by omega) rfl) (by kernel_rfl) rfl rfl ?_
    refine d_slot (show _ = Value.pointer (some ⟨ga, (nth (pathN (j : Int) (pln L9) x.key).1 (k1 + 1)) * 3, none⟩) from by rw [Nat.zero_add]) ?_
    refine d_p 7 rfl (p_fieldAddr rfl rfl fd_102_1 sz_77 rfl) (by kernel_rfl) rfl rfl ?_
    refine d_q 8 [] rfl (q_load_at rfl rfl sz_77 (fun w h => HS.nd_cell hkl9 h aPk 1 rfl (by decide))) (by kernel_rfl) (by kernel_rfl) (by kernel_rfl) rfl ?_
    refine d_p 9 rfl (p_len_slice rfl rfl Tryz.underlying77) (by kernel_rfl) rfl rfl ?_
    refine d_p 10 rfl (p_fieldAddr rfl rfl fd_24_1 sz_3 rfl) (by kernel_rfl) rfl rfl ?_
    refine d_q 11 [] rfl (q_load rfl rfl sz_3 aPk rfl) (by kernel_rfl) (by kernel_rfl) (by kernel_rfl) rfl ?_
    refine dP 12 ?_
    refine d_nil (by kernel_rfl) (fun w h => by first | exact h | exact h.ent aEt) ?_
    refine s_cond rfl (fun h7 => ?_) (fun h7 => ?_)
    · try simp only [decide_eq_true_eq] at h7
      have hbig : mo < ((nth Lk (nth (pathN (j : Int) (pln L9) x.key).1 (k1 + 1))).es.length : Int) := h7
      refine s_draw [9] mixed ?_
      refine dP 0 ?_
      refine dP 1 ?_
      refine dP 2 ?_
      try (refine d_slot (i64w (by omega) (by omega)) ?_)
      refine d_p 3 rfl (p_indexAddr rfl rfl rfl sl_30 (k1) (by omega) (by omega) hpa) (by kernel_rfl) rfl rfl ?_
      refine d_q 4 [[]] rfl (q_load_at rfl rfl sz_3 (fun w h => HS.pown_rd (P := (pathN (j : Int) (pln L9) x.key).1) (a := pa) (c := pc) (k := k1) (by omega) hpa h aPk)) (by kernel_rfl) (by kernel_rfl) (by kernel_rfl) rfl ?_
      refine dP 5 ?_
      refine dP 6 ?_
      refine d_p 7 rfl (p_indexAddr rfl rfl rfl sl_30 (k1 + 1) (by omega) (by omega) hpa) (by kernel_rfl) rfl rfl ?_
      refine d_q 8 [[]] rfl (q_load_at rfl rfl sz_3 (fun w h => HS.pown_rd (P := (pathN (j : Int) (pln L9) x.key).1) (a := pa) (c := pc) (k := k1 + 1) (by omega) hpa h aPk)) (by kernel_rfl) (by kernel_rfl) (by kernel_rfl) rfl ?_
      refine d_h 9 rfl (h_callF (Cs := [.blk b4 24 4 [.int .i64 (j : Int), .int .i64 mo, .int .i64 rm, .slice (some ⟨ga, 0, none⟩) (Lk).length gc], .blk ga 102 (gc * 3) ((Lk).flatMap LNd.vals), .star ((Lk).map (subN 26))]) rfl fn_63 rfl aPs (fun w1 h1 hf => c63 w1 b4 j mo rm ga gc Lk (nth (pathN (j : Int) (pln L9) x.key).1 k1) (nth (pathN (j : Int) (pln L9) x.key).1 (k1 + 1)) hf hx4 hx5 (hsp hbig))) (by kernel_rfl) (fun w h => h.ent aEt) rfl (fun ⟨⟨g5, c5⟩, L5⟩ hF5 => ?_)
      refine d_turn [] (by kernel_rfl) ?_
      refine d_nil (by kernel_rfl) (fun w h => by first | exact h | exact h.ent aEt) ?_
      refine s_blk ?_
      refine s_region ?_
      refine oP ?_
      refine oP ?_
      try (refine o_slot (i64w (by omega) (by omega)) ?_)
      refine oP ?_
      refine o_nil ?_
      exact s_backI (((g5, c5), L5), k1) (by (try simp only []); omega) ⟨by simp only []; rw [hF5.1, ← hx1, grwRW, if_pos (by rw [pln_nth hkl9]; exact hbig)], by simp only []; rw [hF5.1]; have h9 := hx2.2; rw [if_pos (by rw [pln_nth hkl9]; exact hbig)] at h9; exact h9, by simp only []; omega, hF5.2.1, hF5.2.2⟩ (by refine sl_c (congrArg (fun e => some (Value.int .i64 e)) (show _ = _ from by simp only []; omega)) ?_; repeat (first | exact sl_n | refine sl_c rfl ?_)) (fun w h => h.ent aEt)
    · try simp only [decide_eq_false_iff_not] at h7
      have hbig : ¬ mo < ((nth Lk (nth (pathN (j : Int) (pln L9) x.key).1 (k1 + 1))).es.length : Int) := by have hq := h7; omega
      refine s_skip ?_
      refine s_blk ?_
      refine s_region ?_
      refine oP ?_
      refine oP ?_
      try (refine o_slot (i64w (by omega) (by omega)) ?_)
      refine oP ?_
      refine o_nil ?_
      exact s_backI (((ga, gc), Lk), k1) (by (try simp only []); omega) ⟨by simp only []; rw [← hx1, grwRW, if_neg (by rw [pln_nth hkl9]; exact hbig)], by simp only []; have h9 := hx2.2; rw [if_neg (by rw [pln_nth hkl9]; exact hbig)] at h9; exact h9, by simp only []; omega, hx4, hx5⟩ (by refine sl_c (congrArg (fun e => some (Value.int .i64 e)) (show _ = _ from by simp only []; omega)) ?_; repeat (first | exact sl_n | refine sl_c rfl ?_)) (fun w h => h.ent aEt)
  · try simp only [decide_eq_false_iff_not] at h6
    obtain rfl : k = 0 := by omega
    have hLG : pln Lk = grwRW mo (pathN (j : Int) (pln L9) x.key).1 ((pathN (j : Int) (pln L9) x.key).1.length - 1) (insRB (j : Int) (pln L9) x) := hx1
    obtain ⟨LG, rfl⟩ : ∃ LG, LG = Lk := ⟨_, rfl⟩
    have hrt : RootROk mo rm (pln LG) := by rw [hLG]; exact hok.root
    have hiG : 0 < LG.length := by rw [← pln_len]; exact hrt.lt
    have hlG := hrt.len
    rw [pln_len] at hlG
    refine s_exit_to rfl ?_
    refine s_seq ?_
    refine s_seq ?_
    refine s_draw [] mixed ?_
    refine d_p 0 rfl (p_fieldAddr rfl rfl fd_24_3 sz_22 rfl) (by kernel_rfl) rfl rfl ?_
    refine d_q 1 [] rfl (q_load rfl rfl sz_22 aPk rfl) (by kernel_rfl) (by kernel_rfl) (by kernel_rfl) rfl ?_
    refine d_p 2 rfl (p_indexAddr rfl rfl rfl sl_22 (0) (by omega) (by omega) rfl) (by kernel_rfl) rfl rfl ?_
    refine d_slot (show _ = Value.pointer (some ⟨ga, 0 * 3, none⟩) from by rw [Nat.zero_add]) ?_
    refine d_p 3 rfl (p_fieldAddr rfl rfl fd_102_1 sz_77 rfl) (by kernel_rfl) rfl rfl ?_
    refine d_q 4 [] rfl (q_load_at rfl rfl sz_77 (fun w h => HS.nd_cell hiG h aPk 1 rfl (by decide))) (by kernel_rfl) (by kernel_rfl) (by kernel_rfl) rfl ?_
    refine d_p 5 rfl (p_len_slice rfl rfl Tryz.underlying77) (by kernel_rfl) rfl rfl ?_
    refine d_p 6 rfl (p_fieldAddr rfl rfl fd_24_2 sz_3 rfl) (by kernel_rfl) rfl rfl ?_
    refine d_q 7 [] rfl (q_load rfl rfl sz_3 aPk rfl) (by kernel_rfl) (by kernel_rfl) (by kernel_rfl) rfl ?_
    refine dP 8 ?_
    refine d_nil (by kernel_rfl) (fun w h => by first | exact h | exact h.ent aEt) ?_
    refine s_weaken (L' := [(4, _), (5, _), (6, _), (11, _), (88, _)]) aSx (fun _ h => h) ?_
    refine s_cutI (α := (Nat × Nat) × List LNd) [12, 89, 90, 91, 92, 93, 94, 95, 96, 97, 98, 99, 100, 101, 102, 103, 104, 105, 106, 107, 108, 109, 110, 111, 112, 113, 114, 115, 116, 117, 118, 119, 120, 121, 122, 123, 124, 125, 126, 127, 128, 129, 130, 131] (fun _ => []) (fun y => HS w [] [.blk b4 24 4 [.int .i64 (j : Int), .int .i64 mo, .int .i64 rm, .slice (some ⟨y.1.1, 0, none⟩) (y.2).length y.1.2], .blk y.1.1 102 (y.1.2 * 3) ((y.2).flatMap LNd.vals), .star ((y.2).map (subN 26)), .blk b3 24 4 [.int .i64 0, .int .i64 0, .int .i64 0, .slice none 0 0]]) (fun y => pln y.2 = grwRR mo rm (pln LG) ∧ y.2.length ≤ y.1.2 ∧ y.1.2 ≤ maxLen) ?_ ?_
    · skip
      refine s_cond rfl (fun h8 => ?_) (fun h8 => ?_)
      · try simp only [decide_eq_true_eq] at h8
        have hbR : rm < ((nth (pln LG) 0).es.length : Int) := by rw [pln_nth hiG]; exact h8
        refine s_seq ?_
        refine s_region ?_
        refine o_h (h_callF (Cs := [.blk b4 24 4 [.int .i64 (j : Int), .int .i64 mo, .int .i64 rm, .slice (some ⟨ga, 0, none⟩) (LG).length gc], .blk ga 102 (gc * 3) ((LG).flatMap LNd.vals), .star ((LG).map (subN 26))]) rfl fn_64 rfl aPs (fun w1 h1 hf => c64 w1 b4 j mo rm ga gc LG hf hx4 hx5 hiG (by omega))) rfl (fun ⟨⟨g6, c6⟩, L6⟩ hF6 => ?_)
        dsimp only
        obtain ⟨hL6, hn6, hm6⟩ := hF6
        simp only [] at hL6 hn6 hm6
        have hi6 : 0 < L6.length := by have := frsN_len (pln LG); rw [← pln_len, hL6]; rw [pln_len] at this; omega
        have ho6 : (frsN (pln LG)).1 < L6.length := by rw [← pln_len, hL6]; exact frsN_lt _
        have hon : (frsN (pln LG)).1 ≠ 0 := by have := frsN_ge (ns := pln LG) (by rw [pln_len]; exact hiG); omega
        refine oP ?_
        refine o_nil ?_
        refine s_seq ?_
        refine s_draw [18, 21] mixed ?_
        refine d_p 0 rfl (p_fieldAddr rfl rfl fd_24_3 sz_22 rfl) (by kernel_rfl) rfl rfl ?_
        refine d_q 1 [[], []] rfl (q_load rfl rfl sz_22 aPk rfl) (by kernel_rfl) (by kernel_rfl) (by kernel_rfl) rfl ?_
        refine dP 2 ?_
        refine d_p 3 rfl (p_fieldAddr rfl rfl fd_24_3 sz_22 rfl) (by kernel_rfl) rfl rfl ?_
        refine d_q 4 [[], []] rfl (q_load rfl rfl sz_22 aPk rfl) (by kernel_rfl) (by kernel_rfl) (by kernel_rfl) rfl ?_
        refine dP 5 ?_
        refine d_p 6 rfl (p_fieldAddr rfl rfl fd_24_3 sz_22 rfl) (by kernel_rfl) rfl rfl ?_
        refine d_q 7 [[], []] rfl (q_load rfl rfl sz_22 aPk rfl) (by kernel_rfl) (by kernel_rfl) (by kernel_rfl) rfl ?_
        refine d_p 8 rfl (p_indexAddr rfl rfl rfl sl_22 (0) (by omega) (by omega) rfl) (by kernel_rfl) rfl rfl ?_
        refine d_slot (show _ = Value.pointer (some ⟨g6, 0 * 3, none⟩) from by rw [Nat.zero_add]) ?_
        refine d_p 9 rfl (p_fieldAddr rfl rfl fd_102_1 sz_77 rfl) (by kernel_rfl) rfl rfl ?_
        refine d_q 10 [[], []] rfl (q_load_at rfl rfl sz_77 (fun w h => HS.nd_cell hi6 h aPk 1 rfl (by decide))) (by kernel_rfl) (by kernel_rfl) (by kernel_rfl) rfl ?_
        refine d_p 11 rfl (p_fieldAddr rfl rfl fd_24_3 sz_22 rfl) (by kernel_rfl) rfl rfl ?_
        refine d_q 12 [[], []] rfl (q_load rfl rfl sz_22 aPk rfl) (by kernel_rfl) (by kernel_rfl) (by kernel_rfl) rfl ?_
        refine d_p 13 rfl (p_indexAddr rfl rfl rfl sl_22 (0) (by omega) (by omega) rfl) (by kernel_rfl) rfl rfl ?_
        refine d_slot (show _ = Value.pointer (some ⟨g6, 0 * 3, none⟩) from by rw [Nat.zero_add]) ?_
        refine d_p 14 rfl (p_fieldAddr rfl rfl fd_102_2 sz_30 rfl) (by kernel_rfl) rfl rfl ?_
        refine d_q 15 [[], []] rfl (q_load_at rfl rfl sz_30 (fun w h => HS.nd_cell hi6 h aPk 2 rfl (by decide))) (by kernel_rfl) (by kernel_rfl) (by kernel_rfl) rfl ?_
        refine d_p 16 rfl (p_indexAddr rfl rfl rfl sl_22 ((frsN (pln LG)).1) (by omega) (by omega) rfl) (by kernel_rfl) rfl rfl ?_
        refine d_slot (show _ = Value.pointer (some ⟨g6, (frsN (pln LG)).1 * 3, none⟩) from by rw [Nat.zero_add]) ?_
        refine d_p 17 rfl (p_fieldAddr rfl rfl fd_102_1 sz_77 rfl) (by kernel_rfl) rfl rfl ?_
        refine d_h0 18 rfl (h_store rfl rfl rfl sz_77 rfl aPt (by rw [flat_length nv3]; show _ + 1 ≤ _; omega) rfl) (by kernel_rfl) (fun w h => h.ent aEt) (fun _ _ => ?_)
        refine d_turn [21] (by kernel_rfl) ?_
        refine d_p 19 rfl (p_indexAddr rfl rfl rfl sl_22 ((frsN (pln LG)).1) (by omega) (by omega) rfl) (by kernel_rfl) rfl rfl ?_
        refine d_slot (show _ = Value.pointer (some ⟨g6, (frsN (pln LG)).1 * 3, none⟩) from by rw [Nat.zero_add]) ?_
        refine d_p 20 rfl (p_fieldAddr rfl rfl fd_102_2 sz_30 rfl) (by kernel_rfl) rfl rfl ?_
        refine d_h0 21 rfl (h_store rfl rfl rfl sz_30 rfl aPt (by rw [setMany_length, flat_length nv3]; show _ + 1 ≤ _; omega) rfl) (by kernel_rfl) (fun w h => h.ent aEt) (fun _ _ => ?_)
        refine d_turn [] (by kernel_rfl) ?_
        refine d_nil (by kernel_rfl) (fun w h => by first | exact h | exact h.ent aEt) ?_
        refine s_seq ?_
        refine s_region ?_
        refine o_p (p_fieldAddr rfl rfl fd_24_3 sz_22 rfl) rfl ?_
        refine o_ex (fun w h => HS.node_move (i := 0) (gn := g6) (cap := c6) hi6 ho6 (fun e => hon e.symm) h aPk aPk) fun L7 => ?_
        refine o_fact (fun w h => h.1) fun hS7 => ?_
        refine o_class (fun w h => h.2) ?_
        have hi7 : 0 < L7.length := by rw [hS7.len]; exact hi6
        have hN7 : nth L7 0 = nth L6 0 := hS7.other hi6 hon
        rw [← hN7]
        refine o_q (q_load rfl rfl sz_22 aPk rfl) rfl ?_
        refine o_p (p_fieldAddr rfl rfl fd_24_3 sz_22 rfl) rfl ?_
        refine o_q (q_load rfl rfl sz_22 aPk rfl) rfl ?_
        refine oP ?_
        refine o_h (h_buildSlice (cs := [_]) rfl rfl sl_30 zr_3 rfl rfl rfl) rfl (fun b9 _ => ?_)
        refine o_p (p_indexAddr rfl rfl rfl sl_22 (0) (by omega) (by omega) rfl) rfl ?_
        refine o_slot (show _ = Value.pointer (some ⟨g6, 0 * 3, none⟩) from by rw [Nat.zero_add]) ?_
        refine o_p (p_fieldAddr rfl rfl fd_102_1 sz_77 rfl) rfl ?_
        refine o_h0 (h_store rfl rfl rfl sz_77 rfl aPt (by rw [flat_length nv3]; show _ + 1 ≤ _; omega) rfl) (fun _ _ => ?_)
        refine o_p (p_indexAddr rfl rfl rfl sl_22 (0) (by omega) (by omega) rfl) rfl ?_
        refine o_slot (show _ = Value.pointer (some ⟨g6, 0 * 3, none⟩) from by rw [Nat.zero_add]) ?_
        refine o_p (p_fieldAddr rfl rfl fd_102_2 sz_30 rfl) rfl ?_
        refine o_h0 (h_store rfl rfl rfl sz_30 rfl aPt (by rw [setMany_length, flat_length nv3]; show _ + 1 ≤ _; omega) rfl) (fun _ _ => ?_)
        refine o_nil ?_
        refine s_seq ?_
        refine s_weaken (L' := [(4, _), (5, _), (6, _), (11, _), (12, _), (88, _)]) aSx (fun _ h => h) ?_
        refine s_ex (fun w h => HS.node_low (i := 0) (gn := g6) (cap := c6) (ca := some ⟨b9, 0, none⟩) (cc := 1) (cs := [((frsN (pln LG)).1 : Int)]) hi7 (HS.own_shut (t := 3) (sz := 1) (n := 1) (cap := 1) (h.pick (A := .blk b9 3 (1 * 1) (inV ((frsN (pln LG)).1 : Int))) aPk) rfl (by decide) (by decide)) (.there aPk) .here aPk) fun L8 => ?_
        refine s_fact (fun w h => h.1) fun hS8 => ?_
        refine s_class (fun w h => h.2) ?_
        have ho8 : (frsN (pln LG)).1 < L8.length := by rw [hS8.len, hS7.len]; exact ho6
        have hl8 : L8.length = L6.length := by rw [hS8.len, hS7.len]
        have hL8 : pln L8 = (lowR (pln LG)).2 := lowR_eq hL6 hi6 ho6 hS7 hS8 hi7
        refine s_class (C' := HS w [] [.blk b4 24 4 [.int .i64 (j : Int), .int .i64 mo, .int .i64 rm, .slice (some ⟨g6, 0, none⟩) (L8).length c6], .blk g6 102 (c6 * 3) ((L8).flatMap LNd.vals), .star ((L8).map (subN 26)), .own (.slice pa ((pathN (j : Int) (pln L9) x.key).1).length pc) 3 1 ((pathN (j : Int) (pln L9) x.key).1).length (((pathN (j : Int) (pln L9) x.key).1).map fun i : Nat => Value.int .i64 (i : Int)), .blk b2 26 2 (TEnt.vals x), .blk b3 24 4 [.int .i64 0, .int .i64 0, .int .i64 0, .slice none 0 0]]) (fun w2 h => by rw [hl8]; exact h.ent aEt) ?_
        refine s_draw [] mixed ?_
        refine d_p 0 rfl (p_fieldAddr rfl rfl fd_24_3 sz_22 rfl) (by kernel_rfl) rfl rfl ?_
        refine d_q 1 [] rfl (q_load rfl rfl sz_22 aPk rfl) (by kernel_rfl) (by kernel_rfl) (by kernel_rfl) rfl ?_
        refine dP 2 ?_
        refine d_p 3 rfl (p_indexAddr rfl rfl rfl sl_22 ((frsN (pln LG)).1) (by omega) (by omega) rfl) (by kernel_rfl) rfl rfl ?_
        refine d_slot (show _ = Value.pointer (some ⟨g6, (frsN (pln LG)).1 * 3, none⟩) from by rw [Nat.zero_add]) ?_
        refine d_p 4 rfl (p_fieldAddr rfl rfl fd_102_1 sz_77 rfl) (by kernel_rfl) rfl rfl ?_
        refine d_q 5 [] rfl (q_load_at rfl rfl sz_77 (fun w h => HS.nd_cell ho8 h aPk 1 rfl (by decide))) (by kernel_rfl) (by kernel_rfl) (by kernel_rfl) rfl ?_
        refine d_p 6 rfl (p_len_slice rfl rfl Tryz.underlying77) (by kernel_rfl) rfl rfl ?_
        refine d_p 7 rfl (p_fieldAddr rfl rfl fd_24_1 sz_3 rfl) (by kernel_rfl) rfl rfl ?_
        refine d_q 8 [] rfl (q_load rfl rfl sz_3 aPk rfl) (by kernel_rfl) (by kernel_rfl) (by kernel_rfl) rfl ?_
        refine dP 9 ?_
        refine d_nil (by kernel_rfl) (fun w h => by first | exact h | exact h.ent aEt) ?_
        refine s_cond rfl (fun h10 => ?_) (fun h10 => ?_)
        · try simp only [decide_eq_true_eq] at h10
          have hb8 : mo < ((nth (lowR (pln LG)).2 (lowR (pln LG)).1).es.length : Int) := by rw [← hL8, show (lowR (pln LG)).1 = (frsN (pln LG)).1 from rfl, pln_nth ho8]; exact h10
          have hspR := hrt.spl hbR hb8
          refine s_region ?_
          refine oP ?_
          refine o_h (h_callF (Cs := [.blk b4 24 4 [.int .i64 (j : Int), .int .i64 mo, .int .i64 rm, .slice (some ⟨g6, 0, none⟩) (L8).length c6], .blk g6 102 (c6 * 3) ((L8).flatMap LNd.vals), .star ((L8).map (subN 26))]) rfl fn_63 rfl aPs (fun w1 h1 hf => c63 w1 b4 j mo rm g6 c6 L8 0 (frsN (pln LG)).1 hf (by omega) hm6 (by rw [hL8]; exact hspR))) rfl (fun ⟨⟨g7, c7⟩, L9b⟩ hF7 => ?_)
          refine o_nil ?_
          exact s_joinI ((g7, c7), L9b) ⟨by rw [grwRR, if_pos hbR, if_pos hb8, ← hL8]; exact hF7.1, hF7.2.1, hF7.2.2⟩ aSx (fun w h => h.ent aEt)
        · try simp only [decide_eq_false_iff_not] at h10
          have hb8 : ¬ mo < ((nth (lowR (pln LG)).2 (lowR (pln LG)).1).es.length : Int) := by rw [← hL8, show (lowR (pln LG)).1 = (frsN (pln LG)).1 from rfl, pln_nth ho8]; have hq := h10; simp only [LNd.pl]; omega
          refine s_skip ?_
          exact s_joinI ((g6, c6), L8) ⟨by rw [grwRR, if_pos hbR, if_neg hb8]; exact hL8, by simp only []; omega, hm6⟩ aSx (fun w h => h.ent aEt)
      · try simp only [decide_eq_false_iff_not] at h8
        have hbR : ¬ rm < ((nth (pln LG) 0).es.length : Int) := by rw [pln_nth hiG]; have hq := h8; simp only [LNd.pl]; omega
        refine s_skip ?_
        exact s_joinI ((ga, gc), LG) ⟨by rw [grwRR, if_neg hbR], hx4, hx5⟩ aSx (fun w h => h.ent aEt)
    · intro ⟨⟨gz, cz⟩, LZ⟩ hz
      dsimp only
      obtain ⟨hz1, hz2, hz3⟩ := hz
      simp only [] at hz1 hz2 hz3
      refine s_seq ?_
      refine s_region ?_
      refine o_q (q_loadn rfl rfl sz_24 aPk rfl) rfl ?_
      refine o_h0 (h_store rfl rfl rfl sz_24 rfl aPt (by show 4 ≤ 4; omega) rfl) (fun _ _ => ?_)
      refine o_nil ?_
      exact s_retv (rs := [.cell 4 24]) rfl (.cell rfl sz_24 aPk rfl (.nil)) (fun w' h' => ⟨((some ⟨gz, 0, none⟩, cz), LZ), rfl, by rw [hz1, hLG, ← hL9]; rfl, nodes_join (h'.ent (Bs := [.blk gz 102 (cz * 3) (LZ.flatMap LNd.vals), .star (LZ.map (subN 26))]) aEt) hz2 hz3⟩)

end Go.Proofs

/- Chapter 12: the conditions of the acts on given nodes, reckoned; the trees of letters. Plain data. -/
namespace Gx
set_option linter.unusedSimpArgs false
set_option linter.unusedVariables false
set_option linter.unusedSectionVars false
open Go Go.RowKit
/-- One node's rows as all. -/
theorem HS.sub_one {w0 w : World} {M : List Nat} {As : List HA} {a : Option Addr} {c : Nat} {et : Nat} (h : HS w0 M (.own (.slice none 0 0) et 2 0 [] :: .own (.slice none 0 0) 3 1 0 [] :: .own (.slice a 1 c) 102 3 1 [.bool true, .slice none 0 0, .slice none 0 0] :: As) w) : HS w0 M (.own (.slice a 1 c) 102 3 1 [.bool true, .slice none 0 0, .slice none 0 0] :: .star ([(LNd.fre : LNd)].map (subN et)) :: As) w := by
  have h1 := HS.star_close (Bs := [_, _]) h
  have h2 : HS w0 M (.star [.star [.own (.slice none 0 0) et 2 0 [], .own (.slice none 0 0) 3 1 0 []]] :: .own (.slice a 1 c) 102 3 1 [.bool true, .slice none 0 0, .slice none 0 0] :: As) w := HS.star_close (Bs := [_]) h1
  exact h2.perm (List.Perm.swap ..)
def smB (m : Nat) (ns : List Nd) : Bool := ns.all fun n => decide (n.es.length ≤ m) && decide (n.cs.length ≤ m)
theorem smB_ok {m : Nat} {ns : List Nd} (h : smB m ns = true) : Sm m ns := fun k => by
  rcases Nat.lt_or_ge k ns.length with hk | hk
  · have h1 := List.all_eq_true.1 h _ (mem_nth hk)
    simp only [Bool.and_eq_true, decide_eq_true_eq] at h1
    exact h1
  · rw [nth_out hk]
    exact ⟨Nat.zero_le _, Nat.zero_le _⟩
def bdB (ns : List Nd) : Bool := decide (ns.length ≤ 1000) && smB 1000 ns
theorem bdB_ok {ns : List Nd} (h : bdB ns = true) : Bd ns := by
  unfold bdB at h
  simp only [Bool.and_eq_true, decide_eq_true_eq] at h
  exact ⟨h.1, fun i _ => (smB_ok h.2 i).1, fun i _ => (smB_ok h.2 i).2⟩
/-! ## The reference's insertion -/
def spRB (mo : Int) (ns : List Nd) (p i : Nat) : Bool := decide ((0 ≤ mo ∧ mo ≤ 1000) ∧ ns.length ≤ 900 ∧ smB 900 ns = true ∧ i < ns.length ∧ (nth ns i).us = true ∧ splM mo < (nth ns i).es.length ∧ ((nth ns i).cs.length = 0 ∨ splM mo + 1 ≤ (nth ns i).cs.length) ∧ p < ns.length ∧ ixR (nth (splRA mo ns i) p).cs (i : Int) ≤ (nth (splRA mo ns i) p).es.length ∧ ixR (nth (splRA mo ns i) p).cs (i : Int) + 1 ≤ (nth (splRA mo ns i) p).cs.length)
theorem spRB_ok {mo : Int} {ns : List Nd} {p i : Nat} (h : spRB mo ns p i = true) : SpROk mo ns p i := by
  obtain ⟨h1, h2, h3, h4, h5, h6, h7, h8, h9, h10⟩ := of_decide_eq_true h
  exact ⟨h1, h2, smB_ok h3, h4, h5, h6, h7, h8, h9, h10⟩
def grwRB (mo : Int) (P : List Nat) : Nat → List Nd → Bool
  | 0, _ => true
  | k + 1, ns => (decide (nth P (k + 1) < ns.length) && (!decide (mo < ((nth ns (nth P (k + 1))).es.length : Int)) || spRB mo ns (nth P k) (nth P (k + 1)))) && grwRB mo P k (if mo < ((nth ns (nth P (k + 1))).es.length : Int) then splR mo ns (nth P k) (nth P (k + 1)) else ns)
theorem imp_of {p : Prop} [Decidable p] {b : Bool} (h : (!decide p || b) = true) (hp : p) : b = true := by
  rw [decide_eq_true hp] at h
  exact h
theorem grwRB_ok {mo : Int} {P : List Nat} : ∀ {k : Nat} {ns : List Nd}, grwRB mo P k ns = true → GrwROk mo P k ns
  | 0, _, _ => trivial
  | k + 1, ns, h => by
    unfold grwRB at h
    rw [Bool.and_eq_true, Bool.and_eq_true, decide_eq_true_eq] at h
    exact ⟨⟨h.1.1, fun hp => spRB_ok (imp_of h.1.2 hp)⟩, grwRB_ok h.2⟩
def rootRB (mo rm : Int) (ns : List Nd) : Bool := decide (0 < ns.length ∧ ns.length ≤ 900 ∧ (nth ns 0).us = true ∧ (rm < ((nth ns 0).es.length : Int) → mo < ((nth (lowR ns).2 (lowR ns).1).es.length : Int) → spRB mo (lowR ns).2 0 (lowR ns).1 = true))
theorem rootRB_ok {mo rm : Int} {ns : List Nd} (h : rootRB mo rm ns = true) : RootROk mo rm ns := by
  obtain ⟨h1, h2, h3, h4⟩ := of_decide_eq_true h
  exact ⟨h1, h2, h3, fun a b => spRB_ok (h4 a b)⟩
def insRBk (co mo rm : Int) (ns : List Nd) (x : TEnt) : Bool := decide (0 < (pathN co ns x.key).1.length ∧ (pathN co ns x.key).1.length ≤ 900 ∧ lastN (pathN co ns x.key).1 < ns.length ∧ grwRB mo (pathN co ns x.key).1 ((pathN co ns x.key).1.length - 1) (insRB co ns x) = true ∧ rootRB mo rm (grwRW mo (pathN co ns x.key).1 ((pathN co ns x.key).1.length - 1) (insRB co ns x)) = true)
theorem insRBk_ok {co mo rm : Int} {ns : List Nd} {x : TEnt} (h : insRBk co mo rm ns x = true) : InsROk co mo rm ns x := by
  obtain ⟨h1, h2, h3, h4, h5⟩ := of_decide_eq_true h
  exact ⟨h1, h2, h3, grwRB_ok h4, rootRB_ok h5⟩
/-! ## The program's insertion -/
def spB (mo : Int) (ns : List Nd) (i : Nat) : Bool := decide ((0 ≤ mo ∧ mo ≤ 1000) ∧ ns.length ≤ 900 ∧ smB 900 ns = true ∧ i < ns.length ∧ (nth ns i).us = true ∧ splM mo < (nth ns i).es.length ∧ ((nth ns i).cs.length = 0 ∨ splM mo + 1 ≤ (nth ns i).cs.length) ∧ (parN (i : Int) (splA mo ns i) 0).1 < (splA mo ns i).length ∧ (parN (i : Int) (splA mo ns i) 0).2 ≤ (nth (splA mo ns i) (parN (i : Int) (splA mo ns i) 0).1).es.length ∧ (parN (i : Int) (splA mo ns i) 0).2 + 1 ≤ (nth (splA mo ns i) (parN (i : Int) (splA mo ns i) 0).1).cs.length)
theorem spB_ok {mo : Int} {ns : List Nd} {i : Nat} (h : spB mo ns i = true) : SpOk mo ns i := by
  obtain ⟨h1, h2, h3, h4, h5, h6, h7, h8, h9, h10⟩ := of_decide_eq_true h
  exact ⟨h1, h2, smB_ok h3, h4, h5, h6, h7, h8, h9, h10⟩
def grwB (mo : Int) : List Nd → List Nat → Bool
  | _, [] => true
  | ns, i :: P => (decide (i < ns.length) && (!decide (0 < i ∧ mo < ((nth ns i).es.length : Int)) || spB mo ns i)) && grwB mo (grw1 mo ns i) P
theorem grwB_ok {mo : Int} : ∀ {P : List Nat} {ns : List Nd}, grwB mo ns P = true → GrwOk mo ns P
  | [], _, _ => trivial
  | i :: P, ns, h => by
    unfold grwB at h
    rw [Bool.and_eq_true, Bool.and_eq_true, decide_eq_true_eq] at h
    exact ⟨⟨h.1.1, fun a b => spB_ok (imp_of h.1.2 ⟨a, b⟩)⟩, grwB_ok h.2⟩
def rootB (mo rm : Int) (ns : List Nd) : Bool := decide (0 < ns.length ∧ ns.length ≤ 900 ∧ (nth ns 0).us = true ∧ (rm < ((nth ns 0).es.length : Int) → mo < ((nth (lowN ns).2 (lowN ns).1).es.length : Int) → spB mo (lowN ns).2 (lowN ns).1 = true))
theorem rootB_ok {mo rm : Int} {ns : List Nd} (h : rootB mo rm ns = true) : RootOk mo rm ns := by
  obtain ⟨h1, h2, h3, h4⟩ := of_decide_eq_true h
  exact ⟨h1, h2, h3, fun a b => spB_ok (h4 a b)⟩
def insOB (co mo rm : Int) (ns : List Nd) (x : TEnt) : Bool := decide (0 < (pathN co ns x.key).1.length ∧ (pathN co ns x.key).1.length ≤ 900 ∧ leafN co ns x.key < ns.length ∧ (nth ns (leafN co ns x.key)).es.length ≤ 900 ∧ (pathN co ns x.key).2.1 ≤ (nth ns (leafN co ns x.key)).es.length ∧ grwB mo (insB co ns x) (pathN co ns x.key).1.reverse = true ∧ rootB mo rm (grwW mo (insB co ns x) (pathN co ns x.key).1.reverse) = true)
theorem insOB_ok {co mo rm : Int} {ns : List Nd} {x : TEnt} (h : insOB co mo rm ns x = true) : InsOk co mo rm ns x := by
  obtain ⟨h1, h2, h3, h4, h5, h6, h7⟩ := of_decide_eq_true h
  exact ⟨h1, h2, h3, h4, h5, grwB_ok h6, rootB_ok h7⟩
/-! ## The program's removal -/
def filB (mo : Int) (ns : List Nd) (p k : Nat) : Bool := decide ((0 ≤ mo ∧ mo ≤ 1000) ∧ p < ns.length ∧ k < (nth ns p).cs.length ∧ (nth ns p).cs.length = (nth ns p).es.length + 1 ∧ (∀ x, x < (nth ns p).cs.length → 0 ≤ (nth ns p).cs.getD x 0 ∧ kdN ns p x < ns.length ∧ p ≠ kdN ns p x) ∧ (∀ x, x < (nth ns p).cs.length → ∀ y, y < (nth ns p).cs.length → x ≠ y → kdN ns p x ≠ kdN ns p y) ∧ ns.length ≤ 900 ∧ smB 900 ns = true)
theorem filB_ok {mo : Int} {ns : List Nd} {p k : Nat} (h : filB mo ns p k = true) : FilOk mo ns p k := by
  obtain ⟨h1, h2, h3, h4, h5, h6, h7, h8⟩ := of_decide_eq_true h
  exact ⟨h1, h2, h3, h4, h5, fun x y hx hy => h6 x hx y hy, h7, smB_ok h8⟩
def filsB (mo : Int) : List Nd → List Nat → Bool
  | _, [] => true
  | ns, i :: P => (decide (i < ns.length) && (!decide (0 < i ∧ ((nth ns i).es.length : Int) < mo / 2) || filB mo ns (parN (i : Int) ns 0).1 (parN (i : Int) ns 0).2)) && filsB mo (fil1 mo ns i) P
theorem filsB_ok {mo : Int} : ∀ {P : List Nat} {ns : List Nd}, filsB mo ns P = true → FilsOk mo ns P
  | [], _, _ => trivial
  | i :: P, ns, h => by
    unfold filsB at h
    rw [Bool.and_eq_true, Bool.and_eq_true, decide_eq_true_eq] at h
    exact ⟨⟨h.1.1, fun a b => filB_ok (imp_of h.1.2 ⟨a, b⟩)⟩, filsB_ok h.2⟩
def rotB (ns : List Nd) : Bool := decide (0 < ns.length ∧ ns.length ≤ 900 ∧ (nth ns 0).us = true ∧ ((nth ns 0).cs.length = 1 → 0 < (nth ns 0).cs.getD 0 0 ∧ kdN ns 0 0 < ns.length ∧ (nth ns (kdN ns 0 0)).us = true))
theorem rotB_ok {rm : Int} {ns : List Nd} (h : rotB ns = true) : RotOk rm ns := by
  obtain ⟨h1, h2, h3, h4⟩ := of_decide_eq_true h
  exact ⟨h1, h2, h3, h4⟩
def rgtB (ns : List Nd) : Nat → Nat → Bool
  | 0, _ => false
  | f + 1, i => decide (i < ns.length) && (decide ((nth ns i).cs.length = 0) || (decide (0 ≤ (nth ns i).cs.getD ((nth ns i).cs.length - 1) 0) && rgtB ns f (kdN ns i ((nth ns i).cs.length - 1))))
theorem rgtB_ok {ns : List Nd} : ∀ {f i : Nat}, rgtB ns f i = true → RgtOk ns f i
  | 0, _, h => (nomatch h)
  | f + 1, i, h => by
    unfold rgtB at h
    rw [Bool.and_eq_true, Bool.or_eq_true, Bool.and_eq_true, decide_eq_true_eq, decide_eq_true_eq, decide_eq_true_eq] at h
    refine ⟨h.1, ?_⟩
    rcases h.2 with h2 | h2
    · exact .inl h2
    · exact .inr ⟨h2.1, rgtB_ok h2.2⟩
def remB (mo rm : Int) (ns : List Nd) (P : List Nat) (k : Nat) : Bool := decide ((0 ≤ mo ∧ mo ≤ 1000) ∧ 0 < P.length ∧ P.length ≤ 900 ∧ ns.length ≤ 900 ∧ smB 900 ns = true ∧ lastN P < ns.length ∧ k < (nth ns (lastN P)).es.length ∧ (0 < (nth ns (lastN P)).cs.length → k < (nth ns (lastN P)).cs.length ∧ 0 ≤ (nth ns (lastN P)).cs.getD k 0 ∧ rgtB ns ns.length (kdN ns (lastN P) k) = true ∧ lastN P ≠ lastN (remQ ns P k) ∧ 0 < (nth ns (lastN (remQ ns P k))).es.length ∧ lastN (remQ ns P k) < ns.length) ∧ (0 < (remQ ns P k).length ∧ (remQ ns P k).length ≤ 1900) ∧ lastN (remQ ns P k) < ns.length ∧ remK ns P k < (nth (rem1 ns P k) (lastN (remQ ns P k))).es.length ∧ smB 900 (rem1 ns P k) = true ∧ filsB mo (rem2 ns P k) (remQ ns P k).reverse = true ∧ rotB (filW mo (rem2 ns P k) (remQ ns P k).reverse) = true)
theorem remB_ok {mo rm : Int} {ns : List Nd} {P : List Nat} {k : Nat} (h : remB mo rm ns P k = true) : RemOk mo rm ns P k := by
  obtain ⟨h1, h2, h3, h4, h5, h6, h7, h8, h9, h10, h11, h12, h13, h14⟩ := of_decide_eq_true h
  exact ⟨h1, h2, h3, h4, smB_ok h5, h6, h7, fun a => ⟨(h8 a).1, (h8 a).2.1, rgtB_ok (h8 a).2.2.1, (h8 a).2.2.2⟩, h9, h10, h11, smB_ok h12, filsB_ok h13, rotB_ok h14⟩
/-! ## Letters -/
def ltrK (k : Nat) : TEnt := ⟨[UInt8.ofNat (97 + k)], []⟩
def ltrs : Nat → List Nd
  | 0 => [⟨true, [], []⟩]
  | k + 1 => insR 0 4 2 (ltrs k) (ltrK k)
theorem ltr_wrap : ∀ k, k < 11 → IntKind.u8.wrap (((97 + k : Nat) : Int) + 1) = ((97 + (k + 1) : Nat) : Int) := by decide
def letB (k : Nat) : Bool := decide (0 < (ltrs k).length) && (bdB (ltrs k) && (decide ((nodsE ⟨0, 4, 2, ltrs k⟩ (ltrs k).length 0 []).2 = 0) && (insRBk 0 4 2 (ltrs k) (ltrK k) && keyOk 0 (ltrK k).key)))
structure LetOk (k : Nat) : Prop where
  n0 : 0 < (ltrs k).length
  bd : Bd (ltrs k)
  tok : TOk 0 (ltrs k)
  ins : InsROk 0 4 2 (ltrs k) (ltrK k)
  key : keyOk 0 (ltrK k).key = true
theorem letB_ok {k : Nat} (h : letB k = true) : LetOk k := by
  unfold letB at h
  simp only [Bool.and_eq_true, decide_eq_true_eq] at h
  exact ⟨h.1, bdB_ok h.2.1, tok_of (t := ⟨0, 4, 2, ltrs k⟩) h.2.2.1, insRBk_ok h.2.2.2.1, h.2.2.2.2⟩
set_option maxRecDepth 100000 in
theorem letB_all : (List.range 11).all letB = true := by decide +kernel
theorem letOk {k : Nat} (h : k < 11) : LetOk k := letB_ok (List.all_eq_true.1 letB_all k (List.mem_range.2 h))
/-! ## What the examples answer -/
abbrev aK : TEnt := ⟨[107], []⟩
abbrev i0 : Int := ((0 : Nat) : Int)
theorem klen_tok {co : Int} {L : List LNd} (h : TOk co (pln L)) : ∀ i, i < L.length → ∀ x ∈ (nth L i).es, x.key.length ≤ 1000000 := fun i hi x hx => (tok_key h i (by rw [pln_len]; exact hi) x (by rw [pln_nth hi]; exact hx)).2
set_option maxRecDepth 100000 in
theorem aw_t10 : (treE ⟨i0, 4, 2, ltrs 10⟩).2 = 0 := by decide +kernel
set_option maxRecDepth 100000 in
theorem aw_t11 : (treE ⟨i0, 4, 2, ltrs 11⟩).2 = 0 := by decide +kernel
set_option maxRecDepth 100000 in
theorem aw_b11 : bdB (ltrs 11) = true := by decide +kernel
set_option maxRecDepth 100000 in
theorem aw_b10 : bdB (ltrs 10) = true := by decide +kernel
theorem aw_e : entE i0 aK = 0 := by decide +kernel
set_option maxRecDepth 100000 in
theorem aw_ins : insOB i0 4 2 (ltrs 10) aK = true := by decide +kernel
set_option maxRecDepth 100000 in
theorem aw_i0 : insE i0 4 2 (ltrs 10) aK = 0 := by decide +kernel
set_option maxRecDepth 100000 in
theorem aw_c1 : chgN (ltrs 10) (insT i0 4 2 (ltrs 10) aK) = [0, 3, 4, 5] := by decide +kernel
set_option maxRecDepth 100000 in
theorem aw_l1 : (insT i0 4 2 (ltrs 10) aK).length = 6 := by decide +kernel
set_option maxRecDepth 100000 in
theorem aw_s1 : smB 100000 (insT i0 4 2 (ltrs 10) aK) = true := by decide +kernel
theorem aw_k1 : keyE i0 [101] = 0 := by decide +kernel
theorem aw_k2 : keyE i0 [99] = 0 := by decide +kernel
set_option maxRecDepth 100000 in
theorem aw_p : (pathN i0 (ltrs 11) [101]).1 = [0, 5, 2] ∧ (pathN i0 (ltrs 11) [101]).2.2 = true := by decide +kernel
set_option maxRecDepth 100000 in
theorem aw_q : (pathN i0 (ltrs 11) [99]).2.2 = true := by decide +kernel
abbrev aR : List Nd := remN 4 2 (ltrs 11) (pathN i0 (ltrs 11) [99]).1 (pathN i0 (ltrs 11) [99]).2.1
set_option maxRecDepth 100000 in
theorem aw_r : remB 4 2 (ltrs 11) (pathN i0 (ltrs 11) [99]).1 (pathN i0 (ltrs 11) [99]).2.1 = true := by decide +kernel
set_option maxRecDepth 100000 in
theorem aw_c2 : chgN (ltrs 11) aR = [0, 1, 2, 5] := by decide +kernel
set_option maxRecDepth 100000 in
theorem aw_l2 : aR.length = 5 := by decide +kernel
set_option maxRecDepth 100000 in
theorem aw_s2 : smB 100000 aR = true := by decide +kernel
end Gx

namespace Go.Proofs
open Go Go.RowKit Gx
set_option linter.unusedVariables false
set_option linter.unusedSimpArgs false
attribute [local irreducible] Go.Calls Gx.S Gx.O Gx.D Gx.OpP Gx.OpQ Gx.OpH

theorem fn_32 : isFn Tryz.prog 32 = true := by kernel_rfl
theorem zr_5 : tzero Tryz.prog 5 = some [.int .u8 0] := by kernel_rfl
theorem pl_26 : tplaces Tryz.prog 26 = some [(0, 1), (1, 1)] := by kernel_rfl
theorem fn_22 : isFn Tryz.prog 22 = true := by kernel_rfl


set_option maxRecDepth 20000 in
set_option maxHeartbeats 400000 in
theorem c56 (w : World) (N : Nat) (hN : N ≤ 11) : Calls Tryz.prog 56 #[.int .u8 ((96 + N : Nat) : Int)] w fun en w' => ∃ g : (Option Addr × Nat) × List LNd, en = .returned (.agg #[.int .i64 0, .int .i64 4, .int .i64 2, .slice g.1.1 g.2.length g.1.2]) ∧ pln g.2 = ltrs N ∧ HS w [] [.nodes 26 102 g.1.1 g.1.2 g.2] w' := by
  refine enter (args := [_]) Tryz.func56 Tryz.ntmps56 rfl rfl (HS.refl w []) ?_
  refine s_seq ?_
  refine s_region ?_
  refine o_h (h_alloc rfl zr_24) rfl (fun b1 _ => ?_)
  refine o_nil ?_
  refine s_seq ?_
  refine s_region ?_
  refine o_h (h_call rfl fn_32 rfl (fun w1 h1 => c32 w1 0 4 2)) rfl (fun b2 _ => ?_)
  refine o_h (h_alloc rfl zr_24) rfl (fun b3 _ => ?_)
  refine o_h0 (h_store rfl rfl rfl sz_24 rfl aPt (by simp only [setMany_length, List.length_set, List.length_cons, List.length_nil, List.length_map]; omega) rfl) (fun _ _ => ?_)
  refine o_nil ?_
  refine s_seq ?_
  refine s_seq ?_
  refine s_region ?_
  refine oP ?_
  refine o_nil ?_
  refine s_block ?_
  refine s_loopI (α := Nat × (Option Addr × Nat) × List LNd) [4, 6, 7, 8, 9, 10, 11, 12, 13, 14, 15, 16, 17, 18, 19, 20] (fun y => [(4, .int .u8 ((97 + y.1 : Nat) : Int))]) (fun y => HS w [] [.nodes 26 102 y.2.1.1 y.2.1.2 y.2.2, .blk b3 24 4 [.int .i64 0, .int .i64 4, .int .i64 2, .slice y.2.1.1 (y.2.2).length y.2.1.2], .blk b1 24 4 [.int .i64 0, .int .i64 0, .int .i64 0, .slice none 0 0]]) (fun y => y.1 ≤ N ∧ pln y.2.2 = ltrs y.1) (fun y => N - y.1) (0, (b2.1, b2.2), [(LNd.fre : LNd)]) ⟨Nat.zero_le _, rfl⟩ aSx (fun w h => by have h3 := HS.row_shut (a := b2.1) (cap := b2.2) (l := [(LNd.fre : LNd)]) (sub := subN 26) (t := 102) (sz := 3) (vals := LNd.vals) (n := 1) (HS.sub_one (((h.own_nil 3 1).own_nil 26 2).ent (Bs := [.own (.slice none 0 0) 26 2 0 [], .own (.slice none 0 0) 3 1 0 [], .own (.slice b2.1 1 b2.2) 102 3 1 [.bool true, .slice none 0 0, .slice none 0 0], .blk b3 24 4 [.int .i64 0, .int .i64 4, .int .i64 2, .slice b2.1 ([(LNd.fre : LNd)]).length b2.2], .blk b1 24 4 [.int .i64 0, .int .i64 0, .int .i64 0, .slice none 0 0]]) aEt)) rfl rfl; exact HS.ent (As := [.nodes 26 102 b2.1 b2.2 [(LNd.fre : LNd)], .blk b3 24 4 [.int .i64 0, .int .i64 4, .int .i64 2, .slice b2.1 ([(LNd.fre : LNd)]).length b2.2], .blk b1 24 4 [.int .i64 0, .int .i64 0, .int .i64 0, .slice none 0 0]]) aEt h3) (fun ⟨k, ⟨ga, gc⟩, Lk⟩ hx => ?_)
  dsimp only
  obtain ⟨hk1, hk2⟩ := hx
  simp only [] at hk1 hk2
  refine s_seq ?_
  refine s_seq ?_
  refine s_region ?_
  refine oP ?_
  refine oP ?_
  refine oP ?_
  refine oP ?_
  refine o_and 3 9 12 _ _ rfl
    (by
      intro hg4
      have hs5 := hg4; try simp only [decide_eq_true_eq] at hs5
      refine o_on 9 _ rfl rfl hg4 ?_
      refine oP ?_
      refine o_on 9 _ rfl rfl hg4 ?_
      refine oP ?_
      refine o_p (p_pickt rfl rfl hg4 rfl) rfl ?_
      refine o_nil ?_
      exact s_joinN 3 12 _ rfl rfl rfl (fun w h => by first | exact h | exact h.ent aEt))
    (by
      intro hg6
      have hs7 := hg6; try simp only [decide_eq_false_iff_not] at hs7
      refine o_off 9 _ rfl rfl hg6 rfl ?_
      refine o_off 9 _ rfl rfl hg6 rfl ?_
      refine o_p (p_pickf rfl rfl hg6 rfl) rfl ?_
      refine o_nil ?_
      exact s_joinN 3 12 _ rfl rfl rfl (fun w h => by first | exact h | exact h.ent aEt)) ?_
  refine o_nil ?_
  refine s_cond rfl (fun h8 => ?_) (fun h8 => ?_)
  · try simp only [Bool.and_eq_true, decide_eq_true_eq] at h8
    have hkN : k < N := by omega
    obtain ⟨hl0, hlB, hlT, hlI, hlK⟩ := letOk (show k < 11 by omega)
    rw [← hk2] at hl0 hlB hlT hlI
    rw [pln_len] at hl0
    refine s_skip ?_
    refine s_seq ?_
    refine s_block ?_
    refine s_region ?_
    refine o_q (q_loadn rfl rfl sz_24 aPk rfl) rfl ?_
    refine oP ?_
    refine o_h (h_buildSlice (cs := [_]) rfl rfl sl_150 zr_5 rfl rfl rfl) rfl (fun b9 _ => ?_)
    refine o_q (q_string_blk rfl rfl Tryz.underlying150 Tryz.underlying9 Tryz.underlying5 aPk (by simp) (by simp [isU8])) rfl ?_
    refine o_p (p_build (cs := [_, _]) rfl rfl pl_26 zr_26 rfl) rfl ?_
    refine o_h (h_call rfl fn_22 rfl (fun w1 h1 => c22 w1 0 4 2 ga gc Lk (ltrK k) (by decide) hl0 hlB hlT (HS.nt h1 aPk) hlK (by show 1 ≤ 1000000; decide) hlI)) rfl (fun ⟨gd, L5⟩ hF5 => ?_)
    dsimp only
    refine o_h0 (h_store rfl rfl rfl sz_24 rfl aPt (by simp only [setMany_length, List.length_set, List.length_cons, List.length_nil, List.length_map]; omega) rfl) (fun _ _ => ?_)
    refine o_nil ?_
    refine s_blk ?_
    refine s_region ?_
    refine oP ?_
    refine oP ?_
    try (refine o_slot (u8add _ _) ?_)
    refine o_slot (show _ = Value.int .u8 ((97 + (k + 1) : Nat) : Int) from congrArg (Value.int .u8) (ltr_wrap k (by omega))) ?_
    refine oP ?_
    refine o_nil ?_
    exact s_backI (k + 1, (gd.1, gd.2), L5) (by (try simp only []); omega) ⟨by (try simp only []); omega, by simp only []; rw [hF5, hk2]; rfl⟩ aSx (fun w h => h.ent aEt)
  · try simp only [Bool.and_eq_false_iff, decide_eq_false_iff_not] at h8
    obtain rfl : k = N := by omega
    refine s_exit_to rfl ?_
    refine s_seq ?_
    refine s_region ?_
    refine o_q (q_loadn rfl rfl sz_24 aPk rfl) rfl ?_
    refine o_h0 (h_store rfl rfl rfl sz_24 rfl aPt (by simp only [setMany_length, List.length_set, List.length_cons, List.length_nil, List.length_map]; omega) rfl) (fun _ _ => ?_)
    refine o_nil ?_
    exact s_retv (rs := [.cell 2 24]) rfl (.cell rfl sz_24 aPk rfl (.nil)) (fun w' h' => ⟨((ga, gc), Lk), rfl, hk2, h'.ent aEt⟩)

end Go.Proofs

namespace Go.Proofs
open Go Go.RowKit Gx
set_option linter.unusedVariables false
set_option linter.unusedSimpArgs false
attribute [local irreducible] Go.Calls Gx.S Gx.O Gx.D Gx.OpP Gx.OpQ Gx.OpH

theorem fn_56 : isFn Tryz.prog 56 = true := by kernel_rfl
theorem fn_16 : isFn Tryz.prog 16 = true := by kernel_rfl
theorem fn_35 : isFn Tryz.prog 35 = true := by kernel_rfl
theorem fn_25 : isFn Tryz.prog 25 = true := by kernel_rfl
theorem fn_28 : isFn Tryz.prog 28 = true := by kernel_rfl
theorem fn_23 : isFn Tryz.prog 23 = true := by kernel_rfl


set_option maxRecDepth 20000 in
set_option maxHeartbeats 400000 in
theorem c13 (w : World)  : Calls Tryz.prog 13 #[] w fun en w' => en = .returned (.bool true) ∧ Below w.heap.size w w' := by
  refine enter (args := []) Tryz.func13 Tryz.ntmps13 rfl rfl (HS.refl w []) ?_
  refine s_seq ?_
  refine s_region ?_
  refine oP ?_
  refine o_nil ?_
  refine s_seq ?_
  refine s_region ?_
  refine o_h (h_call rfl fn_56 rfl (fun w1 h1 => c56 w1 10 (by decide))) rfl (fun ⟨⟨ga1, gc1⟩, L1⟩ hL1 => ?_)
  dsimp only
  refine o_p (p_build (cs := [_, _]) rfl rfl pl_26 zr_26 rfl) rfl ?_
  refine o_h (h_call rfl fn_16 rfl (fun w1 h1 => c16o w1 0 4 2 (ga1) gc1 L1 aK (HS.nt h1 aPk) (by rw [hL1]; exact (bdB_ok (by exact aw_b10))) (klen_tok (co := i0) (by rw [hL1]; exact tok_of (t := ⟨i0, 4, 2, ltrs 10⟩) (treE_0 aw_t10).2.2.2.2.1)) (by rw [hL1]; exact aw_t10) (by decide) aw_e (fun _ => by rw [hL1]; exact insOB_ok aw_ins) (by rw [hL1]; exact aw_i0) (by rw [hL1]; exact smB_ok aw_s1))) rfl (fun ⟨⟨⟨gi, ci⟩, LI⟩, ⟨qa1, qc1⟩⟩ hFI => ?_)
  dsimp only
  have hLI : LI.length = 6 := by rw [← pln_len, hFI, hL1]; exact aw_l1
  rw [hL1, aw_c1, hLI]
  refine oP ?_
  refine oP ?_
  refine oP ?_
  refine oP ?_
  refine o_h (h_alloc rfl zr_24) rfl (fun b1 _ => ?_)
  refine o_h0 (h_store rfl rfl rfl sz_24 rfl aPt (by show 4 ≤ 4; omega) rfl) (fun _ _ => ?_)
  refine oP ?_
  refine oP ?_
  refine o_nil ?_
  refine s_seq ?_
  refine s_region ?_
  refine o_h (h_call rfl fn_56 rfl (fun w1 h1 => c56 w1 11 (by decide))) rfl (fun ⟨⟨ga2, gc2⟩, L2⟩ hL2 => ?_)
  dsimp only
  refine o_h (h_call rfl fn_35 rfl (fun w1 h1 => c35o w1 0 4 2 ga2 gc2 L2 [101] (HS.nt h1 aPk) (by rw [hL2]; exact (bdB_ok (by exact aw_b11))) (klen_tok (co := i0) (by rw [hL2]; exact tok_of (t := ⟨i0, 4, 2, ltrs 11⟩) (treE_0 aw_t11).2.2.2.2.1)) (by rw [hL2]; exact aw_t11) (by decide) aw_k1)) rfl (fun ⟨qa2, qc2⟩ _ => ?_)
  dsimp only
  rw [hL2, aw_p.1, aw_p.2]
  refine oP ?_
  refine oP ?_
  refine oP ?_
  refine oP ?_
  refine oP ?_
  refine oP ?_
  refine oP ?_
  refine o_nil ?_
  refine s_seq ?_
  refine s_region ?_
  refine o_h (h_call rfl fn_56 rfl (fun w1 h1 => c56 w1 11 (by decide))) rfl (fun ⟨⟨ga3, gc3⟩, L3⟩ hL3 => ?_)
  dsimp only
  refine o_h (h_call rfl fn_25 rfl (fun w1 h1 => c25o w1 0 4 2 ga3 gc3 L3 [99] (HS.nt h1 aPk) (by rw [hL3]; exact (bdB_ok (by exact aw_b11))) (klen_tok (co := i0) (by rw [hL3]; exact tok_of (t := ⟨i0, 4, 2, ltrs 11⟩) (treE_0 aw_t11).2.2.2.2.1)) (by rw [hL3]; exact aw_t11) (by decide) aw_k2 (by rw [hL3]; exact aw_q) (by rw [hL3]; exact remB_ok aw_r) (by rw [hL3]; exact smB_ok aw_s2) (by rw [hL3]; exact (by rw [aw_l2]; decide)))) rfl (fun ⟨⟨⟨gr, cr⟩, LR⟩, ⟨qa3, qc3⟩⟩ hFR => ?_)
  dsimp only
  have hLR : LR.length = 5 := by rw [← pln_len, hFR, hL3]; exact aw_l2
  rw [hL3, aw_c2, hLR]
  refine oP ?_
  refine oP ?_
  refine oP ?_
  refine oP ?_
  refine o_h (h_alloc rfl zr_24) rfl (fun b2 _ => ?_)
  refine o_h0 (h_store rfl rfl rfl sz_24 rfl aPt (by show 4 ≤ 4; omega) rfl) (fun _ _ => ?_)
  refine oP ?_
  refine oP ?_
  refine o_nil ?_
  refine s_seq ?_
  refine s_region ?_
  refine o_q (q_call rfl fn_28 rfl (fun w1 h1 => c28 w1 1 [97] [66] (by decide) (by decide))) rfl ?_
  refine oP ?_
  refine oP ?_
  refine oP ?_
  refine oP ?_
  refine oP ?_
  refine o_nil ?_
  refine s_seq ?_
  refine s_weaken (L' := [(0, _), (1, _), (2, _), (3, _), (4, _), (5, _), (6, _), (7, _), (8, _), (9, _), (10, _), (11, _)]) aSx (fun _ h => h) ?_
  refine s_region ?_
  refine oP ?_
  refine oP ?_
  refine oP ?_
  refine o_and 4 37 41 _ _ rfl
    (by
      intro hg3
      have hs4 := hg3; try simp only [decide_eq_true_eq] at hs4
      refine o_on 37 _ rfl rfl hg3 ?_
      refine oP ?_
      refine o_on 37 _ rfl rfl hg3 ?_
      refine o_h (h_buildSlice (cs := [_, _, _, _]) rfl rfl sl_30 zr_3 rfl rfl rfl) rfl (fun b5 _ => ?_)
      refine o_on 37 _ rfl rfl hg3 ?_
      refine o_q (q_call rfl fn_23 rfl (fun w1 h1 => c23 w1 qa1 (some ⟨b5, 0, none⟩) qc1 4 [0, 3, 4, 5] [0, 3, 4, 5] (HS.pown_row (P := [0, 3, 4, 5]) h1 aPk) (h1.rw_blk (l := [0, 3, 4, 5]) iv1 aPk) (by decide) (by decide))) rfl ?_
      refine o_p (p_pickt rfl rfl hg3 rfl) rfl ?_
      refine o_nil ?_
      exact s_joinN 4 41 _ rfl rfl rfl (fun w h => by first | exact h | exact h.ent aEt))
    (by
      intro hg6
      have hs7 := hg6; try simp only [decide_eq_false_iff_not] at hs7
      refine o_off 37 _ rfl rfl hg6 rfl ?_
      refine o_off 37 _ rfl rfl hg6 rfl ?_
      refine o_off 37 _ rfl rfl hg6 rfl ?_
      refine o_p (p_pickf rfl rfl hg6 rfl) rfl ?_
      refine o_nil ?_
      exact s_joinN 4 41 _ rfl rfl rfl (fun w h => by first | exact h | exact h.ent aEt)) ?_
  refine oP ?_
  refine o_and 5 42 47 _ _ rfl
    (by
      intro hg8
      have hs9 := hg8; try simp only [Bool.and_eq_true, decide_eq_true_eq] at hs9
      refine o_on 42 _ rfl rfl hg8 ?_
      refine o_p (p_fieldAddr rfl rfl fd_24_3 sz_22 rfl) rfl ?_
      refine o_on 42 _ rfl rfl hg8 ?_
      refine o_q (q_load rfl rfl sz_22 aPk rfl) rfl ?_
      refine o_on 42 _ rfl rfl hg8 ?_
      refine o_p (p_len_slice rfl rfl Tryz.underlying22) rfl ?_
      refine o_on 42 _ rfl rfl hg8 ?_
      refine oP ?_
      refine o_p (p_pickt rfl rfl hg8 rfl) rfl ?_
      refine o_nil ?_
      exact s_joinN 5 47 _ rfl rfl rfl (fun w h => by first | exact h | exact h.ent aEt))
    (by
      intro hg10
      have hs11 := hg10; try simp only [Bool.and_eq_false_iff, decide_eq_false_iff_not] at hs11
      refine o_off 42 _ rfl rfl hg10 rfl ?_
      refine o_off 42 _ rfl rfl hg10 rfl ?_
      refine o_off 42 _ rfl rfl hg10 rfl ?_
      refine o_off 42 _ rfl rfl hg10 rfl ?_
      refine o_p (p_pickf rfl rfl hg10 rfl) rfl ?_
      refine o_nil ?_
      exact s_joinN 5 47 _ rfl rfl rfl (fun w h => by first | exact h | exact h.ent aEt)) ?_
  refine oP ?_
  refine o_and 3 48 51 _ _ rfl
    (by
      intro hg12
      have hs13 := hg12; try simp only [Bool.and_eq_true, decide_eq_true_eq] at hs13
      refine o_on 48 _ rfl rfl hg12 ?_
      refine oP ?_
      refine o_on 48 _ rfl rfl hg12 ?_
      refine oP ?_
      refine o_p (p_pickt rfl rfl hg12 rfl) rfl ?_
      refine o_nil ?_
      exact s_joinN 3 51 _ rfl rfl rfl (fun w h => by first | exact h | exact h.ent aEt))
    (by
      intro hg14
      have hs15 := hg14; try simp only [Bool.and_eq_false_iff, decide_eq_false_iff_not] at hs15
      refine o_off 48 _ rfl rfl hg14 rfl ?_
      refine o_off 48 _ rfl rfl hg14 rfl ?_
      refine o_p (p_pickf rfl rfl hg14 rfl) rfl ?_
      refine o_nil ?_
      exact s_joinN 3 51 _ rfl rfl rfl (fun w h => by first | exact h | exact h.ent aEt)) ?_
  refine oP ?_
  refine o_and 2 52 54 _ _ rfl
    (by
      intro hg16
      have hs17 := hg16; try simp only [Bool.and_eq_true, decide_eq_true_eq] at hs17
      refine o_on 52 _ rfl rfl hg16 ?_
      refine oP ?_
      refine o_p (p_pickt rfl rfl hg16 rfl) rfl ?_
      refine o_nil ?_
      exact s_joinN 2 54 _ rfl rfl rfl (fun w h => by first | exact h | exact h.ent aEt))
    (by
      intro hg18
      have hs19 := hg18; try simp only [Bool.and_eq_false_iff, decide_eq_false_iff_not] at hs19
      refine o_off 52 _ rfl rfl hg18 rfl ?_
      refine o_p (p_pickf rfl rfl hg18 rfl) rfl ?_
      refine o_nil ?_
      exact s_joinN 2 54 _ rfl rfl rfl (fun w h => by first | exact h | exact h.ent aEt)) ?_
  refine oP ?_
  refine o_and 4 55 59 _ _ rfl
    (by
      intro hg20
      have hs21 := hg20; try simp only [Bool.and_eq_true, decide_eq_true_eq] at hs21
      refine o_on 55 _ rfl rfl hg20 ?_
      refine oP ?_
      refine o_on 55 _ rfl rfl hg20 ?_
      refine o_h (h_buildSlice (cs := [_, _, _]) rfl rfl sl_30 zr_3 rfl rfl rfl) rfl (fun b22 _ => ?_)
      refine o_on 55 _ rfl rfl hg20 ?_
      refine o_q (q_call rfl fn_23 rfl (fun w1 h1 => c23 w1 qa2 (some ⟨b22, 0, none⟩) qc2 3 [0, 5, 2] [0, 5, 2] (HS.pown_row (P := [0, 5, 2]) h1 aPk) (h1.rw_blk (l := [0, 5, 2]) iv1 aPk) (by decide) (by decide))) rfl ?_
      refine o_p (p_pickt rfl rfl hg20 rfl) rfl ?_
      refine o_nil ?_
      exact s_joinN 4 59 _ rfl rfl rfl (fun w h => by first | exact h | exact h.ent aEt))
    (by
      intro hg23
      have hs24 := hg23; try simp only [Bool.and_eq_false_iff, decide_eq_false_iff_not] at hs24
      refine o_off 55 _ rfl rfl hg23 rfl ?_
      refine o_off 55 _ rfl rfl hg23 rfl ?_
      refine o_off 55 _ rfl rfl hg23 rfl ?_
      refine o_p (p_pickf rfl rfl hg23 rfl) rfl ?_
      refine o_nil ?_
      exact s_joinN 4 59 _ rfl rfl rfl (fun w h => by first | exact h | exact h.ent aEt)) ?_
  refine oP ?_
  refine o_and 3 60 63 _ _ rfl
    (by
      intro hg25
      have hs26 := hg25; try simp only [Bool.and_eq_true, decide_eq_true_eq] at hs26
      refine o_on 60 _ rfl rfl hg25 ?_
      refine oP ?_
      refine o_on 60 _ rfl rfl hg25 ?_
      refine oP ?_
      refine o_p (p_pickt rfl rfl hg25 rfl) rfl ?_
      refine o_nil ?_
      exact s_joinN 3 63 _ rfl rfl rfl (fun w h => by first | exact h | exact h.ent aEt))
    (by
      intro hg27
      have hs28 := hg27; try simp only [Bool.and_eq_false_iff, decide_eq_false_iff_not] at hs28
      refine o_off 60 _ rfl rfl hg27 rfl ?_
      refine o_off 60 _ rfl rfl hg27 rfl ?_
      refine o_p (p_pickf rfl rfl hg27 rfl) rfl ?_
      refine o_nil ?_
      exact s_joinN 3 63 _ rfl rfl rfl (fun w h => by first | exact h | exact h.ent aEt)) ?_
  refine oP ?_
  refine o_and 4 64 68 _ _ rfl
    (by
      intro hg29
      have hs30 := hg29; try simp only [Bool.and_eq_true, decide_eq_true_eq] at hs30
      refine o_on 64 _ rfl rfl hg29 ?_
      refine oP ?_
      refine o_on 64 _ rfl rfl hg29 ?_
      refine o_h (h_buildSlice (cs := [_, _, _, _]) rfl rfl sl_30 zr_3 rfl rfl rfl) rfl (fun b31 _ => ?_)
      refine o_on 64 _ rfl rfl hg29 ?_
      refine o_q (q_call rfl fn_23 rfl (fun w1 h1 => c23 w1 qa3 (some ⟨b31, 0, none⟩) qc3 4 [0, 1, 2, 5] [0, 1, 2, 5] (HS.pown_row (P := [0, 1, 2, 5]) h1 aPk) (h1.rw_blk (l := [0, 1, 2, 5]) iv1 aPk) (by decide) (by decide))) rfl ?_
      refine o_p (p_pickt rfl rfl hg29 rfl) rfl ?_
      refine o_nil ?_
      exact s_joinN 4 68 _ rfl rfl rfl (fun w h => by first | exact h | exact h.ent aEt))
    (by
      intro hg32
      have hs33 := hg32; try simp only [Bool.and_eq_false_iff, decide_eq_false_iff_not] at hs33
      refine o_off 64 _ rfl rfl hg32 rfl ?_
      refine o_off 64 _ rfl rfl hg32 rfl ?_
      refine o_off 64 _ rfl rfl hg32 rfl ?_
      refine o_p (p_pickf rfl rfl hg32 rfl) rfl ?_
      refine o_nil ?_
      exact s_joinN 4 68 _ rfl rfl rfl (fun w h => by first | exact h | exact h.ent aEt)) ?_
  refine oP ?_
  refine o_and 5 69 74 _ _ rfl
    (by
      intro hg34
      have hs35 := hg34; try simp only [Bool.and_eq_true, decide_eq_true_eq] at hs35
      refine o_on 69 _ rfl rfl hg34 ?_
      refine o_p (p_fieldAddr rfl rfl fd_24_3 sz_22 rfl) rfl ?_
      refine o_on 69 _ rfl rfl hg34 ?_
      refine o_q (q_load rfl rfl sz_22 aPk rfl) rfl ?_
      refine o_on 69 _ rfl rfl hg34 ?_
      refine o_p (p_len_slice rfl rfl Tryz.underlying22) rfl ?_
      refine o_on 69 _ rfl rfl hg34 ?_
      refine oP ?_
      refine o_p (p_pickt rfl rfl hg34 rfl) rfl ?_
      refine o_nil ?_
      exact s_joinN 5 74 _ rfl rfl rfl (fun w h => by first | exact h | exact h.ent aEt))
    (by
      intro hg36
      have hs37 := hg36; try simp only [Bool.and_eq_false_iff, decide_eq_false_iff_not] at hs37
      refine o_off 69 _ rfl rfl hg36 rfl ?_
      refine o_off 69 _ rfl rfl hg36 rfl ?_
      refine o_off 69 _ rfl rfl hg36 rfl ?_
      refine o_off 69 _ rfl rfl hg36 rfl ?_
      refine o_p (p_pickf rfl rfl hg36 rfl) rfl ?_
      refine o_nil ?_
      exact s_joinN 5 74 _ rfl rfl rfl (fun w h => by first | exact h | exact h.ent aEt)) ?_
  refine oP ?_
  refine o_and 3 75 78 _ _ rfl
    (by
      intro hg38
      have hs39 := hg38; try simp only [Bool.and_eq_true, decide_eq_true_eq] at hs39
      refine o_on 75 _ rfl rfl hg38 ?_
      refine oP ?_
      refine o_on 75 _ rfl rfl hg38 ?_
      refine oP ?_
      refine o_p (p_pickt rfl rfl hg38 rfl) rfl ?_
      refine o_nil ?_
      exact s_joinN 3 78 _ rfl rfl rfl (fun w h => by first | exact h | exact h.ent aEt))
    (by
      intro hg40
      have hs41 := hg40; try simp only [Bool.and_eq_false_iff, decide_eq_false_iff_not] at hs41
      refine o_off 75 _ rfl rfl hg40 rfl ?_
      refine o_off 75 _ rfl rfl hg40 rfl ?_
      refine o_p (p_pickf rfl rfl hg40 rfl) rfl ?_
      refine o_nil ?_
      exact s_joinN 3 78 _ rfl rfl rfl (fun w h => by first | exact h | exact h.ent aEt)) ?_
  refine oP ?_
  refine o_and 3 79 82 _ _ rfl
    (by
      intro hg42
      have hs43 := hg42; try simp only [Bool.and_eq_true, decide_eq_true_eq] at hs43
      refine o_on 79 _ rfl rfl hg42 ?_
      refine oP ?_
      refine o_on 79 _ rfl rfl hg42 ?_
      refine oP ?_
      refine o_p (p_pickt rfl rfl hg42 rfl) rfl ?_
      refine o_nil ?_
      exact s_joinN 3 82 _ rfl rfl rfl (fun w h => by first | exact h | exact h.ent aEt))
    (by
      intro hg44
      have hs45 := hg44; try simp only [Bool.and_eq_false_iff, decide_eq_false_iff_not] at hs45
      refine o_off 79 _ rfl rfl hg44 rfl ?_
      refine o_off 79 _ rfl rfl hg44 rfl ?_
      refine o_p (p_pickf rfl rfl hg44 rfl) rfl ?_
      refine o_nil ?_
      exact s_joinN 3 82 _ rfl rfl rfl (fun w h => by first | exact h | exact h.ent aEt)) ?_
  refine oP ?_
  refine o_nil ?_
  exact s_retv (rs := [.tmp 0]) rfl (.tmp rfl (.nil)) (fun w' h' => ⟨by rfl, h'.below⟩)

end Go.Proofs

namespace Go.Proofs
open Go Go.RowKit Gx
set_option linter.unusedVariables false
set_option linter.unusedSimpArgs false
attribute [local irreducible] Go.Calls Gx.S Gx.O Gx.D Gx.OpP Gx.OpQ Gx.OpH

end Go.Proofs

/- Regions whose order is open: a maker of memory under a guard. Nothing of a program is named here. -/
namespace Gx
open Go Go.RowKit
section
variable {X : Ctx} {ops : Array Oper} {F : List Nat} {fuel i : Nat} {listed : Array Bool} {k : List KI} {L : Slots} {d ty : Nat} {op : Op} {pos : String} {aft : Array Edge} {w0 : World} {M : List Nat} {As Bs : List HA}
end
end Gx

/- Chapter 12: small facts for the laws. Plain data. -/
namespace Gx
set_option linter.unusedSimpArgs false
set_option linter.unusedVariables false
set_option linter.unusedSectionVars false
open Go Go.RowKit Go.Proofs
section
variable {w0 w : World} {M : List Nat} {As As' : List HA}
end
abbrev siz0 (co mo rm : Int) : Int := if colE12 co = 0 then sizE mo rm else colE12 co
abbrev cE1 (co : Int) (a : List UInt8) : Int := if colE12 co = 0 then keyE co a else colE12 co
end Gx

namespace Go.Proofs
open Go Go.RowKit Gx
set_option linter.unusedVariables false
set_option linter.unusedSimpArgs false
attribute [local irreducible] Go.Calls Gx.S Gx.O Gx.D Gx.OpP Gx.OpQ Gx.OpH

theorem fn_13 : isFn Tryz.prog 13 = true := by kernel_rfl
theorem fn_30 : isFn Tryz.prog 30 = true := by kernel_rfl
theorem fn_31 : isFn Tryz.prog 31 = true := by kernel_rfl
end Go.Proofs

/- Chapter 12: which numbers are children already, as a row of truth values. Plain data. -/
namespace Gx
set_option linter.unusedSimpArgs false
set_option linter.unusedVariables false
set_option linter.unusedSectionVars false
open Go Go.RowKit
def seenV (n : Nat) (S : List Int) : List Value := (List.range n).map fun k => Value.bool (decide (((k : Nat) : Int) ∈ S))
theorem seen_len (n : Nat) (S : List Int) : (seenV n S).length = n := by simp [seenV]
theorem seen_get {n k : Nat} {S : List Int} (h : k < n) : (seenV n S)[k]? = some (.bool (decide (((k : Nat) : Int) ∈ S))) := by
  unfold seenV
  rw [List.getElem?_map, List.getElem?_range h]
  rfl
theorem seen_set {n k : Nat} {S : List Int} (h : k < n) : setMany (seenV n S) k [.bool true] = seenV n (((k : Nat) : Int) :: S) := by
  apply List.ext_getElem?
  intro i
  show ((seenV n S).set k (.bool true))[i]? = _
  rw [List.getElem?_set]
  by_cases hi : i < n
  · rw [seen_get hi]
    by_cases e : k = i
    · subst e
      rw [if_pos rfl, if_pos (by rw [seen_len]; exact h), seen_get h, decide_eq_true (List.mem_cons_self ..)]
    · rw [if_neg e, seen_get hi]
      congr 2
      have hne : ((i : Nat) : Int) ≠ ((k : Nat) : Int) := by omega
      simp [List.mem_cons, hne]
  · rw [if_neg (by omega), List.getElem?_eq_none (by rw [seen_len]; omega), List.getElem?_eq_none (by rw [seen_len]; omega)]
theorem seen_dup {n : Nat} {c : Int} {S : List Int} (h : c ∈ S) : seenV n (c :: S) = seenV n S := by
  unfold seenV
  apply List.map_congr_left
  intro k _
  congr 1
  by_cases e : ((k : Nat) : Int) ∈ S
  · rw [decide_eq_true e, decide_eq_true (List.mem_cons_of_mem _ e)]
  · rw [decide_eq_false e, decide_eq_false (fun h2 => by
      rcases List.mem_cons.1 h2 with h3 | h3
      · exact e (h3 ▸ h)
      · exact e h3)]
theorem nodE_un {t : Tre} {i : Nat} {S : List Int} (h : ¬ (nth t.ns i).us = true) : nodE t i S = if (0 < i ∧ i + 1 < t.ns.length) ∧ (nth t.ns i).es.length + (nth t.ns i).cs.length = 0 then (0, S) else (3, S) := by
  unfold nodE
  simp only []
  rw [if_neg h]
section
variable {t : Tre} {i : Nat} {S : List Int} {n : Nd}
theorem nodE_16 (hn : nth t.ns i = n) (hu : n.us = true) (h : ¬ (n.es.length : Int) ≤ mostN t.mo t.rm i) : nodE t i S = (16, S) := by
  subst hn
  unfold nodE
  simp only []
  rw [if_pos hu, if_neg h]
theorem nodE_10 (hn : nth t.ns i = n) (hu : n.us = true) (h : (n.es.length : Int) ≤ mostN t.mo t.rm i) (h2 : ¬ (n.cs.length = 0 ∨ n.cs.length = n.es.length + 1)) : nodE t i S = (10, S) := by
  subst hn
  unfold nodE
  simp only []
  rw [if_pos hu, if_pos h, if_neg h2]
theorem nodE_en (hn : nth t.ns i = n) (hu : n.us = true) (h : (n.es.length : Int) ≤ mostN t.mo t.rm i) (h2 : n.cs.length = 0 ∨ n.cs.length = n.es.length + 1) (h3 : ¬ entsE t.co n.es = 0) : nodE t i S = (entsE t.co n.es, S) := by
  subst hn
  unfold nodE
  simp only []
  rw [if_pos hu, if_pos h, if_pos h2, if_neg h3]
theorem nodE_ki (hn : nth t.ns i = n) (hu : n.us = true) (h : (n.es.length : Int) ≤ mostN t.mo t.rm i) (h2 : n.cs.length = 0 ∨ n.cs.length = n.es.length + 1) (h3 : entsE t.co n.es = 0) (h4 : ¬ (kidsE t.ns n.cs S).1 = 0) : nodE t i S = kidsE t.ns n.cs S := by
  subst hn
  unfold nodE
  simp only []
  rw [if_pos hu, if_pos h, if_pos h2, if_pos h3, if_neg h4]
theorem nodE_or (hn : nth t.ns i = n) (hu : n.us = true) (h : (n.es.length : Int) ≤ mostN t.mo t.rm i) (h2 : n.cs.length = 0 ∨ n.cs.length = n.es.length + 1) (h3 : entsE t.co n.es = 0) (h4 : (kidsE t.ns n.cs S).1 = 0) : nodE t i S = (ordsE t.co n.es, (kidsE t.ns n.cs S).2) := by
  subst hn
  unfold nodE
  simp only []
  rw [if_pos hu, if_pos h, if_pos h2, if_pos h3, if_pos h4]
end
theorem eachF_at {es : List Int} {k : Nat} (hk : k < es.length) (h : ∀ j, j < k → es.getD j 0 = 0) (h2 : es.getD k 0 ≠ 0) : eachF es 0 = ((k : Int), es.getD k 0) := by
  have key : ∀ i, i ≤ k → eachF es 0 = eachF (es.drop i) i := by
    intro i
    induction i with
    | zero => intro _; rfl
    | succ i ih =>
      intro hi
      rw [ih (by omega), eachF_drop (by omega), if_pos (h i (by omega))]
  rw [key k (Nat.le_refl _), eachF_drop hk, if_neg h2]
theorem eachF_all {es : List Int} (h : ∀ j, j < es.length → es.getD j 0 = 0) : eachF es 0 = (0, 0) := by
  have key : ∀ i, i ≤ es.length → eachF es 0 = eachF (es.drop i) i := by
    intro i
    induction i with
    | zero => intro _; rfl
    | succ i ih =>
      intro hi
      rw [ih (by omega), eachF_drop (by omega), if_pos (h i (by omega))]
  rw [key _ (Nat.le_refl _), List.drop_length]
  rfl
theorem ents_bad {co : Int} {es : List TEnt} {k : Nat} (hk : k < es.length) (h1 : ∀ q, q < k → entE co (nth es q) = 0) (h2 : ¬ entE co (nth es k) = 0) : entsE co es = entE co (nth es k) := by
  unfold entsE
  rw [eachF_at (es := es.map (entE co)) (k := k) (by rw [List.length_map]; exact hk) (fun q hq => by rw [ents_get (by omega)]; exact h1 q hq) (by rw [ents_get hk]; exact h2), ents_get hk]
theorem ents_all {co : Int} {es : List TEnt} (h1 : ∀ q, q < es.length → entE co (nth es q) = 0) : entsE co es = 0 := by
  unfold entsE
  rw [eachF_all (fun q hq => by rw [List.length_map] at hq; rw [ents_get hq]; exact h1 q hq)]
theorem ords_bad {co : Int} {es : List TEnt} {k : Nat} (hk : k < es.length) (h1 : ∀ q, q < k → ordE co es q = 0) (h2 : ¬ ordE co es k = 0) : ordsE co es = ordE co es k := by
  unfold ordsE
  rw [eachF_at (es := (List.range es.length).map (ordE co es)) (k := k) (by simpa using hk) (fun q hq => by rw [ords_get (by omega)]; exact h1 q hq) (by rw [ords_get hk]; exact h2), ords_get hk]
theorem ords_all {co : Int} {es : List TEnt} (h1 : ∀ q, q < es.length → ordE co es q = 0) : ordsE co es = 0 := by
  unfold ordsE
  rw [eachF_all (fun q hq => by rw [List.length_map, List.length_range] at hq; rw [ords_get hq]; exact h1 q hq)]
end Gx

namespace Go.Proofs
open Go Go.RowKit Gx
set_option linter.unusedVariables false
set_option linter.unusedSimpArgs false
attribute [local irreducible] Go.Calls Gx.S Gx.O Gx.D Gx.OpP Gx.OpQ Gx.OpH

theorem fn_19 : isFn Tryz.prog 19 = true := by kernel_rfl


set_option maxRecDepth 20000 in
set_option maxHeartbeats 400000 in
theorem c85 (w : World) (j : Nat) (mo rm : Int) (a : Option Addr) (cap : Nat) (L : List LNd) (i sb scap tot : Nat) (S : List Int) (hw : HS w (fps [.blk sb 4 tot (seenV L.length S)]) [.blk sb 4 tot (seenV L.length S)] w) (hs : Nt w (fps [.blk sb 4 tot (seenV L.length S)]) a L) (hj : j ≤ 3) (hi : i < L.length) (hl : L.length ≤ 1000) (hel : (nth L i).es.length ≤ 1000) (hcl : (nth L i).cs.length ≤ 1000) (hK : ∀ x ∈ (nth L i).es, x.key.length ≤ 1000000) : Calls Tryz.prog 85 #[.agg #[.int .i64 (j : Int), .int .i64 mo, .int .i64 rm, .slice a L.length cap], .int .i64 (i : Int), .slice (some ⟨sb, 0, none⟩) L.length scap] w fun en w' => ∃ g : Unit, en = .returned (.int .i64 (nodE (⟨(j : Int), mo, rm, pln L⟩ : Tre) i S).1) ∧ True ∧ HS w (fps [.blk sb 4 tot (seenV L.length S)]) [.blk sb 4 tot (seenV L.length (nodE (⟨(j : Int), mo, rm, pln L⟩ : Tre) i S).2)] w' := by
  have hNI := pln_nth hi
  have hnl : (pln L).length = L.length := pln_len L
  refine enter (args := [_, _, _]) Tryz.func85 Tryz.ntmps85 rfl rfl hw ?_
  refine s_seq ?_
  refine s_region ?_
  refine o_h (h_box rfl rfl) rfl (fun b1 _ => ?_)
  refine oP ?_
  refine o_nil ?_
  refine s_seq ?_
  refine s_region ?_
  refine o_p (p_fieldAddr rfl rfl fd_24_3 sz_22 rfl) rfl ?_
  refine o_q (q_load rfl rfl sz_22 aPk rfl) rfl ?_
  refine oP ?_
  refine o_p (p_indexAddr rfl rfl rfl sl_22 (i) (by omega) (by omega) (Rw.some hs.1 (by omega))) rfl ?_
  refine o_q (q_load_oldn _ rfl rfl sz_102 rfl (Rw.rd hs.1 hi)) rfl ?_
  refine o_h (h_alloc rfl zr_102) rfl (fun b2 _ => ?_)
  refine o_h0 (h_store rfl rfl rfl sz_102 rfl aPt (by simp only [setMany_length, List.length_set, List.length_cons, List.length_nil, List.length_map]; omega) rfl) (fun _ _ => ?_)
  refine o_nil ?_
  refine s_seq ?_
  refine s_seq ?_
  refine s_region ?_
  refine o_p (p_fieldAddr rfl rfl fd_102_0 sz_4 rfl) rfl ?_
  refine o_q (q_load rfl rfl sz_4 aPk rfl) rfl ?_
  refine oP ?_
  refine o_nil ?_
  refine s_cond rfl (fun h3 => ?_) (fun h3 => ?_)
  · try simp only [Bool.not_eq_true'] at h3
    have hu9 : ¬ (nth L i).us = true := by have hq := h3; simp [hq]
    have hun := nodE_un (t := (⟨(j : Int), mo, rm, pln L⟩ : Tre)) (S := S) (i := i) (by rw [show ((⟨(j : Int), mo, rm, pln L⟩ : Tre)).ns = pln L from rfl, hNI]; exact hu9)
    rw [show ((⟨(j : Int), mo, rm, pln L⟩ : Tre)).ns = pln L from rfl, hNI, hnl] at hun
    refine s_seq ?_
    refine s_seq ?_
    refine s_region ?_
    refine oP ?_
    refine oP ?_
    refine oP ?_
    refine o_or 7 24 31 _ _ rfl
      (by
        intro hg4
        have hs5 := hg4; try simp only [decide_eq_false_iff_not] at hs5
        refine o_on 24 _ rfl rfl hg4 ?_
        refine oP ?_
        refine o_on 24 _ rfl rfl hg4 ?_
        refine oP ?_
        try (refine o_slot (i64w (by omega) (by omega)) ?_)
        refine o_on 24 _ rfl rfl hg4 ?_
        refine o_p (p_fieldAddr rfl rfl fd_24_3 sz_22 rfl) rfl ?_
        refine o_on 24 _ rfl rfl hg4 ?_
        refine o_q (q_load rfl rfl sz_22 aPk rfl) rfl ?_
        refine o_on 24 _ rfl rfl hg4 ?_
        refine o_p (p_len_slice rfl rfl Tryz.underlying22) rfl ?_
        refine o_on 24 _ rfl rfl hg4 ?_
        refine oP ?_
        refine o_p (p_pickf rfl rfl hg4 rfl) rfl ?_
        refine o_nil ?_
        exact s_joinN 7 31 _ rfl rfl rfl (fun w h => by first | exact h | exact h.ent aEt))
      (by
        intro hg6
        have hs7 := hg6; try simp only [decide_eq_true_eq] at hs7
        refine o_off 24 _ rfl rfl hg6 rfl ?_
        refine o_off 24 _ rfl rfl hg6 rfl ?_
        refine o_off 24 _ rfl rfl hg6 rfl ?_
        refine o_off 24 _ rfl rfl hg6 rfl ?_
        refine o_off 24 _ rfl rfl hg6 rfl ?_
        refine o_off 24 _ rfl rfl hg6 rfl ?_
        refine o_p (p_pickt rfl rfl hg6 rfl) rfl ?_
        refine o_nil ?_
        exact s_joinN 7 31 _ rfl rfl rfl (fun w h => by first | exact h | exact h.ent aEt)) ?_
    refine oP ?_
    refine o_or 5 32 37 _ _ rfl
      (by
        intro hg8
        have hs9 := hg8; try simp only [Bool.or_eq_false_iff, decide_eq_false_iff_not] at hs9
        refine o_on 32 _ rfl rfl hg8 ?_
        refine o_p (p_fieldAddr rfl rfl fd_102_1 sz_77 rfl) rfl ?_
        refine o_on 32 _ rfl rfl hg8 ?_
        refine o_q (q_load rfl rfl sz_77 aPk rfl) rfl ?_
        refine o_on 32 _ rfl rfl hg8 ?_
        refine o_p (p_len_slice rfl rfl Tryz.underlying77) rfl ?_
        refine o_on 32 _ rfl rfl hg8 ?_
        refine oP ?_
        refine o_p (p_pickf rfl rfl hg8 rfl) rfl ?_
        refine o_nil ?_
        exact s_joinN 5 37 _ rfl rfl rfl (fun w h => by first | exact h | exact h.ent aEt))
      (by
        intro hg10
        have hs11 := hg10; try simp only [Bool.or_eq_true, decide_eq_true_eq] at hs11
        refine o_off 32 _ rfl rfl hg10 rfl ?_
        refine o_off 32 _ rfl rfl hg10 rfl ?_
        refine o_off 32 _ rfl rfl hg10 rfl ?_
        refine o_off 32 _ rfl rfl hg10 rfl ?_
        refine o_p (p_pickt rfl rfl hg10 rfl) rfl ?_
        refine o_nil ?_
        exact s_joinN 5 37 _ rfl rfl rfl (fun w h => by first | exact h | exact h.ent aEt)) ?_
    refine oP ?_
    refine o_or 5 38 43 _ _ rfl
      (by
        intro hg12
        have hs13 := hg12; try simp only [Bool.or_eq_false_iff, decide_eq_false_iff_not] at hs13
        refine o_on 38 _ rfl rfl hg12 ?_
        refine o_p (p_fieldAddr rfl rfl fd_102_2 sz_30 rfl) rfl ?_
        refine o_on 38 _ rfl rfl hg12 ?_
        refine o_q (q_load rfl rfl sz_30 aPk rfl) rfl ?_
        refine o_on 38 _ rfl rfl hg12 ?_
        refine o_p (p_len_slice rfl rfl Tryz.underlying30) rfl ?_
        refine o_on 38 _ rfl rfl hg12 ?_
        refine oP ?_
        refine o_p (p_pickf rfl rfl hg12 rfl) rfl ?_
        refine o_nil ?_
        exact s_joinN 5 43 _ rfl rfl rfl (fun w h => by first | exact h | exact h.ent aEt))
      (by
        intro hg14
        have hs15 := hg14; try simp only [Bool.or_eq_true, decide_eq_true_eq] at hs15
        refine o_off 38 _ rfl rfl hg14 rfl ?_
        refine o_off 38 _ rfl rfl hg14 rfl ?_
        refine o_off 38 _ rfl rfl hg14 rfl ?_
        refine o_off 38 _ rfl rfl hg14 rfl ?_
        refine o_p (p_pickt rfl rfl hg14 rfl) rfl ?_
        refine o_nil ?_
        exact s_joinN 5 43 _ rfl rfl rfl (fun w h => by first | exact h | exact h.ent aEt)) ?_
    refine o_nil ?_
    refine s_cond rfl (fun h16 => ?_) (fun h16 => ?_)
    · try simp only [Bool.or_eq_true, decide_eq_true_eq] at h16
      have hn9 : ¬ ((0 < i ∧ i + 1 < L.length) ∧ (nth L i).es.length + (nth L i).cs.length = 0) := by have hq := h16; omega
      have hun2 : (nodE (⟨(j : Int), mo, rm, pln L⟩ : Tre) i S) = (3, S) := by rw [hun]; exact if_neg hn9
      refine s_seq ?_
      refine s_region ?_
      refine oP ?_
      refine o_nil ?_
      exact s_retv (rs := [.tmp 6]) rfl (.tmp rfl (.nil)) (fun w' h' => ⟨(), by rw [hun2]; rfl, trivial, by rw [hun2]; exact h'.ent aEt⟩)
    · try simp only [Bool.or_eq_false_iff, decide_eq_false_iff_not] at h16
      have hn9 : (0 < i ∧ i + 1 < L.length) ∧ (nth L i).es.length + (nth L i).cs.length = 0 := by have hq := h16; omega
      have hun2 : (nodE (⟨(j : Int), mo, rm, pln L⟩ : Tre) i S) = (0, S) := by rw [hun]; exact if_pos hn9
      refine s_skip ?_
      refine s_seq ?_
      refine s_region ?_
      refine oP ?_
      refine o_nil ?_
      exact s_retv (rs := [.tmp 6]) rfl (.tmp rfl (.nil)) (fun w' h' => ⟨(), by rw [hun2]; rfl, trivial, by rw [hun2]; exact h'.ent aEt⟩)
  · try simp only [Bool.not_eq_false'] at h3
    have hu9 : (nth L i).us = true := by have hq := h3; simpa using hq
    refine s_skip ?_
    refine s_seq ?_
    refine s_region ?_
    refine o_p (p_fieldAddr rfl rfl fd_24_1 sz_3 rfl) rfl ?_
    refine o_q (q_load rfl rfl sz_3 aPk rfl) rfl ?_
    refine oP ?_
    refine o_nil ?_
    refine s_seq ?_
    refine s_seq ?_
    refine s_region ?_
    refine oP ?_
    refine oP ?_
    refine o_nil ?_
    refine s_weaken (L' := [(2, _), (3, _), (6, _), (7, _), (8, _), (47, _)]) aSx (fun _ h => h) ?_
    refine s_cutS (α := Unit) [8, 48, 49] (fun _ => [(8, .int .i64 (mostN mo rm i))]) (fun _ => True) ?_ ?_
    · skip
      refine s_cond rfl (fun h17 => ?_) (fun h17 => ?_)
      · try simp only [decide_eq_true_eq] at h17
        have hi0 : i = 0 := by have hq := h17; omega
        refine s_region ?_
        refine o_p (p_fieldAddr rfl rfl fd_24_2 sz_3 rfl) rfl ?_
        refine o_q (q_load rfl rfl sz_3 aPk rfl) rfl ?_
        refine oP ?_
        refine o_nil ?_
        exact s_joinI () trivial (by rw [show mostN mo rm i = rm from if_pos hi0]; exact aSx) (fun w h => h)
      · try simp only [decide_eq_false_iff_not] at h17
        have hi0 : ¬ i = 0 := by have hq := h17; omega
        refine s_skip ?_
        exact s_joinI () trivial (by rw [show mostN mo rm i = mo from if_neg hi0]; exact aSx) (fun w h => h)
    · intro _ _
      refine s_seq ?_
      refine s_seq ?_
      refine s_region ?_
      refine o_p (p_fieldAddr rfl rfl fd_102_1 sz_77 rfl) rfl ?_
      refine o_q (q_load rfl rfl sz_77 aPk rfl) rfl ?_
      refine o_p (p_len_slice rfl rfl Tryz.underlying77) rfl ?_
      refine oP ?_
      refine oP ?_
      refine o_nil ?_
      refine s_cond rfl (fun h18 => ?_) (fun h18 => ?_)
      · try simp only [decide_eq_true_eq] at h18
        have h16 : (nodE (⟨(j : Int), mo, rm, pln L⟩ : Tre) i S) = (16, S) := nodE_16 (t := (⟨(j : Int), mo, rm, pln L⟩ : Tre)) hNI hu9 (by show ¬ ((nth L i).es.length : Int) ≤ mostN mo rm i; have hq := h18; omega)
        refine s_seq ?_
        refine s_region ?_
        refine oP ?_
        refine o_nil ?_
        exact s_retv (rs := [.tmp 6]) rfl (.tmp rfl (.nil)) (fun w' h' => ⟨(), by rw [h16]; rfl, trivial, by rw [h16]; exact h'.ent aEt⟩)
      · try simp only [decide_eq_false_iff_not] at h18
        have hM9 : ((nth L i).es.length : Int) ≤ mostN mo rm i := by have hq := h18; omega
        refine s_skip ?_
        refine s_seq ?_
        refine s_seq ?_
        refine s_region ?_
        refine o_p (p_fieldAddr rfl rfl fd_102_2 sz_30 rfl) rfl ?_
        refine o_q (q_load rfl rfl sz_30 aPk rfl) rfl ?_
        refine o_p (p_len_slice rfl rfl Tryz.underlying30) rfl ?_
        refine oP ?_
        refine oP ?_
        refine o_and 9 59 68 _ _ rfl
          (by
            intro hg19
            have hs20 := hg19; try simp only [decide_eq_true_eq] at hs20
            refine o_on 59 _ rfl rfl hg19 ?_
            refine o_p (p_fieldAddr rfl rfl fd_102_2 sz_30 rfl) rfl ?_
            refine o_on 59 _ rfl rfl hg19 ?_
            refine o_q (q_load rfl rfl sz_30 aPk rfl) rfl ?_
            refine o_on 59 _ rfl rfl hg19 ?_
            refine o_p (p_len_slice rfl rfl Tryz.underlying30) rfl ?_
            refine o_on 59 _ rfl rfl hg19 ?_
            refine o_p (p_fieldAddr rfl rfl fd_102_1 sz_77 rfl) rfl ?_
            refine o_on 59 _ rfl rfl hg19 ?_
            refine o_q (q_load rfl rfl sz_77 aPk rfl) rfl ?_
            refine o_on 59 _ rfl rfl hg19 ?_
            refine o_p (p_len_slice rfl rfl Tryz.underlying77) rfl ?_
            refine o_on 59 _ rfl rfl hg19 ?_
            refine oP ?_
            try (refine o_slot (i64w (by omega) (by omega)) ?_)
            refine o_on 59 _ rfl rfl hg19 ?_
            refine oP ?_
            refine o_p (p_pickt rfl rfl hg19 rfl) rfl ?_
            refine o_nil ?_
            exact s_joinN 9 68 _ rfl rfl rfl (fun w h => by first | exact h | exact h.ent aEt))
          (by
            intro hg21
            have hs22 := hg21; try simp only [decide_eq_false_iff_not] at hs22
            refine o_off 59 _ rfl rfl hg21 rfl ?_
            refine o_off 59 _ rfl rfl hg21 rfl ?_
            refine o_off 59 _ rfl rfl hg21 rfl ?_
            refine o_off 59 _ rfl rfl hg21 rfl ?_
            refine o_off 59 _ rfl rfl hg21 rfl ?_
            refine o_off 59 _ rfl rfl hg21 rfl ?_
            refine o_off 59 _ rfl rfl hg21 rfl ?_
            refine o_off 59 _ rfl rfl hg21 rfl ?_
            refine o_p (p_pickf rfl rfl hg21 rfl) rfl ?_
            refine o_nil ?_
            exact s_joinN 9 68 _ rfl rfl rfl (fun w h => by first | exact h | exact h.ent aEt)) ?_
        refine o_nil ?_
        refine s_cond rfl (fun h23 => ?_) (fun h23 => ?_)
        · try simp only [Bool.and_eq_true, decide_eq_true_eq, Bool.not_eq_true', decide_eq_false_iff_not] at h23
          have h10 : (nodE (⟨(j : Int), mo, rm, pln L⟩ : Tre) i S) = (10, S) := nodE_10 (t := (⟨(j : Int), mo, rm, pln L⟩ : Tre)) hNI hu9 hM9 (by show ¬ ((nth L i).cs.length = 0 ∨ (nth L i).cs.length = (nth L i).es.length + 1); have hq := h23; omega)
          refine s_seq ?_
          refine s_region ?_
          refine oP ?_
          refine o_nil ?_
          exact s_retv (rs := [.tmp 6]) rfl (.tmp rfl (.nil)) (fun w' h' => ⟨(), by rw [h10]; rfl, trivial, by rw [h10]; exact h'.ent aEt⟩)
        · try simp only [Bool.and_eq_false_iff, decide_eq_false_iff_not, Bool.not_eq_false', decide_eq_true_eq] at h23
          have hS9 : (nth L i).cs.length = 0 ∨ (nth L i).cs.length = (nth L i).es.length + 1 := by have hq := h23; omega
          refine s_skip ?_
          refine s_seq ?_
          refine s_seq ?_
          refine s_region ?_
          refine oP ?_
          refine o_nil ?_
          refine s_block ?_
          refine s_weaken (L' := [(2, _), (3, _), (6, _), (7, _), (9, _)]) aSx (fun _ h => h) ?_
          refine s_loopI (α := Nat) [6, 9, 10, 69, 70, 71, 72, 73, 74, 75, 76, 77, 78, 79, 80, 81, 82, 83, 84, 85, 86] (fun k => [(9, .int .i64 (k : Int))]) (fun _ => HS w (fps [.blk sb 4 tot (seenV L.length S)]) [.blk sb 4 tot (seenV L.length S), .blk b1 24 4 [.int .i64 (j : Int), .int .i64 mo, .int .i64 rm, .slice a L.length cap], .blk b2 102 3 (LNd.vals (nth L i))]) (fun k => k ≤ (nth L i).es.length ∧ ∀ q, q < k → entE (j : Int) (nth (nth L i).es q) = 0) (fun k => (nth L i).es.length - k) 0 ⟨Nat.zero_le _, fun j h => absurd h (Nat.not_lt_zero j)⟩ aSx (fun w h => h.ent aEt) (fun k hx => ?_)
          obtain ⟨hk1, hk3⟩ := hx
          refine s_seq ?_
          refine s_seq ?_
          refine s_region ?_
          refine oP ?_
          refine o_p (p_fieldAddr rfl rfl fd_102_1 sz_77 rfl) rfl ?_
          refine o_q (q_load rfl rfl sz_77 aPk rfl) rfl ?_
          refine o_p (p_len_slice rfl rfl Tryz.underlying77) rfl ?_
          refine oP ?_
          refine o_nil ?_
          refine s_cond rfl (fun h24 => ?_) (fun h24 => ?_)
          · try simp only [decide_eq_true_eq] at h24
            have hk5 : k < (nth L i).es.length := by omega
            refine s_skip ?_
            refine s_seq ?_
            refine s_block ?_
            refine s_seq ?_
            refine s_draw [] mixed ?_
            refine d_p 0 rfl (p_fieldAddr rfl rfl fd_24_0 sz_3 rfl) (by kernel_rfl) rfl rfl ?_
            refine d_q 1 [] rfl (q_load rfl rfl sz_3 aPk rfl) (by kernel_rfl) (by kernel_rfl) (by kernel_rfl) rfl ?_
            refine d_p 2 rfl (p_fieldAddr rfl rfl fd_102_1 sz_77 rfl) (by kernel_rfl) rfl rfl ?_
            refine d_q 3 [] rfl (q_load rfl rfl sz_77 aPk rfl) (by kernel_rfl) (by kernel_rfl) (by kernel_rfl) rfl ?_
            refine dP 4 ?_
            refine d_p 5 rfl (p_indexAddr rfl rfl rfl sl_77 (k) (by omega) (by omega) (Rw.some (hs.es hi) (by omega))) (by kernel_rfl) rfl rfl ?_
            refine d_q 6 [] rfl (q_load_oldn _ rfl rfl sz_26 rfl (Rw.rd (hs.es hi) hk5)) (by kernel_rfl) (by kernel_rfl) (by kernel_rfl) rfl ?_
            refine d_q 7 [] rfl (q_call rfl fn_19 rfl (fun w1 h1 => c19 w1 j (nth (nth L i).es k) hj (hK _ (mem_nth hk5)))) (by kernel_rfl) (by kernel_rfl) (by kernel_rfl) rfl ?_
            refine dP 8 ?_
            refine d_nil (by kernel_rfl) (fun w h => by first | exact h | exact h.ent aEt) ?_
            refine s_seq ?_
            refine s_region ?_
            refine oP ?_
            refine oP ?_
            refine o_nil ?_
            refine s_cond rfl (fun h25 => ?_) (fun h25 => ?_)
            · try simp only [Bool.not_eq_true', decide_eq_false_iff_not] at h25
              have hz6 : ¬ entE (j : Int) (nth (nth L i).es k) = 0 := h25
              have hEb := ents_bad hk5 hk3 hz6
              have hEe : (nodE (⟨(j : Int), mo, rm, pln L⟩ : Tre) i S) = (entE (j : Int) (nth (nth L i).es k), S) := by rw [← hEb]; exact nodE_en (t := (⟨(j : Int), mo, rm, pln L⟩ : Tre)) hNI hu9 hM9 hS9 (by show ¬ entsE (j : Int) (nth L i).es = 0; rw [hEb]; exact hz6)
              refine s_seq ?_
              refine s_region ?_
              refine oP ?_
              refine oP ?_
              refine o_nil ?_
              exact s_retv (rs := [.tmp 6]) rfl (.tmp rfl (.nil)) (fun w' h' => ⟨(), by rw [hEe]; rfl, trivial, by rw [hEe]; exact h'.ent aEt⟩)
            · try simp only [Bool.not_eq_false', decide_eq_true_eq] at h25
              have hz6 : entE (j : Int) (nth (nth L i).es k) = 0 := by have hq := h25; omega
              refine s_skip ?_
              refine s_blk ?_
              refine s_region ?_
              refine oP ?_
              refine oP ?_
              try (refine o_slot (i64w (by omega) (by omega)) ?_)
              refine oP ?_
              refine o_nil ?_
              exact s_backI (k + 1) (by omega) ⟨by omega, fun q hq => (Nat.lt_or_ge q k).elim (hk3 q) (fun h9 => by obtain rfl : q = k := (by omega); exact hz6)⟩ aSx (fun w h => h.ent aEt)
          · try simp only [decide_eq_false_iff_not] at h24
            have hEn : ∀ q, q < (nth L i).es.length → entE (j : Int) (nth (nth L i).es q) = 0 := fun q hq => hk3 q (by omega)
            have hE0 : entsE (j : Int) (nth L i).es = 0 := ents_all hEn
            refine s_exit_to rfl ?_
            refine s_seq ?_
            refine s_seq ?_
            refine s_region ?_
            refine oP ?_
            refine o_nil ?_
            refine s_block ?_
            refine s_loopI (α := Nat × List Int) [6, 11, 12, 87, 88, 89, 90, 91, 92, 93, 94, 95, 96, 97, 98, 99, 100, 101, 102, 103, 104, 105, 106, 107, 108, 109, 110, 111, 112, 113, 114, 115, 116, 117, 118, 119, 120, 121] (fun y => [(11, .int .i64 (y.1 : Int))]) (fun y => HS w (fps [.blk sb 4 tot (seenV L.length S)]) [.blk sb 4 tot (seenV L.length y.2), .blk b1 24 4 [.int .i64 (j : Int), .int .i64 mo, .int .i64 rm, .slice a L.length cap], .blk b2 102 3 (LNd.vals (nth L i))]) (fun y => y.1 ≤ (nth L i).cs.length ∧ (kidsE (pln L) (nth L i).cs S) = kidsE (pln L) ((nth L i).cs.drop y.1) y.2) (fun y => (nth L i).cs.length - y.1) (0, S) ⟨Nat.zero_le _, rfl⟩ aSx (fun w h => h.ent aEt) (fun ⟨k, Sk⟩ hx => ?_)
            dsimp only
            obtain ⟨hk1, hk3⟩ := hx
            simp only [] at hk1 hk3
            refine s_seq ?_
            refine s_seq ?_
            refine s_region ?_
            refine oP ?_
            refine o_p (p_fieldAddr rfl rfl fd_102_2 sz_30 rfl) rfl ?_
            refine o_q (q_load rfl rfl sz_30 aPk rfl) rfl ?_
            refine o_p (p_len_slice rfl rfl Tryz.underlying30) rfl ?_
            refine oP ?_
            refine o_nil ?_
            refine s_cond rfl (fun h26 => ?_) (fun h26 => ?_)
            · try simp only [decide_eq_true_eq] at h26
              have hk5 : k < (nth L i).cs.length := by omega
              have hkd9 : nth (nth L i).cs k = ((nth L i).cs.getD k 0) := rfl
              have hst := kids_drop hk5
              rw [hst, kidsE_cons] at hk3
              refine s_skip ?_
              refine s_seq ?_
              refine s_block ?_
              refine s_seq ?_
              refine s_region ?_
              refine o_p (p_fieldAddr rfl rfl fd_102_2 sz_30 rfl) rfl ?_
              refine o_q (q_load rfl rfl sz_30 aPk rfl) rfl ?_
              refine oP ?_
              refine o_p (p_indexAddr rfl rfl rfl sl_30 (k) (by omega) (by omega) (Rw.some (hs.cs hi) (by omega))) rfl ?_
              refine o_q (q_load_old rfl rfl sz_3 (((hs.cs hi).rdj 0 hk5 rfl))) rfl ?_
              refine o_slot (show _ = Value.int .i64 ((nth L i).cs.getD k 0) from rfl) ?_
              refine oP ?_
              refine o_nil ?_
              refine s_seq ?_
              refine s_seq ?_
              refine s_region ?_
              refine oP ?_
              refine o_p (p_fieldAddr rfl rfl fd_24_3 sz_22 rfl) rfl ?_
              refine o_q (q_load rfl rfl sz_22 aPk rfl) rfl ?_
              refine o_p (p_len_slice rfl rfl Tryz.underlying22) rfl ?_
              refine oP ?_
              try (refine o_slot (i64w (by omega) (by omega)) ?_)
              refine o_q (q_call rfl fn_46 rfl (fun w1 h1 => c46 w1 _ _ _)) rfl ?_
              refine oP ?_
              refine oP ?_
              refine o_or 8 106 114 _ _ rfl
                (by
                  intro hg27
                  have hs28 := hg27; try simp only [Bool.not_eq_false', Bool.and_eq_true, decide_eq_true_eq] at hs28
                  refine o_on 106 _ rfl rfl hg27 ?_
                  refine o_p (p_fieldAddr rfl rfl fd_24_3 sz_22 rfl) rfl ?_
                  refine o_on 106 _ rfl rfl hg27 ?_
                  refine o_q (q_load rfl rfl sz_22 aPk rfl) rfl ?_
                  refine o_on 106 _ rfl rfl hg27 ?_
                  refine oP ?_
                  refine o_on 106 _ rfl rfl hg27 ?_
                  refine o_p (p_indexAddr rfl rfl rfl sl_22 (((nth L i).cs.getD k 0).toNat) (by omega) (by omega) (Rw.some hs.1 (by omega))) rfl ?_
                  refine o_on 106 _ rfl rfl hg27 ?_
                  refine o_p (p_fieldAddr rfl rfl fd_102_0 sz_4 rfl) rfl ?_
                  refine o_on 106 _ rfl rfl hg27 ?_
                  refine o_q (q_load_old rfl rfl sz_4 ((hs.1.rdj 0 (i := ((nth L i).cs.getD k 0).toNat) (by omega) rfl))) rfl ?_
                  refine o_on 106 _ rfl rfl hg27 ?_
                  refine oP ?_
                  refine o_p (p_pickf rfl rfl hg27 rfl) rfl ?_
                  refine o_nil ?_
                  exact s_joinN 8 114 _ rfl rfl rfl (fun w h => by first | exact h | exact h.ent aEt))
                (by
                  intro hg29
                  have hs30 := hg29; try simp only [Bool.not_eq_true', Bool.and_eq_false_iff, decide_eq_false_iff_not] at hs30
                  refine o_off 106 _ rfl rfl hg29 rfl ?_
                  refine o_off 106 _ rfl rfl hg29 rfl ?_
                  refine o_off 106 _ rfl rfl hg29 rfl ?_
                  refine o_off 106 _ rfl rfl hg29 rfl ?_
                  refine o_off 106 _ rfl rfl hg29 rfl ?_
                  refine o_off 106 _ rfl rfl hg29 rfl ?_
                  refine o_off 106 _ rfl rfl hg29 rfl ?_
                  refine o_p (p_pickt rfl rfl hg29 rfl) rfl ?_
                  refine o_nil ?_
                  exact s_joinN 8 114 _ rfl rfl rfl (fun w h => by first | exact h | exact h.ent aEt)) ?_
              refine o_nil ?_
              refine s_cond rfl (fun h31 => ?_) (fun h31 => ?_)
              · try simp only [Bool.or_eq_true, Bool.not_eq_true', Bool.and_eq_false_iff, decide_eq_false_iff_not] at h31
                have hko : ¬ KidOk (pln L) ((nth L i).cs.getD k 0) := by rintro ⟨h91, h92⟩; rw [hnl] at h91; rw [pln_nth (by omega)] at h92; have hq := h31; exact hq.elim (fun hq => by omega) (fun hq => by rw [show (nth L ((nth L i).cs.getD k 0).toNat).pl.us = (nth L ((nth L i).cs.getD k 0).toNat).us from rfl, hq] at h92; cases h92)
                have hk6e : (nodE (⟨(j : Int), mo, rm, pln L⟩ : Tre) i S) = (6, Sk) := by have h8 : kidE1 (pln L) ((nth L i).cs.getD k 0) Sk = 6 := if_neg hko; have h7 : kidS1 (pln L) ((nth L i).cs.getD k 0) Sk = Sk := if_neg hko; rw [h8, h7, if_neg (by decide)] at hk3; rw [← hk3]; exact nodE_ki (t := (⟨(j : Int), mo, rm, pln L⟩ : Tre)) hNI hu9 hM9 hS9 hE0 (by show ¬ (kidsE (pln L) (nth L i).cs S).1 = 0; rw [hk3]; show ¬ (6 : Int) = 0; decide)
                refine s_seq ?_
                refine s_weaken (L' := [(2, _), (3, _), (7, _), (9, _), (11, _), (12, _), (69, _), (70, _), (71, _), (72, _), (73, _)]) aSx (fun _ h => h) ?_
                refine s_region ?_
                refine oP ?_
                refine o_nil ?_
                exact s_retv (rs := [.tmp 6]) rfl (.tmp rfl (.nil)) (fun w' h' => ⟨(), by rw [hk6e]; rfl, trivial, by rw [hk6e]; exact h'.ent aEt⟩)
              · try simp only [Bool.or_eq_false_iff, Bool.not_eq_false', Bool.and_eq_true, decide_eq_true_eq] at h31
                have hko : KidOk (pln L) ((nth L i).cs.getD k 0) := by have hq := h31; refine ⟨by rw [hnl]; exact hq.1, ?_⟩; rw [pln_nth (by omega)]; exact hq.2
                have hko1 := hko.1
                rw [hnl] at hko1
                have hcv2 : ((nth L i).cs.getD k 0).toNat < L.length := by omega
                have hcc : ((((nth L i).cs.getD k 0).toNat : Nat) : Int) = ((nth L i).cs.getD k 0) := Int.toNat_of_nonneg (by omega)
                have h7 : kidS1 (pln L) ((nth L i).cs.getD k 0) Sk = ((nth L i).cs.getD k 0) :: Sk := if_pos hko
                rw [h7] at hk3
                have hsv := seen_set (n := L.length) (S := Sk) hcv2
                rw [hcc] at hsv
                refine s_skip ?_
                refine s_seq ?_
                refine s_seq ?_
                refine s_weaken (L' := [(2, _), (3, _), (7, _), (9, _), (11, _), (12, _), (69, _), (70, _), (71, _), (72, _), (73, _)]) aSx (fun _ h => h) ?_
                refine s_region ?_
                refine oP ?_
                refine oP ?_
                refine o_p (p_indexAddr rfl rfl rfl sl_140 (((nth L i).cs.getD k 0).toNat) (by omega) (by omega) rfl) rfl ?_
                refine o_slot (show _ = Value.pointer (some ⟨sb, ((nth L i).cs.getD k 0).toNat, none⟩) from by rw [Nat.zero_add, Nat.mul_one]) ?_
                refine o_q (q_load_at rfl rfl sz_4 (fun w h => h.rd_blk (Mc := []) aPk (seen_get hcv2) (by simp))) rfl ?_
                refine o_nil ?_
                refine s_cond rfl (fun h32 => ?_) (fun h32 => ?_)
                · try simp only [decide_eq_true_eq] at h32
                  have hmem : ((nth L i).cs.getD k 0) ∈ Sk := by have hq := h32; rw [hcc] at hq; exact hq
                  have h8 : kidE1 (pln L) ((nth L i).cs.getD k 0) Sk = 23 := by rw [kidE1, if_pos hko, if_pos hmem]
                  rw [h8, if_neg (by decide)] at hk3
                  have hk23 : (nodE (⟨(j : Int), mo, rm, pln L⟩ : Tre) i S) = (23, ((nth L i).cs.getD k 0) :: Sk) := by rw [← hk3]; exact nodE_ki (t := (⟨(j : Int), mo, rm, pln L⟩ : Tre)) hNI hu9 hM9 hS9 hE0 (by show ¬ (kidsE (pln L) (nth L i).cs S).1 = 0; rw [hk3]; show ¬ (23 : Int) = 0; decide)
                  refine s_seq ?_
                  refine s_region ?_
                  refine oP ?_
                  refine o_nil ?_
                  exact s_retv (rs := [.tmp 6]) rfl (.tmp rfl (.nil)) (fun w' h' => ⟨(), by rw [hk23]; rfl, trivial, by rw [hk23, seen_dup hmem]; exact h'.ent aEt⟩)
                · try simp only [decide_eq_false_iff_not] at h32
                  have hmem : ¬ ((nth L i).cs.getD k 0) ∈ Sk := by have hq := h32; rw [hcc] at hq; exact hq
                  have h8 : kidE1 (pln L) ((nth L i).cs.getD k 0) Sk = 0 := by rw [kidE1, if_pos hko, if_neg hmem]
                  rw [h8, if_pos rfl] at hk3
                  have hk9 := hk3
                  refine s_skip ?_
                  refine s_region ?_
                  refine oP ?_
                  refine oP ?_
                  refine o_p (p_indexAddr rfl rfl rfl sl_140 (((nth L i).cs.getD k 0).toNat) (by omega) (by omega) rfl) rfl ?_
                  refine o_slot (show _ = Value.pointer (some ⟨sb, ((nth L i).cs.getD k 0).toNat, none⟩) from by rw [Nat.zero_add, Nat.mul_one]) ?_
                  refine o_h0 (h_store rfl rfl rfl sz_4 rfl aPt (by rw [seen_len]; show _ + 1 ≤ _; omega) rfl) (fun _ _ => ?_)
                  refine o_nil ?_
                  refine s_blk ?_
                  refine s_region ?_
                  refine oP ?_
                  refine oP ?_
                  try (refine o_slot (i64w (by omega) (by omega)) ?_)
                  refine oP ?_
                  refine o_nil ?_
                  exact s_backI (k + 1, ((nth L i).cs.getD k 0) :: Sk) (by (try simp only []); omega) ⟨by (try simp only []); omega, hk9⟩ aSx (fun w h => by have h2 := h; rw [show setMany (seenV L.length Sk) ((nth L i).cs.getD k 0).toNat (Value.cells (.bool true)).toList = seenV L.length (((nth L i).cs.getD k 0) :: Sk) from hsv] at h2; exact h2.ent aEt)
            · try simp only [decide_eq_false_iff_not] at h26
              have hdr9 : (nth L i).cs.drop k = [] := List.drop_of_length_le (by omega)
              rw [hdr9] at hk3
              have hK0 : (kidsE (pln L) (nth L i).cs S).1 = 0 := by rw [hk3]; rfl
              have hK2 : (kidsE (pln L) (nth L i).cs S).2 = Sk := by rw [hk3]; rfl
              have hOr : (nodE (⟨(j : Int), mo, rm, pln L⟩ : Tre) i S) = (ordsE (j : Int) (nth L i).es, (kidsE (pln L) (nth L i).cs S).2) := by have h9 := nodE_or (t := (⟨(j : Int), mo, rm, pln L⟩ : Tre)) (i := i) (S := S) (n := (nth L i).pl) hNI hu9 hM9 hS9 hE0 hK0; exact h9
              refine s_exit_to rfl ?_
              refine s_seq ?_
              refine s_seq ?_
              refine s_region ?_
              refine oP ?_
              refine o_nil ?_
              refine s_block ?_
              refine s_loopI (α := Nat) [6, 13, 122, 123, 124, 125, 126, 127, 128, 129, 130, 131, 132, 133, 134, 135, 136, 137, 138, 139, 140, 141, 142, 143, 144, 145] (fun k => [(13, .int .i64 (k : Int))]) (fun _ => HS w (fps [.blk sb 4 tot (seenV L.length S)]) [.blk sb 4 tot (seenV L.length (kidsE (pln L) (nth L i).cs S).2), .blk b1 24 4 [.int .i64 (j : Int), .int .i64 mo, .int .i64 rm, .slice a L.length cap], .blk b2 102 3 (LNd.vals (nth L i))]) (fun k => 1 ≤ k ∧ ∀ q, q < k → ordE (j : Int) (nth L i).es q = 0) (fun k => (nth L i).es.length - k) 1 ⟨Nat.le_refl _, fun q h => if_pos (.inl (by omega))⟩ aSx (fun w h => by rw [hK2]; exact h.ent aEt) (fun k hx => ?_)
              obtain ⟨hk1, hk3b⟩ := hx
              refine s_seq ?_
              refine s_seq ?_
              refine s_region ?_
              refine oP ?_
              refine o_p (p_fieldAddr rfl rfl fd_102_1 sz_77 rfl) rfl ?_
              refine o_q (q_load rfl rfl sz_77 aPk rfl) rfl ?_
              refine o_p (p_len_slice rfl rfl Tryz.underlying77) rfl ?_
              refine oP ?_
              refine o_nil ?_
              refine s_cond rfl (fun h33 => ?_) (fun h33 => ?_)
              · try simp only [decide_eq_true_eq] at h33
                have hk5 : k < (nth L i).es.length := by omega
                have hk6 : k - 1 < (nth L i).es.length := by omega
                refine s_skip ?_
                refine s_seq ?_
                refine s_block ?_
                refine s_seq ?_
                refine s_draw [] mixed ?_
                refine d_p 0 rfl (p_fieldAddr rfl rfl fd_24_0 sz_3 rfl) (by kernel_rfl) rfl rfl ?_
                refine d_q 1 [] rfl (q_load rfl rfl sz_3 aPk rfl) (by kernel_rfl) (by kernel_rfl) (by kernel_rfl) rfl ?_
                refine d_p 2 rfl (p_fieldAddr rfl rfl fd_102_1 sz_77 rfl) (by kernel_rfl) rfl rfl ?_
                refine d_q 3 [] rfl (q_load rfl rfl sz_77 aPk rfl) (by kernel_rfl) (by kernel_rfl) (by kernel_rfl) rfl ?_
                refine dP 4 ?_
                refine dP 5 ?_
                try (refine d_slot (i64w (by omega) (by omega)) ?_)
                refine d_p 6 rfl (p_indexAddr rfl rfl rfl sl_77 (k - 1) (by omega) (by omega) (Rw.some (hs.es hi) (by omega))) (by kernel_rfl) rfl rfl ?_
                refine d_p 7 rfl (p_fieldAddr rfl rfl fd_26_0 sz_9 rfl) (by kernel_rfl) rfl rfl ?_
                refine d_q 8 [] rfl (q_load_old rfl rfl sz_9 (((hs.es hi).rdj 0 hk6 rfl))) (by kernel_rfl) (by kernel_rfl) (by kernel_rfl) rfl ?_
                refine d_p 9 rfl (p_fieldAddr rfl rfl fd_102_1 sz_77 rfl) (by kernel_rfl) rfl rfl ?_
                refine d_q 10 [] rfl (q_load rfl rfl sz_77 aPk rfl) (by kernel_rfl) (by kernel_rfl) (by kernel_rfl) rfl ?_
                refine dP 11 ?_
                refine d_p 12 rfl (p_indexAddr rfl rfl rfl sl_77 (k) (by omega) (by omega) (Rw.some (hs.es hi) (by omega))) (by kernel_rfl) rfl rfl ?_
                refine d_p 13 rfl (p_fieldAddr rfl rfl fd_26_0 sz_9 rfl) (by kernel_rfl) rfl rfl ?_
                refine d_q 14 [] rfl (q_load_old rfl rfl sz_9 (((hs.es hi).rdj 0 hk5 rfl))) (by kernel_rfl) (by kernel_rfl) (by kernel_rfl) rfl ?_
                refine d_q 15 [] rfl (q_call rfl fn_33 rfl (fun w1 h1 => c33 w1 j (nth (nth L i).es (k - 1)).key (nth (nth L i).es k).key hj (entE_key (hEn _ hk6)) (entE_key (hEn _ hk5)) (hK _ (mem_nth hk6)) (hK _ (mem_nth hk5)))) (by kernel_rfl) (by kernel_rfl) (by kernel_rfl) rfl ?_
                refine dP 16 ?_
                refine d_nil (by kernel_rfl) (fun w h => by first | exact h | exact h.ent aEt) ?_
                refine s_cond rfl (fun h34 => ?_) (fun h34 => ?_)
                · try simp only [decide_eq_true_eq] at h34
                  have hz11 : ¬ ordE (j : Int) (nth L i).es k = 0 := by unfold ordE; rw [if_neg (by have hq := h34; omega)]; decide
                  have hOb := ords_bad hk5 hk3b hz11
                  have hOv : ordE (j : Int) (nth L i).es k = 9 := if_neg (by have hq := h34; omega)
                  refine s_seq ?_
                  refine s_weaken (L' := [(2, _), (3, _), (7, _), (9, _), (11, _), (13, _), (69, _), (70, _), (71, _), (72, _), (73, _), (87, _), (88, _), (89, _), (90, _), (91, _)]) aSx (fun _ h => h) ?_
                  refine s_region ?_
                  refine oP ?_
                  refine o_nil ?_
                  exact s_retv (rs := [.tmp 6]) rfl (.tmp rfl (.nil)) (fun w' h' => ⟨(), by rw [hOr, hOb, hOv]; rfl, trivial, by rw [hOr]; exact h'.ent aEt⟩)
                · try simp only [decide_eq_false_iff_not] at h34
                  have hz11 : ordE (j : Int) (nth L i).es k = 0 := if_pos (.inr (by have hq := h34; omega))
                  refine s_skip ?_
                  refine s_blk ?_
                  refine s_weaken (L' := [(2, _), (3, _), (7, _), (9, _), (11, _), (13, _), (69, _), (70, _), (71, _), (72, _), (73, _), (87, _), (88, _), (89, _), (90, _), (91, _)]) aSx (fun _ h => h) ?_
                  refine s_region ?_
                  refine oP ?_
                  refine oP ?_
                  try (refine o_slot (i64w (by omega) (by omega)) ?_)
                  refine oP ?_
                  refine o_nil ?_
                  exact s_backI (k + 1) (by omega) ⟨by omega, fun q hq => (Nat.lt_or_ge q k).elim (hk3b q) (fun h9 => by obtain rfl : q = k := (by omega); exact hz11)⟩ aSx (fun w h => h.ent aEt)
              · try simp only [decide_eq_false_iff_not] at h33
                have hO0 : ordsE (j : Int) (nth L i).es = 0 := ords_all (fun q hq => hk3b q (by omega))
                refine s_exit_to rfl ?_
                refine s_seq ?_
                refine s_region ?_
                refine oP ?_
                refine o_nil ?_
                exact s_retv (rs := [.tmp 6]) rfl (.tmp rfl (.nil)) (fun w' h' => ⟨(), by rw [hOr, hO0]; rfl, trivial, by rw [hOr]; exact h'.ent aEt⟩)

end Go.Proofs

/- Chapter 12: nodes marked. Plain data. -/
namespace Gx
set_option linter.unusedSimpArgs false
set_option linter.unusedVariables false
set_option linter.unusedSectionVars false
open Go Go.RowKit
def mkS (vs : List Vis) (S : List Int) : List Int := (vs.map fun v => ((v.i : Nat) : Int)).reverse ++ S
theorem mkS_app (A B : List Vis) (S : List Int) : mkS (A ++ B) S = mkS B (mkS A S) := by simp [mkS]
theorem mkS_mem {vs : List Vis} {c : Int} : c ∈ mkS vs [] ↔ ∃ v ∈ vs, ((v.i : Nat) : Int) = c := by simp [mkS]
end Gx

namespace Go.Proofs
open Go Go.RowKit Gx
set_option linter.unusedVariables false
set_option linter.unusedSimpArgs false
attribute [local irreducible] Go.Calls Gx.S Gx.O Gx.D Gx.OpP Gx.OpQ Gx.OpH

theorem fn_86 : isFn Tryz.prog 86 = true := by kernel_rfl


def MkC (j : Nat) (mo rm : Int) (a : Option Addr) (cap : Nat) (L : List LNd) (sb scap tot : Nat) (f : Nat) : Prop := ∀ (w : World) (S : List Int) (v : Vis) (P : List Nat), (HS w (fps [.blk sb 4 tot (seenV L.length S)]) [.blk sb 4 tot (seenV L.length S)] w) → (Nt w (fps [.blk sb 4 tot (seenV L.length S)]) a L) → (TOk (j : Int) (pln L)) → (Bd (pln L)) → (0 < L.length) → (Gx.Way (pln L) (v.i :: P)) → P.length + f = L.length → Calls Tryz.prog 86 #[.agg #[.int .i64 (j : Int), .int .i64 mo, .int .i64 rm, .slice a L.length cap], .int .i64 (v.i : Int), .slice (some ⟨sb, 0, none⟩) L.length scap] w fun en w' => ∃ g : Unit, en = .returned (.tuple #[]) ∧ True ∧ HS w (fps [.blk sb 4 tot (seenV L.length S)]) [.blk sb 4 tot (seenV L.length (mkS (vis (pln L) f v) S))] w'

set_option maxRecDepth 20000 in
theorem c86s (w : World) (j : Nat) (mo rm : Int) (a : Option Addr) (cap : Nat) (L : List LNd) (sb scap tot : Nat) (S : List Int) (v : Vis) (P : List Nat) (f : Nat) (hw : HS w (fps [.blk sb 4 tot (seenV L.length S)]) [.blk sb 4 tot (seenV L.length S)] w) (hs : Nt w (fps [.blk sb 4 tot (seenV L.length S)]) a L) (hT : TOk (j : Int) (pln L)) (hB : Bd (pln L)) (h0 : 0 < L.length) (hway : Gx.Way (pln L) (v.i :: P)) (hf : P.length + (f + 1) = L.length) (ih : MkC j mo rm a cap L sb scap tot f) : Calls Tryz.prog 86 #[.agg #[.int .i64 (j : Int), .int .i64 mo, .int .i64 rm, .slice a L.length cap], .int .i64 (v.i : Int), .slice (some ⟨sb, 0, none⟩) L.length scap] w fun en w' => ∃ g : Unit, en = .returned (.tuple #[]) ∧ True ∧ HS w (fps [.blk sb 4 tot (seenV L.length S)]) [.blk sb 4 tot (seenV L.length (mkS (vis (pln L) (f + 1) v) S))] w' := by
  have hi0 := way_lt hT (by rw [pln_len]; exact h0) hway v.i (List.mem_cons_self ..)
  have hi : v.i < L.length := by rw [pln_len] at hi0; exact hi0
  have hn := pln_nth hi
  have hle := hB.len
  rw [pln_len] at hle
  have hcl := hB.cs v.i hi0
  rw [hn] at hcl
  simp only [LNd.pl] at hcl
  refine enter (args := [_, _, _]) Tryz.func86 Tryz.ntmps86 rfl rfl hw ?_
  refine s_seq ?_
  refine s_region ?_
  refine o_h (h_box rfl rfl) rfl (fun b1 _ => ?_)
  refine o_nil ?_
  refine s_seq ?_
  refine s_region ?_
  refine oP ?_
  refine oP ?_
  refine o_p (p_indexAddr rfl rfl rfl sl_140 (v.i) (by omega) (by omega) rfl) rfl ?_
  refine o_slot (show _ = Value.pointer (some ⟨sb, v.i, none⟩) from by rw [Nat.zero_add, Nat.mul_one]) ?_
  refine o_h0 (h_store rfl rfl rfl sz_4 rfl aPt (by rw [seen_len]; show _ + 1 ≤ _; omega) rfl) (fun _ _ => ?_)
  refine o_nil ?_
  refine s_seq ?_
  refine s_region ?_
  refine oP ?_
  refine o_nil ?_
  refine s_block ?_
  refine s_loopI (α := Nat) [6, 10, 11, 12, 13, 14, 15, 16, 17, 18, 19, 20, 21, 22, 23, 24, 25, 26, 27, 28, 29, 30, 31, 32] (fun k => [(6, .int .i64 (k : Int))]) (fun k => HS w (fps [.blk sb 4 tot (seenV L.length S)]) [.blk sb 4 tot (seenV L.length (mkS (visK (pln L) f v k) S)), .blk b1 24 4 [.int .i64 (j : Int), .int .i64 mo, .int .i64 rm, .slice a L.length cap]]) (fun k => k ≤ (nth L v.i).cs.length) (fun k => (nth L v.i).cs.length - k) 0 (Nat.zero_le _) aSx (fun w h => by have h2 := h; rw [show setMany (seenV L.length S) v.i (Value.cells (.bool true)).toList = seenV L.length (((v.i : Nat) : Int) :: S) from seen_set hi] at h2; exact h2.ent aEt) (fun k hk1 => ?_)
  refine s_seq ?_
  refine s_seq ?_
  refine s_region ?_
  refine oP ?_
  refine o_p (p_fieldAddr rfl rfl fd_24_3 sz_22 rfl) rfl ?_
  refine o_q (q_load rfl rfl sz_22 aPk rfl) rfl ?_
  refine oP ?_
  refine o_p (p_indexAddr rfl rfl rfl sl_22 (v.i) (by omega) (by omega) (Rw.some hs.1 (by omega))) rfl ?_
  refine o_p (p_fieldAddr rfl rfl fd_102_2 sz_30 rfl) rfl ?_
  refine o_q (q_load_old rfl rfl sz_30 ((hs.1.rdj 2 hi rfl))) rfl ?_
  refine o_p (p_len_slice rfl rfl Tryz.underlying30) rfl ?_
  refine oP ?_
  refine o_nil ?_
  refine s_cond rfl (fun h2 => ?_) (fun h2 => ?_)
  · try simp only [decide_eq_true_eq] at h2
    have hkl : k < (nth L v.i).cs.length := by omega
    have hkid := kid_in hT hi0 (k := k) (by rw [hn]; exact hkl)
    rw [hn, pln_len] at hkid
    simp only [LNd.pl] at hkid
    have hway2 := way_kid hway hi0 (k := k) (by rw [hn]; exact hkl) (by rw [hn]; simp only [LNd.pl]; omega)
    refine s_skip ?_
    refine s_seq ?_
    refine s_block ?_
    refine s_draw [11] mixed ?_
    refine d_q 0 [[]] rfl (q_loadn rfl rfl sz_24 aPk rfl) (by kernel_rfl) (by kernel_rfl) (by kernel_rfl) rfl ?_
    refine d_p 1 rfl (p_fieldAddr rfl rfl fd_24_3 sz_22 rfl) (by kernel_rfl) rfl rfl ?_
    refine d_q 2 [[9, 8, 6, 5, 4]] rfl (q_load rfl rfl sz_22 aPk rfl) (by kernel_rfl) (by kernel_rfl) (by kernel_rfl) rfl ?_
    refine dP 3 ?_
    refine d_p 4 rfl (p_indexAddr rfl rfl rfl sl_22 (v.i) (by omega) (by omega) (Rw.some hs.1 (by omega))) (by kernel_rfl) rfl rfl ?_
    refine d_p 5 rfl (p_fieldAddr rfl rfl fd_102_2 sz_30 rfl) (by kernel_rfl) rfl rfl ?_
    refine d_q 6 [[9, 8]] rfl (q_load_old rfl rfl sz_30 ((hs.1.rdj 2 hi rfl))) (by kernel_rfl) (by kernel_rfl) (by kernel_rfl) rfl ?_
    refine dP 7 ?_
    refine d_p 8 rfl (p_indexAddr rfl rfl rfl sl_30 (k) (by omega) (by omega) (Rw.some (hs.cs hi) (by omega))) (by kernel_rfl) rfl rfl ?_
    refine d_q 9 [[]] rfl (q_load_old rfl rfl sz_3 (((hs.cs hi).rdj 0 (i := k) hkl rfl))) (by kernel_rfl) (by kernel_rfl) (by kernel_rfl) rfl ?_
    refine d_slot (show _ = Value.int .i64 ((kidV (pln L) v k).i : Int) from by rw [kidV, hn]; exact congrArg (Value.int .i64) (Int.toNat_of_nonneg (show 0 ≤ (nth L v.i).cs.getD k 0 by omega)).symm) ?_
    refine dP 10 ?_
    refine d_h 11 rfl (h_callF (Cs := [.blk sb 4 tot (seenV L.length (mkS (visK (pln L) f v k) S))]) rfl fn_86 rfl aPs (fun w1 h1 hf9 => ih w1 (mkS (visK (pln L) f v k) S) (kidV (pln L) v k) (v.i :: P) hf9 ((hs.keep h1).mono (fps_pick aPs)) hT hB h0 hway2 (by simp only [List.length_cons]; omega))) (by kernel_rfl) (fun w h => h.ent aEt) rfl (fun _ _ => ?_)
    refine d_turn [] (by kernel_rfl) ?_
    refine d_nil (by kernel_rfl) (fun w h => by first | exact h | exact h.ent aEt) ?_
    refine s_blk ?_
    refine s_region ?_
    refine oP ?_
    refine oP ?_
    try (refine o_slot (i64w (by omega) (by omega)) ?_)
    refine oP ?_
    refine o_nil ?_
    exact s_backI (k + 1) (by omega) (by omega) aSx (fun w h => by rw [visK_succ, mkS_app]; exact h.ent aEt)
  · try simp only [decide_eq_false_iff_not] at h2
    obtain rfl : k = (nth L v.i).cs.length := by omega
    refine s_exit_to rfl ?_
    exact s_end0 rfl (fun w' h' => ⟨(), rfl, trivial, by rw [visK_all, hn]; exact h'.ent aEt⟩)

theorem c86 (j : Nat) (mo rm : Int) (a : Option Addr) (cap : Nat) (L : List LNd) (sb scap tot : Nat) : ∀ f, MkC j mo rm a cap L sb scap tot f
  | 0 => fun w S v P hw hs hT hB h0 hway hf => by
    have h1 := way_len hT (by rw [pln_len]; exact h0) hway
    rw [pln_len, List.length_cons] at h1
    omega
  | f + 1 => fun w S v P hw hs hT hB h0 hway hf => c86s w j mo rm a cap L sb scap tot S v P f hw hs hT hB h0 hway hf (c86 j mo rm a cap L sb scap tot f)

end Go.Proofs

/- Chapter 12: where nodes lie, as the reference looks. Plain data. -/
namespace Gx
set_option linter.unusedSimpArgs false
set_option linter.unusedVariables false
set_option linter.unusedSectionVars false
open Go Go.RowKit
/-- A slice of strings as a bound: none, or one. -/
def StK (w : World) (p : Option Addr) (n : Nat) (o : Option (List UInt8)) : Prop := match o with
  | none => n = 0
  | some k => n = 1 ∧ ∃ b off, p = some ⟨b, off, none⟩ ∧ Rd w [] b off (.string (bs k))
theorem StK.later {w w' : World} {As : List HA} {p : Option Addr} {n : Nat} {o : Option (List UInt8)} (h : StK w p n o) (hs : HS w [] As w') : StK w' p n o := by
  cases o with
  | none => exact h
  | some k =>
    obtain ⟨h1, b, off, h2, h3⟩ := h
    exact ⟨h1, b, off, h2, h3.next hs⟩
theorem StK.of_pos {w : World} {p : Option Addr} {n : Nat} {o : Option (List UInt8)} (h : StK w p n o) (hn : 0 < n) : ∃ k b off, o = some k ∧ n = 1 ∧ p = some ⟨b, off, none⟩ ∧ Rd w [] b off (.string (bs k)) := by
  cases o with
  | none =>
    have : n = 0 := h
    omega
  | some k =>
    obtain ⟨h1, b, off, h2, h3⟩ := h
    exact ⟨k, b, off, rfl, h1, h2, h3⟩
theorem StK.of_no {w : World} {p : Option Addr} {n : Nat} {o : Option (List UInt8)} (h : StK w p n o) (hn : ¬ 0 < n) : o = none := by
  cases o with
  | none => rfl
  | some k =>
    obtain ⟨h1, _⟩ := h
    omega
theorem StK.new {w : World} {b : Nat} {k : List UInt8} (h : Rd w [] b 0 (.string (bs k))) : StK w (some ⟨b, 0, none⟩) 1 (some k) := ⟨rfl, b, 0, rfl, h⟩
theorem loK_pos {es : List TEnt} {k : Nat} {lo : Option (List UInt8)} (h : 0 < k) : loK es k lo = some (nth es (k - 1)).key := if_pos h
theorem loK_no {es : List TEnt} {k : Nat} {lo : Option (List UInt8)} (h : ¬ 0 < k) : loK es k lo = lo := if_neg h
theorem hiK_pos {es : List TEnt} {k : Nat} {hi : Option (List UInt8)} (h : k < es.length) : hiK es k hi = some (nth es k).key := if_pos h
theorem hiK_no {es : List TEnt} {k : Nat} {hi : Option (List UInt8)} (h : ¬ k < es.length) : hiK es k hi = hi := if_neg h
theorem shpF_app {t : Tre} {deep : Int} : ∀ (A B : List Vis), shpF t deep (A ++ B) = if (shpF t deep A).2 = 0 then shpF t deep B else shpF t deep A
  | [], B => rfl
  | v :: A, B => by
    rw [List.cons_append, shpF, shpF]
    by_cases h : visE t deep v = 0
    · rw [if_pos h, if_pos h]
      exact shpF_app A B
    · rw [if_neg h, if_neg h, if_neg h]
theorem gap_iff {t : Tre} {v : Vis} {N R : Nd} (hN : nth t.ns v.i = N) (hR : nth t.ns 0 = R) (h1 : R.cs.length = 0 ∨ R.cs.length = R.es.length + 1) (h2 : ∀ c ∈ R.cs, 1 ≤ c) : gapB t v = true ↔ (v.i ≠ 0 ∧ (N.es.length : Int) < t.mo / 2) ∨ (((R.es.length = 0 ∧ R.cs.length = 1) ∧ R.cs.getD 0 0 = (v.i : Int)) ∧ (N.es.length : Int) ≤ t.rm) := by
  subst hN hR
  unfold gapB
  simp only [Bool.and_eq_true, Bool.or_eq_true, decide_eq_true_eq]
  constructor
  · rintro ⟨h3, h4 | ⟨⟨h4, h5⟩, h6⟩⟩
    · exact .inl ⟨by omega, h4⟩
    · refine .inr ⟨⟨⟨h4, ?_⟩, ?_⟩, h6⟩
      · rcases h1 with h1 | h1
        · rw [List.eq_nil_of_length_eq_zero h1] at h5
          cases h5
        · omega
      · have hl : (nth t.ns 0).cs.length = 1 := by
          rcases h1 with h1 | h1
          · rw [List.eq_nil_of_length_eq_zero h1] at h5
            cases h5
          · omega
        obtain ⟨c, hc⟩ := List.length_eq_one_iff.1 hl
        rw [hc] at h5 ⊢
        exact (List.mem_singleton.1 h5).symm
  · rintro (⟨h3, h4⟩ | ⟨⟨⟨h4, h5⟩, h6⟩, h7⟩)
    · exact ⟨by omega, .inl h4⟩
    · obtain ⟨c, hc⟩ := List.length_eq_one_iff.1 h5
      have h8 := h2 c (by rw [hc]; exact List.mem_singleton.2 rfl)
      rw [hc] at h6 ⊢
      have h9 : c = (v.i : Int) := h6
      exact ⟨by omega, .inr ⟨⟨h4, List.mem_singleton.2 h9.symm⟩, h7⟩⟩
theorem visE_gap {t : Tre} {deep : Int} {v : Vis} (h : gapB t v = true) : visE t deep v = 14 := by rw [visE_eq, if_pos h]
theorem visE_out {t : Tre} {deep : Int} {v : Vis} (h : ¬ gapB t v = true) (h2 : outsB t v = true) : visE t deep v = 9 := by rw [visE_eq, if_neg h, if_pos h2]
theorem visE_22 {t : Tre} {deep : Int} {v : Vis} (h : ¬ gapB t v = true) (h2 : ¬ outsB t v = true) (h3 : (nth t.ns v.i).cs.length = 0 ∧ v.d ≠ deep + 1) : visE t deep v = 22 := by rw [visE_eq, if_neg h, if_neg h2, if_pos h3]
theorem visE_ok {t : Tre} {deep : Int} {v : Vis} (h : ¬ gapB t v = true) (h2 : ¬ outsB t v = true) (h3 : ¬ ((nth t.ns v.i).cs.length = 0 ∧ v.d ≠ deep + 1)) : visE t deep v = 0 := by rw [visE_eq, if_neg h, if_neg h2, if_neg h3]
theorem outs_hit {t : Tre} {v : Vis} {N : Nd} {k : Nat} (hN : nth t.ns v.i = N) (hk : k < N.es.length) (h : outB t v (nth N.es k) = true) : outsB t v = true := by
  subst hN
  exact List.any_eq_true.2 ⟨_, mem_nth hk, h⟩
theorem outs_no {t : Tre} {v : Vis} {N : Nd} (hN : nth t.ns v.i = N) (h : ∀ q, q < N.es.length → ¬ outB t v (nth N.es q) = true) : ¬ outsB t v = true := fun h2 => by
  subst hN
  obtain ⟨x, hx, h3⟩ := List.any_eq_true.1 h2
  obtain ⟨q, hq, e⟩ := List.getElem_of_mem hx
  have e2 : nth (nth t.ns v.i).es q = x := nth_eq (by rw [List.getElem?_eq_getElem hq, e])
  exact h q hq (by rw [e2]; exact h3)
theorem out_iff {t : Tre} {v : Vis} {x : TEnt} : outB t v x = true ↔ (∃ b, v.lo = some b ∧ 0 ≤ cmpK t.co b x.key) ∨ (∃ b, v.hi = some b ∧ 0 ≤ cmpK t.co x.key b) := by
  unfold outB
  cases v.lo <;> cases v.hi <;> simp
section
variable {t : Tre} {v : Vis} {x : TEnt} {kl kh : List UInt8}
theorem out_a (h1 : v.lo = some kl) (h : 0 ≤ cmpK t.co kl x.key) : (true = true ↔ outB t v x = true) := ⟨fun _ => out_iff.2 (.inl ⟨kl, h1, h⟩), fun _ => rfl⟩
theorem out_b (h1 : v.lo = some kl) (h : ¬ 0 ≤ cmpK t.co kl x.key) (h2 : v.hi = some kh) : (decide (cmpK t.co x.key kh ≥ 0) = true ↔ outB t v x = true) := by
  rw [decide_eq_true_eq, out_iff, h1, h2]
  constructor
  · exact fun h9 => .inr ⟨kh, rfl, h9⟩
  · rintro (⟨b, hb, h9⟩ | ⟨b, hb, h9⟩)
    · cases hb
      exact absurd h9 h
    · cases hb
      exact h9
theorem out_c (h1 : v.lo = some kl) (h : ¬ 0 ≤ cmpK t.co kl x.key) (h2 : v.hi = none) : (false = true ↔ outB t v x = true) := by
  rw [out_iff, h1, h2]
  constructor
  · exact fun h9 => (nomatch h9)
  · rintro (⟨b, hb, h9⟩ | ⟨b, hb, h9⟩)
    · cases hb
      exact absurd h9 h
    · cases hb
theorem out_d (h1 : v.lo = none) (h2 : v.hi = some kh) : (decide (cmpK t.co x.key kh ≥ 0) = true ↔ outB t v x = true) := by
  rw [decide_eq_true_eq, out_iff, h1, h2]
  constructor
  · exact fun h9 => .inr ⟨kh, rfl, h9⟩
  · rintro (⟨b, hb, h9⟩ | ⟨b, hb, h9⟩)
    · cases hb
    · cases hb
      exact h9
theorem out_e (h1 : v.lo = none) (h2 : v.hi = none) : (false = true ↔ outB t v x = true) := by
  rw [out_iff, h1, h2]
  constructor
  · exact fun h9 => (nomatch h9)
  · rintro (⟨b, hb, h9⟩ | ⟨b, hb, h9⟩) <;> cases hb
end
theorem shp_head {t : Tre} {deep : Int} {f : Nat} {v : Vis} (h : ¬ visE t deep v = 0) : shpF t deep (vis t.ns (f + 1) v) = ((v.i : Int), visE t deep v) := by
  rw [vis, shpF, if_neg h]
theorem shp_K0 {t : Tre} {deep : Int} {f : Nat} {v : Vis} (h : visE t deep v = 0) : (shpF t deep (visK t.ns f v 0)).2 = 0 := by
  rw [visK_0, shpF, if_pos h]
  rfl
end Gx

namespace Go.Proofs
open Go Go.RowKit Gx
set_option linter.unusedVariables false
set_option linter.unusedSimpArgs false
attribute [local irreducible] Go.Calls Gx.S Gx.O Gx.D Gx.OpP Gx.OpQ Gx.OpH

theorem sl_174 : tsl Tryz.prog 174 = some (9, 1, 16) := by kernel_rfl
theorem zr_9 : tzero Tryz.prog 9 = some [.string (bs [])] := by kernel_rfl
theorem fn_87 : isFn Tryz.prog 87 = true := by kernel_rfl


def PlC (j : Nat) (mo rm : Int) (a : Option Addr) (cap : Nat) (L : List LNd) (deep : Int) (f : Nat) : Prop := ∀ (w : World) (v : Vis) (P : List Nat) (lv : Int) (pa qa : Option Addr) (pn pc qn qc : Nat), (Nt w [] a L) → (j ≤ 3) → ((0 ≤ mo ∧ mo ≤ 1000) ∧ (0 ≤ deep ∧ deep ≤ 1000)) → (TOk (j : Int) (pln L)) → (Bd (pln L)) → (0 < L.length) → (Gx.Way (pln L) (v.i :: P)) → (v.d = (P.length : Int) + 1) → (lv = deep + 1 - v.d) → (KOk (j : Int) v.lo) → (KOk (j : Int) v.hi) → (StK w pa pn v.lo) → (StK w qa qn v.hi) → P.length + f = L.length → Calls Tryz.prog 87 #[.agg #[.int .i64 (j : Int), .int .i64 mo, .int .i64 rm, .slice a L.length cap], .int .i64 (v.i : Int), .int .i64 lv, .slice pa pn pc, .slice qa qn qc] w fun en w' => en = .returned (.tuple #[.int .i64 (shpF (⟨(j : Int), mo, rm, pln L⟩ : Tre) deep (vis (pln L) f v)).1, .int .i64 (shpF (⟨(j : Int), mo, rm, pln L⟩ : Tre) deep (vis (pln L) f v)).2]) ∧ Below w.heap.size w w'

set_option maxRecDepth 20000 in
set_option maxHeartbeats 400000 in
theorem c87s (w : World) (j : Nat) (mo rm : Int) (a : Option Addr) (cap : Nat) (L : List LNd) (deep : Int) (v : Vis) (P : List Nat) (lv : Int) (pa qa : Option Addr) (pn pc qn qc : Nat) (f : Nat) (hs : Nt w [] a L) (hj : j ≤ 3) (hmo : (0 ≤ mo ∧ mo ≤ 1000) ∧ (0 ≤ deep ∧ deep ≤ 1000)) (hT : TOk (j : Int) (pln L)) (hB : Bd (pln L)) (h0 : 0 < L.length) (hway : Gx.Way (pln L) (v.i :: P)) (hd : v.d = (P.length : Int) + 1) (hlv : lv = deep + 1 - v.d) (hko : KOk (j : Int) v.lo) (hkp : KOk (j : Int) v.hi) (hlo : StK w pa pn v.lo) (hhi : StK w qa qn v.hi) (hf : P.length + (f + 1) = L.length) (ih : PlC j mo rm a cap L deep f) : Calls Tryz.prog 87 #[.agg #[.int .i64 (j : Int), .int .i64 mo, .int .i64 rm, .slice a L.length cap], .int .i64 (v.i : Int), .int .i64 lv, .slice pa pn pc, .slice qa qn qc] w fun en w' => en = .returned (.tuple #[.int .i64 (shpF (⟨(j : Int), mo, rm, pln L⟩ : Tre) deep (vis (pln L) (f + 1) v)).1, .int .i64 (shpF (⟨(j : Int), mo, rm, pln L⟩ : Tre) deep (vis (pln L) (f + 1) v)).2]) ∧ Below w.heap.size w w' := by
  have hi0 := way_lt hT (by rw [pln_len]; exact h0) hway v.i (List.mem_cons_self ..)
  have hi : v.i < L.length := by rw [pln_len] at hi0; exact hi0
  have hn := pln_nth hi
  have hn0 := pln_nth h0
  have hle := hB.len
  rw [pln_len] at hle
  have hwl := way_len hT (by rw [pln_len]; exact h0) hway
  rw [pln_len, List.length_cons] at hwl
  have hcl := hB.cs v.i hi0
  have hel := hB.es v.i hi0
  rw [hn] at hcl hel
  simp only [LNd.pl] at hcl hel
  have hsh := hT.shape v.i hi0
  rw [hn] at hsh
  simp only [LNd.pl] at hsh
  have hgi := gap_iff (t := (⟨(j : Int), mo, rm, pln L⟩ : Tre)) (v := v) hn hn0 (hn0 ▸ hT.shape 0 (by rw [pln_len]; exact h0)) (fun c hc => (hT.kid 0 (by rw [pln_len]; exact h0) c (by rw [hn0]; exact hc)).1.1)
  simp only [LNd.pl] at hgi
  have hE9 := ents_kok hT hi0
  rw [hn] at hE9
  simp only [LNd.pl] at hE9
  refine enter (args := [_, _, _, _, _]) Tryz.func87 Tryz.ntmps87 rfl rfl (HS.refl w []) ?_
  refine s_seq ?_
  refine s_region ?_
  refine o_h (h_box rfl rfl) rfl (fun b1 _ => ?_)
  refine oP ?_
  refine oP ?_
  refine o_nil ?_
  refine s_seq ?_
  refine s_region ?_
  refine o_p (p_fieldAddr rfl rfl fd_24_3 sz_22 rfl) rfl ?_
  refine o_q (q_load rfl rfl sz_22 aPk rfl) rfl ?_
  refine oP ?_
  refine o_p (p_indexAddr rfl rfl rfl sl_22 (v.i) (by omega) (by omega) (Rw.some hs.1 (by omega))) rfl ?_
  refine o_q (q_load_oldn _ rfl rfl sz_102 rfl (Rw.rd hs.1 hi)) rfl ?_
  refine o_h (h_alloc rfl zr_102) rfl (fun b2 _ => ?_)
  refine o_h0 (h_store rfl rfl rfl sz_102 rfl aPt (by simp only [setMany_length, List.length_set, List.length_cons, List.length_nil, List.length_map]; omega) rfl) (fun _ _ => ?_)
  refine o_nil ?_
  refine s_seq ?_
  refine s_seq ?_
  refine s_region ?_
  refine oP ?_
  refine oP ?_
  refine oP ?_
  refine o_and 8 27 35 _ _ rfl
    (by
      intro hg3
      have hs4 := hg3; try simp only [Bool.not_eq_true', decide_eq_false_iff_not] at hs4
      refine o_on 27 _ rfl rfl hg3 ?_
      refine o_p (p_fieldAddr rfl rfl fd_102_1 sz_77 rfl) rfl ?_
      refine o_on 27 _ rfl rfl hg3 ?_
      refine o_q (q_load rfl rfl sz_77 aPk rfl) rfl ?_
      refine o_on 27 _ rfl rfl hg3 ?_
      refine o_p (p_len_slice rfl rfl Tryz.underlying77) rfl ?_
      refine o_on 27 _ rfl rfl hg3 ?_
      refine o_p (p_fieldAddr rfl rfl fd_24_1 sz_3 rfl) rfl ?_
      refine o_on 27 _ rfl rfl hg3 ?_
      refine o_q (q_load rfl rfl sz_3 aPk rfl) rfl ?_
      refine o_on 27 _ rfl rfl hg3 ?_
      refine o_p (p_quo_nn rfl rfl rfl (by omega) (by omega) (by omega)) rfl ?_
      refine o_on 27 _ rfl rfl hg3 ?_
      refine oP ?_
      refine o_p (p_pickt rfl rfl hg3 rfl) rfl ?_
      refine o_nil ?_
      exact s_joinN 8 35 _ rfl rfl rfl (fun w h => by first | exact h | exact h.ent aEt))
    (by
      intro hg5
      have hs6 := hg5; try simp only [Bool.not_eq_false', decide_eq_true_eq] at hs6
      refine o_off 27 _ rfl rfl hg5 rfl ?_
      refine o_off 27 _ rfl rfl hg5 rfl ?_
      refine o_off 27 _ rfl rfl hg5 rfl ?_
      refine o_off 27 _ rfl rfl hg5 rfl ?_
      refine o_off 27 _ rfl rfl hg5 rfl ?_
      refine o_off 27 _ rfl rfl hg5 rfl ?_
      refine o_off 27 _ rfl rfl hg5 rfl ?_
      refine o_p (p_pickf rfl rfl hg5 rfl) rfl ?_
      refine o_nil ?_
      exact s_joinN 8 35 _ rfl rfl rfl (fun w h => by first | exact h | exact h.ent aEt)) ?_
  refine o_nil ?_
  refine s_cond rfl (fun h7 => ?_) (fun h7 => ?_)
  · try simp only [Bool.and_eq_true, Bool.not_eq_true', decide_eq_false_iff_not, decide_eq_true_eq] at h7
    have hgp : gapB (⟨(j : Int), mo, rm, pln L⟩ : Tre) v = true := hgi.2 (.inl (by have hq := h7; omega))
    have hV := visE_gap (deep := deep) hgp
    refine s_seq ?_
    refine s_region ?_
    refine oP ?_
    refine oP ?_
    refine oP ?_
    refine o_nil ?_
    exact s_retv (rs := [.tmp 10, .tmp 11]) rfl (.tmp rfl (.tmp rfl (.nil))) (fun w' h' => ⟨by rw [shp_head (by rw [hV]; decide), hV]; rfl, h'.below⟩)
  · try simp only [Bool.and_eq_false_iff, Bool.not_eq_false', decide_eq_true_eq, decide_eq_false_iff_not] at h7
    have hng1 : ¬ (v.i ≠ 0 ∧ ((nth L v.i).es.length : Int) < mo / 2) := by have hq := h7; omega
    refine s_skip ?_
    refine s_seq ?_
    refine s_seq ?_
    refine s_region ?_
    refine o_p (p_fieldAddr rfl rfl fd_24_3 sz_22 rfl) rfl ?_
    refine o_q (q_load rfl rfl sz_22 aPk rfl) rfl ?_
    refine o_p (p_indexAddr rfl rfl rfl sl_22 (0) (by omega) (by omega) (Rw.some hs.1 (by omega))) rfl ?_
    refine o_p (p_fieldAddr rfl rfl fd_102_1 sz_77 rfl) rfl ?_
    refine o_q (q_load_old rfl rfl sz_77 ((hs.1.rdj 1 h0 rfl))) rfl ?_
    refine o_p (p_len_slice rfl rfl Tryz.underlying77) rfl ?_
    refine oP ?_
    refine oP ?_
    refine o_and 8 44 52 _ _ rfl
      (by
        intro hg8
        have hs9 := hg8; try simp only [decide_eq_true_eq] at hs9
        refine o_on 44 _ rfl rfl hg8 ?_
        refine o_p (p_fieldAddr rfl rfl fd_24_3 sz_22 rfl) rfl ?_
        refine o_on 44 _ rfl rfl hg8 ?_
        refine o_q (q_load rfl rfl sz_22 aPk rfl) rfl ?_
        refine o_on 44 _ rfl rfl hg8 ?_
        refine o_p (p_indexAddr rfl rfl rfl sl_22 (0) (by omega) (by omega) (Rw.some hs.1 (by omega))) rfl ?_
        refine o_on 44 _ rfl rfl hg8 ?_
        refine o_p (p_fieldAddr rfl rfl fd_102_2 sz_30 rfl) rfl ?_
        refine o_on 44 _ rfl rfl hg8 ?_
        refine o_q (q_load_old rfl rfl sz_30 ((hs.1.rdj 2 h0 rfl))) rfl ?_
        refine o_on 44 _ rfl rfl hg8 ?_
        refine o_p (p_len_slice rfl rfl Tryz.underlying30) rfl ?_
        refine o_on 44 _ rfl rfl hg8 ?_
        refine oP ?_
        refine o_p (p_pickt rfl rfl hg8 rfl) rfl ?_
        refine o_nil ?_
        exact s_joinN 8 52 _ rfl rfl rfl (fun w h => by first | exact h | exact h.ent aEt))
      (by
        intro hg10
        have hs11 := hg10; try simp only [decide_eq_false_iff_not] at hs11
        refine o_off 44 _ rfl rfl hg10 rfl ?_
        refine o_off 44 _ rfl rfl hg10 rfl ?_
        refine o_off 44 _ rfl rfl hg10 rfl ?_
        refine o_off 44 _ rfl rfl hg10 rfl ?_
        refine o_off 44 _ rfl rfl hg10 rfl ?_
        refine o_off 44 _ rfl rfl hg10 rfl ?_
        refine o_off 44 _ rfl rfl hg10 rfl ?_
        refine o_p (p_pickf rfl rfl hg10 rfl) rfl ?_
        refine o_nil ?_
        exact s_joinN 8 52 _ rfl rfl rfl (fun w h => by first | exact h | exact h.ent aEt)) ?_
    refine oP ?_
    refine o_and 10 53 63 _ _ rfl
      (by
        intro hg12
        have hs13 := hg12; try simp only [Bool.and_eq_true, decide_eq_true_eq] at hs13
        refine o_on 53 _ rfl rfl hg12 ?_
        refine o_p (p_fieldAddr rfl rfl fd_24_3 sz_22 rfl) rfl ?_
        refine o_on 53 _ rfl rfl hg12 ?_
        refine o_q (q_load rfl rfl sz_22 aPk rfl) rfl ?_
        refine o_on 53 _ rfl rfl hg12 ?_
        refine o_p (p_indexAddr rfl rfl rfl sl_22 (0) (by omega) (by omega) (Rw.some hs.1 (by omega))) rfl ?_
        refine o_on 53 _ rfl rfl hg12 ?_
        refine o_p (p_fieldAddr rfl rfl fd_102_2 sz_30 rfl) rfl ?_
        refine o_on 53 _ rfl rfl hg12 ?_
        refine o_q (q_load_old rfl rfl sz_30 ((hs.1.rdj 2 h0 rfl))) rfl ?_
        refine o_on 53 _ rfl rfl hg12 ?_
        refine o_p (p_indexAddr rfl rfl rfl sl_30 (0) (by omega) (by omega) (Rw.some (hs.cs h0) (by omega))) rfl ?_
        refine o_on 53 _ rfl rfl hg12 ?_
        refine o_q (q_load_old rfl rfl sz_3 (((hs.cs h0).rdj 0 (i := 0) (by omega) rfl))) rfl ?_
        refine o_on 53 _ rfl rfl hg12 ?_
        refine oP ?_
        refine o_on 53 _ rfl rfl hg12 ?_
        refine oP ?_
        refine o_p (p_pickt rfl rfl hg12 rfl) rfl ?_
        refine o_nil ?_
        exact s_joinN 10 63 _ rfl rfl rfl (fun w h => by first | exact h | exact h.ent aEt))
      (by
        intro hg14
        have hs15 := hg14; try simp only [Bool.and_eq_false_iff, decide_eq_false_iff_not] at hs15
        refine o_off 53 _ rfl rfl hg14 rfl ?_
        refine o_off 53 _ rfl rfl hg14 rfl ?_
        refine o_off 53 _ rfl rfl hg14 rfl ?_
        refine o_off 53 _ rfl rfl hg14 rfl ?_
        refine o_off 53 _ rfl rfl hg14 rfl ?_
        refine o_off 53 _ rfl rfl hg14 rfl ?_
        refine o_off 53 _ rfl rfl hg14 rfl ?_
        refine o_off 53 _ rfl rfl hg14 rfl ?_
        refine o_off 53 _ rfl rfl hg14 rfl ?_
        refine o_p (p_pickf rfl rfl hg14 rfl) rfl ?_
        refine o_nil ?_
        exact s_joinN 10 63 _ rfl rfl rfl (fun w h => by first | exact h | exact h.ent aEt)) ?_
    refine oP ?_
    refine o_and 7 64 71 _ _ rfl
      (by
        intro hg16
        have hs17 := hg16; try simp only [Bool.and_eq_true, decide_eq_true_eq] at hs17
        refine o_on 64 _ rfl rfl hg16 ?_
        refine o_p (p_fieldAddr rfl rfl fd_102_1 sz_77 rfl) rfl ?_
        refine o_on 64 _ rfl rfl hg16 ?_
        refine o_q (q_load rfl rfl sz_77 aPk rfl) rfl ?_
        refine o_on 64 _ rfl rfl hg16 ?_
        refine o_p (p_len_slice rfl rfl Tryz.underlying77) rfl ?_
        refine o_on 64 _ rfl rfl hg16 ?_
        refine o_p (p_fieldAddr rfl rfl fd_24_2 sz_3 rfl) rfl ?_
        refine o_on 64 _ rfl rfl hg16 ?_
        refine o_q (q_load rfl rfl sz_3 aPk rfl) rfl ?_
        refine o_on 64 _ rfl rfl hg16 ?_
        refine oP ?_
        refine o_p (p_pickt rfl rfl hg16 rfl) rfl ?_
        refine o_nil ?_
        exact s_joinN 7 71 _ rfl rfl rfl (fun w h => by first | exact h | exact h.ent aEt))
      (by
        intro hg18
        have hs19 := hg18; try simp only [Bool.and_eq_false_iff, decide_eq_false_iff_not] at hs19
        refine o_off 64 _ rfl rfl hg18 rfl ?_
        refine o_off 64 _ rfl rfl hg18 rfl ?_
        refine o_off 64 _ rfl rfl hg18 rfl ?_
        refine o_off 64 _ rfl rfl hg18 rfl ?_
        refine o_off 64 _ rfl rfl hg18 rfl ?_
        refine o_off 64 _ rfl rfl hg18 rfl ?_
        refine o_p (p_pickf rfl rfl hg18 rfl) rfl ?_
        refine o_nil ?_
        exact s_joinN 7 71 _ rfl rfl rfl (fun w h => by first | exact h | exact h.ent aEt)) ?_
    refine o_nil ?_
    refine s_cond rfl (fun h20 => ?_) (fun h20 => ?_)
    · try simp only [Bool.and_eq_true, decide_eq_true_eq] at h20
      have hgp : gapB (⟨(j : Int), mo, rm, pln L⟩ : Tre) v = true := hgi.2 (.inr (by have hq := h20; exact ⟨⟨⟨by omega, by omega⟩, hq.1.2⟩, by omega⟩))
      have hV := visE_gap (deep := deep) hgp
      refine s_seq ?_
      refine s_weaken (L' := [(1, _), (2, _), (3, _), (4, _), (5, _), (10, _), (11, _), (12, _)]) aSx (fun _ h => h) ?_
      refine s_region ?_
      refine oP ?_
      refine oP ?_
      refine oP ?_
      refine o_nil ?_
      exact s_retv (rs := [.tmp 10, .tmp 11]) rfl (.tmp rfl (.tmp rfl (.nil))) (fun w' h' => ⟨by rw [shp_head (by rw [hV]; decide), hV]; rfl, h'.below⟩)
    · try simp only [Bool.and_eq_false_iff, decide_eq_false_iff_not] at h20
      have hgn : ¬ gapB (⟨(j : Int), mo, rm, pln L⟩ : Tre) v = true := fun h9 => (hgi.1 h9).elim hng1 (fun h8 => by have hq := h20; rcases hq with ((hq | hq) | hq) | hq <;> first | omega | exact hq h8.1.2)
      refine s_skip ?_
      refine s_seq ?_
      refine s_seq ?_
      refine s_weaken (L' := [(1, _), (2, _), (3, _), (4, _), (5, _), (10, _), (11, _), (12, _)]) aSx (fun _ h => h) ?_
      refine s_region ?_
      refine oP ?_
      refine o_nil ?_
      refine s_block ?_
      refine s_loopI (α := Nat) [10, 11, 13, 14, 73, 74, 75, 76, 77, 78, 79, 80, 81, 82, 83, 84, 85, 86, 87, 88, 89, 90, 91, 92, 93, 94, 95, 96, 97, 98, 99, 100, 101, 102, 103, 104, 105, 106, 107, 108, 109, 110, 111, 112, 113, 114] (fun k => [(13, .int .i64 (k : Int))]) (fun _ => HS w [] [.blk b1 24 4 [.int .i64 (j : Int), .int .i64 mo, .int .i64 rm, .slice a L.length cap], .blk b2 102 3 (LNd.vals (nth L v.i))]) (fun k => k ≤ (nth L v.i).es.length ∧ ∀ q, q < k → ¬ outB (⟨(j : Int), mo, rm, pln L⟩ : Tre) v (nth (nth L v.i).es q) = true) (fun k => (nth L v.i).es.length - k) 0 ⟨Nat.zero_le _, fun q h => absurd h (Nat.not_lt_zero q)⟩ aSx (fun w h => h.ent aEt) (fun k hx9 => ?_)
      obtain ⟨hk1, hk3⟩ := hx9
      refine s_seq ?_
      refine s_seq ?_
      refine s_region ?_
      refine oP ?_
      refine o_p (p_fieldAddr rfl rfl fd_102_1 sz_77 rfl) rfl ?_
      refine o_q (q_load rfl rfl sz_77 aPk rfl) rfl ?_
      refine o_p (p_len_slice rfl rfl Tryz.underlying77) rfl ?_
      refine oP ?_
      refine o_nil ?_
      refine s_cond rfl (fun h21 => ?_) (fun h21 => ?_)
      · try simp only [decide_eq_true_eq] at h21
        have hk5 : k < (nth L v.i).es.length := by omega
        refine s_skip ?_
        refine s_seq ?_
        refine s_block ?_
        refine s_seq ?_
        refine s_region ?_
        refine o_p (p_fieldAddr rfl rfl fd_102_1 sz_77 rfl) rfl ?_
        refine o_q (q_load rfl rfl sz_77 aPk rfl) rfl ?_
        refine oP ?_
        refine o_p (p_indexAddr rfl rfl rfl sl_77 (k) (by omega) (by omega) (Rw.some (hs.es hi) (by omega))) rfl ?_
        refine o_p (p_fieldAddr rfl rfl fd_26_0 sz_9 rfl) rfl ?_
        refine o_q (q_load_old rfl rfl sz_9 (((hs.es hi).rdj 0 hk5 rfl))) rfl ?_
        refine oP ?_
        refine o_nil ?_
        refine s_seq ?_
        refine s_weaken (L' := [(1, _), (2, _), (3, _), (4, _), (5, _), (12, _), (13, _), (14, _)]) aSx (fun _ h => h) ?_
        refine s_cutS (α := Bool) [86, 87, 88, 89, 90, 91, 92, 93, 94, 95, 96, 97, 98, 99, 100, 101, 102, 103, 104, 105, 106, 107, 108, 109, 110, 111, 112, 113] (fun x => [(113, .bool x)]) (fun x => x = true ↔ (outB (⟨(j : Int), mo, rm, pln L⟩ : Tre) v (nth (nth L v.i).es k)) = true) ?_ ?_
        · skip
          refine s_draw [] mixed ?_
          refine dP 0 ?_
          refine d_p 1 rfl (p_len_slice rfl rfl Tryz.underlying174) (by kernel_rfl) rfl rfl ?_
          refine dP 2 ?_
          refine dP 3 ?_
          apply d_split 89
          · exact rfl
          · intro hg22
            have hs23 := hg22; try simp only [decide_eq_true_eq] at hs23
            refine d_pon 4 89 rfl rfl rfl hg22 (p_fieldAddr rfl rfl fd_24_0 sz_3 rfl) (by kernel_rfl) rfl rfl ?_
            obtain ⟨kl, bl, ol, hlo1, hlo2, hlo3, hlo4⟩ := hlo.of_pos (by omega)
            refine d_qon 5 89 [] rfl rfl rfl hg22 (q_load rfl rfl sz_3 aPk rfl) (by kernel_rfl) (by kernel_rfl) (by kernel_rfl) rfl ?_
            refine d_pon 6 89 rfl rfl rfl hg22 (p_pure rfl) (by kernel_rfl) rfl rfl ?_
            refine d_pon 7 89 rfl rfl rfl hg22 (p_indexAddr rfl rfl rfl sl_174 (0) (by omega) (by omega) hlo3) (by kernel_rfl) rfl rfl ?_
            refine d_qon 8 89 [] rfl rfl rfl hg22 (q_load_old rfl rfl sz_9 (hlo4)) (by kernel_rfl) (by kernel_rfl) (by kernel_rfl) rfl ?_
            refine d_pon 9 89 rfl rfl rfl hg22 (p_pure rfl) (by kernel_rfl) rfl rfl ?_
            refine d_qon 10 89 [] rfl rfl rfl hg22 (q_call rfl fn_33 rfl (fun w1 h1 => c33 w1 j kl (nth (nth L v.i).es k).key hj (hko _ hlo1).1 (hE9 _ (mem_nth hk5)).1 (hko _ hlo1).2 (hE9 _ (mem_nth hk5)).2)) (by kernel_rfl) (by kernel_rfl) (by kernel_rfl) rfl ?_
            refine d_pon 11 89 rfl rfl rfl hg22 (p_pure rfl) (by kernel_rfl) rfl rfl ?_
            refine d_p 12 rfl (p_pickt rfl rfl hg22 rfl) (by kernel_rfl) rfl rfl ?_
            refine dP 13 ?_
            apply d_split 99
            · exact rfl
            · intro hg24
              have hs25 := hg24; try simp only [decide_eq_true_eq] at hs25
              refine d_off 14 99 rfl rfl rfl hg24 (by kernel_rfl) rfl rfl ?_
              refine d_off 15 99 rfl rfl rfl hg24 (by kernel_rfl) rfl rfl ?_
              refine d_off 16 99 rfl rfl rfl hg24 (by kernel_rfl) rfl rfl ?_
              refine d_off 17 99 rfl rfl rfl hg24 (by kernel_rfl) rfl rfl ?_
              refine d_offU 18 103 rfl rfl rfl (by kernel_rfl) rfl rfl ?_
              refine d_offU 19 103 rfl rfl rfl (by kernel_rfl) rfl rfl ?_
              refine d_offU 20 103 rfl rfl rfl (by kernel_rfl) rfl rfl ?_
              refine d_offU 21 103 rfl rfl rfl (by kernel_rfl) rfl rfl ?_
              refine d_offU 22 103 rfl rfl rfl (by kernel_rfl) rfl rfl ?_
              refine d_offU 23 103 rfl rfl rfl (by kernel_rfl) rfl rfl ?_
              refine d_offU 24 103 rfl rfl rfl (by kernel_rfl) rfl rfl ?_
              refine d_offU 25 103 rfl rfl rfl (by kernel_rfl) rfl rfl ?_
              refine d_off 26 99 rfl rfl rfl hg24 (by kernel_rfl) rfl rfl ?_
              refine d_p 27 rfl (p_pickt rfl rfl hg24 rfl) (by kernel_rfl) rfl rfl ?_
              refine d_nil (by kernel_rfl) (fun w h => by first | exact h | exact h.ent aEt) ?_
              exact s_joinI true (out_a hlo1 (by show 0 ≤ cmpK (j : Int) kl _; omega)) aSx (fun w h => h.ent aEt)
            · intro hg26
              have hs27 := hg26; try simp only [decide_eq_false_iff_not] at hs27
              refine d_pon 14 99 rfl rfl rfl hg26 (p_pure rfl) (by kernel_rfl) rfl rfl ?_
              refine d_pon 15 99 rfl rfl rfl hg26 (p_len_slice rfl rfl Tryz.underlying174) (by kernel_rfl) rfl rfl ?_
              refine d_pon 16 99 rfl rfl rfl hg26 (p_pure rfl) (by kernel_rfl) rfl rfl ?_
              refine d_pon 17 99 rfl rfl rfl hg26 (p_pure rfl) (by kernel_rfl) rfl rfl ?_
              apply d_split 103
              · exact rfl
              · intro hg28
                have hs29 := hg28; try simp only [decide_eq_true_eq] at hs29
                refine d_pon 18 103 rfl rfl rfl hg28 (p_fieldAddr rfl rfl fd_24_0 sz_3 rfl) (by kernel_rfl) rfl rfl ?_
                obtain ⟨kh, bh, oh, hhi1, hhi2, hhi3, hhi4⟩ := hhi.of_pos (by omega)
                refine d_qon 19 103 [] rfl rfl rfl hg28 (q_load rfl rfl sz_3 aPk rfl) (by kernel_rfl) (by kernel_rfl) (by kernel_rfl) rfl ?_
                refine d_pon 20 103 rfl rfl rfl hg28 (p_pure rfl) (by kernel_rfl) rfl rfl ?_
                refine d_pon 21 103 rfl rfl rfl hg28 (p_pure rfl) (by kernel_rfl) rfl rfl ?_
                refine d_pon 22 103 rfl rfl rfl hg28 (p_indexAddr rfl rfl rfl sl_174 (0) (by omega) (by omega) hhi3) (by kernel_rfl) rfl rfl ?_
                refine d_qon 23 103 [] rfl rfl rfl hg28 (q_load_old rfl rfl sz_9 (hhi4)) (by kernel_rfl) (by kernel_rfl) (by kernel_rfl) rfl ?_
                refine d_qon 24 103 [] rfl rfl rfl hg28 (q_call rfl fn_33 rfl (fun w1 h1 => c33 w1 j (nth (nth L v.i).es k).key kh hj (hE9 _ (mem_nth hk5)).1 (hkp _ hhi1).1 (hE9 _ (mem_nth hk5)).2 (hkp _ hhi1).2)) (by kernel_rfl) (by kernel_rfl) (by kernel_rfl) rfl ?_
                refine d_pon 25 103 rfl rfl rfl hg28 (p_pure rfl) (by kernel_rfl) rfl rfl ?_
                refine d_pon 26 99 rfl rfl rfl hg26 (p_pickt rfl rfl hg28 rfl) (by kernel_rfl) rfl rfl ?_
                refine d_p 27 rfl (p_pickf rfl rfl hg26 rfl) (by kernel_rfl) rfl rfl ?_
                refine d_nil (by kernel_rfl) (fun w h => by first | exact h | exact h.ent aEt) ?_
                exact s_joinI (decide (cmpK (j : Int) (nth (nth L v.i).es k).key kh ≥ 0)) (out_b (t := (⟨(j : Int), mo, rm, pln L⟩ : Tre)) hlo1 (by show ¬ 0 ≤ cmpK (j : Int) kl _; omega) hhi1) aSx (fun w h => h.ent aEt)
              · intro hg30
                have hs31 := hg30; try simp only [decide_eq_false_iff_not] at hs31
                refine d_off 18 103 rfl rfl rfl hg30 (by kernel_rfl) rfl rfl ?_
                refine d_off 19 103 rfl rfl rfl hg30 (by kernel_rfl) rfl rfl ?_
                refine d_off 20 103 rfl rfl rfl hg30 (by kernel_rfl) rfl rfl ?_
                refine d_off 21 103 rfl rfl rfl hg30 (by kernel_rfl) rfl rfl ?_
                refine d_off 22 103 rfl rfl rfl hg30 (by kernel_rfl) rfl rfl ?_
                refine d_off 23 103 rfl rfl rfl hg30 (by kernel_rfl) rfl rfl ?_
                refine d_off 24 103 rfl rfl rfl hg30 (by kernel_rfl) rfl rfl ?_
                refine d_off 25 103 rfl rfl rfl hg30 (by kernel_rfl) rfl rfl ?_
                refine d_pon 26 99 rfl rfl rfl hg26 (p_pickf rfl rfl hg30 rfl) (by kernel_rfl) rfl rfl ?_
                refine d_p 27 rfl (p_pickf rfl rfl hg26 rfl) (by kernel_rfl) rfl rfl ?_
                refine d_nil (by kernel_rfl) (fun w h => by first | exact h | exact h.ent aEt) ?_
                exact s_joinI false (out_c hlo1 (by show ¬ 0 ≤ cmpK (j : Int) kl _; omega) (hhi.of_no (by omega))) aSx (fun w h => h.ent aEt)
          · intro hg32
            have hs33 := hg32; try simp only [decide_eq_false_iff_not] at hs33
            refine d_off 4 89 rfl rfl rfl hg32 (by kernel_rfl) rfl rfl ?_
            refine d_off 5 89 rfl rfl rfl hg32 (by kernel_rfl) rfl rfl ?_
            refine d_off 6 89 rfl rfl rfl hg32 (by kernel_rfl) rfl rfl ?_
            refine d_off 7 89 rfl rfl rfl hg32 (by kernel_rfl) rfl rfl ?_
            refine d_off 8 89 rfl rfl rfl hg32 (by kernel_rfl) rfl rfl ?_
            refine d_off 9 89 rfl rfl rfl hg32 (by kernel_rfl) rfl rfl ?_
            refine d_off 10 89 rfl rfl rfl hg32 (by kernel_rfl) rfl rfl ?_
            refine d_off 11 89 rfl rfl rfl hg32 (by kernel_rfl) rfl rfl ?_
            refine d_p 12 rfl (p_pickf rfl rfl hg32 rfl) (by kernel_rfl) rfl rfl ?_
            refine dP 13 ?_
            apply d_split 99
            · exact rfl
            · intro hg34
              have hs35 := hg34; skip
              refine d_off 14 99 rfl rfl rfl hg34 (by kernel_rfl) rfl rfl ?_
              refine d_off 15 99 rfl rfl rfl hg34 (by kernel_rfl) rfl rfl ?_
              refine d_off 16 99 rfl rfl rfl hg34 (by kernel_rfl) rfl rfl ?_
              refine d_off 17 99 rfl rfl rfl hg34 (by kernel_rfl) rfl rfl ?_
              refine d_offU 18 103 rfl rfl rfl (by kernel_rfl) rfl rfl ?_
              refine d_offU 19 103 rfl rfl rfl (by kernel_rfl) rfl rfl ?_
              refine d_offU 20 103 rfl rfl rfl (by kernel_rfl) rfl rfl ?_
              refine d_offU 21 103 rfl rfl rfl (by kernel_rfl) rfl rfl ?_
              refine d_offU 22 103 rfl rfl rfl (by kernel_rfl) rfl rfl ?_
              refine d_offU 23 103 rfl rfl rfl (by kernel_rfl) rfl rfl ?_
              refine d_offU 24 103 rfl rfl rfl (by kernel_rfl) rfl rfl ?_
              refine d_offU 25 103 rfl rfl rfl (by kernel_rfl) rfl rfl ?_
              refine d_off 26 99 rfl rfl rfl hg34 (by kernel_rfl) rfl rfl ?_
              refine d_p 27 rfl (p_pickt rfl rfl hg34 rfl) (by kernel_rfl) rfl rfl ?_
              refine d_nil (by kernel_rfl) (fun w h => by first | exact h | exact h.ent aEt) ?_
              exact s_joinI true (by exfalso; simp_all; done) aSx (fun w h => h.ent aEt)
            · intro hg36
              have hs37 := hg36; skip
              refine d_pon 14 99 rfl rfl rfl hg36 (p_pure rfl) (by kernel_rfl) rfl rfl ?_
              refine d_pon 15 99 rfl rfl rfl hg36 (p_len_slice rfl rfl Tryz.underlying174) (by kernel_rfl) rfl rfl ?_
              refine d_pon 16 99 rfl rfl rfl hg36 (p_pure rfl) (by kernel_rfl) rfl rfl ?_
              refine d_pon 17 99 rfl rfl rfl hg36 (p_pure rfl) (by kernel_rfl) rfl rfl ?_
              apply d_split 103
              · exact rfl
              · intro hg38
                have hs39 := hg38; try simp only [decide_eq_true_eq] at hs39
                refine d_pon 18 103 rfl rfl rfl hg38 (p_fieldAddr rfl rfl fd_24_0 sz_3 rfl) (by kernel_rfl) rfl rfl ?_
                obtain ⟨kh, bh, oh, hhi1, hhi2, hhi3, hhi4⟩ := hhi.of_pos (by omega)
                refine d_qon 19 103 [] rfl rfl rfl hg38 (q_load rfl rfl sz_3 aPk rfl) (by kernel_rfl) (by kernel_rfl) (by kernel_rfl) rfl ?_
                refine d_pon 20 103 rfl rfl rfl hg38 (p_pure rfl) (by kernel_rfl) rfl rfl ?_
                refine d_pon 21 103 rfl rfl rfl hg38 (p_pure rfl) (by kernel_rfl) rfl rfl ?_
                refine d_pon 22 103 rfl rfl rfl hg38 (p_indexAddr rfl rfl rfl sl_174 (0) (by omega) (by omega) hhi3) (by kernel_rfl) rfl rfl ?_
                refine d_qon 23 103 [] rfl rfl rfl hg38 (q_load_old rfl rfl sz_9 (hhi4)) (by kernel_rfl) (by kernel_rfl) (by kernel_rfl) rfl ?_
                refine d_qon 24 103 [] rfl rfl rfl hg38 (q_call rfl fn_33 rfl (fun w1 h1 => c33 w1 j (nth (nth L v.i).es k).key kh hj (hE9 _ (mem_nth hk5)).1 (hkp _ hhi1).1 (hE9 _ (mem_nth hk5)).2 (hkp _ hhi1).2)) (by kernel_rfl) (by kernel_rfl) (by kernel_rfl) rfl ?_
                refine d_pon 25 103 rfl rfl rfl hg38 (p_pure rfl) (by kernel_rfl) rfl rfl ?_
                refine d_pon 26 99 rfl rfl rfl hg36 (p_pickt rfl rfl hg38 rfl) (by kernel_rfl) rfl rfl ?_
                refine d_p 27 rfl (p_pickf rfl rfl hg36 rfl) (by kernel_rfl) rfl rfl ?_
                refine d_nil (by kernel_rfl) (fun w h => by first | exact h | exact h.ent aEt) ?_
                exact s_joinI (decide (cmpK (j : Int) (nth (nth L v.i).es k).key kh ≥ 0)) (out_d (t := (⟨(j : Int), mo, rm, pln L⟩ : Tre)) (hlo.of_no (by omega)) hhi1) aSx (fun w h => h.ent aEt)
              · intro hg40
                have hs41 := hg40; try simp only [decide_eq_false_iff_not] at hs41
                refine d_off 18 103 rfl rfl rfl hg40 (by kernel_rfl) rfl rfl ?_
                refine d_off 19 103 rfl rfl rfl hg40 (by kernel_rfl) rfl rfl ?_
                refine d_off 20 103 rfl rfl rfl hg40 (by kernel_rfl) rfl rfl ?_
                refine d_off 21 103 rfl rfl rfl hg40 (by kernel_rfl) rfl rfl ?_
                refine d_off 22 103 rfl rfl rfl hg40 (by kernel_rfl) rfl rfl ?_
                refine d_off 23 103 rfl rfl rfl hg40 (by kernel_rfl) rfl rfl ?_
                refine d_off 24 103 rfl rfl rfl hg40 (by kernel_rfl) rfl rfl ?_
                refine d_off 25 103 rfl rfl rfl hg40 (by kernel_rfl) rfl rfl ?_
                refine d_pon 26 99 rfl rfl rfl hg36 (p_pickf rfl rfl hg40 rfl) (by kernel_rfl) rfl rfl ?_
                refine d_p 27 rfl (p_pickf rfl rfl hg36 rfl) (by kernel_rfl) rfl rfl ?_
                refine d_nil (by kernel_rfl) (fun w h => by first | exact h | exact h.ent aEt) ?_
                exact s_joinI false (out_e (hlo.of_no (by omega)) (hhi.of_no (by omega))) aSx (fun w h => h.ent aEt)
        · intro x hx
          refine s_cond rfl (fun h42 => ?_) (fun h42 => ?_)
          · skip
            have hV := visE_out (deep := deep) hgn (outs_hit hn hk5 (hx.1 h42))
            refine s_seq ?_
            refine s_region ?_
            refine oP ?_
            refine oP ?_
            refine oP ?_
            refine o_nil ?_
            exact s_retv (rs := [.tmp 10, .tmp 11]) rfl (.tmp rfl (.tmp rfl (.nil))) (fun w' h' => ⟨by rw [shp_head (by rw [hV]; decide), hV]; rfl, h'.below⟩)
          · skip
            have hz3 : ¬ (outB (⟨(j : Int), mo, rm, pln L⟩ : Tre) v (nth (nth L v.i).es k)) = true := fun h9 => by have h8 := hx.2 h9; simp_all
            refine s_skip ?_
            refine s_blk ?_
            refine s_region ?_
            refine oP ?_
            refine oP ?_
            try (refine o_slot (i64w (by omega) (by omega)) ?_)
            refine oP ?_
            refine o_nil ?_
            exact s_backI (k + 1) (by omega) ⟨by omega, fun q hq => (Nat.lt_or_ge q k).elim (hk3 q) (fun h9 => by obtain rfl : q = k := (by omega); exact hz3)⟩ aSx (fun w h => h.ent aEt)
      · try simp only [decide_eq_false_iff_not] at h21
        have hon : ¬ outsB (⟨(j : Int), mo, rm, pln L⟩ : Tre) v = true := outs_no hn (fun q hq => hk3 q (by have hq9 := hq; simp only [LNd.pl] at hq9; omega))
        refine s_exit_to rfl ?_
        refine s_seq ?_
        refine s_seq ?_
        refine s_region ?_
        refine o_p (p_fieldAddr rfl rfl fd_102_2 sz_30 rfl) rfl ?_
        refine o_q (q_load rfl rfl sz_30 aPk rfl) rfl ?_
        refine o_p (p_len_slice rfl rfl Tryz.underlying30) rfl ?_
        refine oP ?_
        refine oP ?_
        refine o_and 3 119 122 _ _ rfl
          (by
            intro hg43
            have hs44 := hg43; try simp only [decide_eq_true_eq] at hs44
            refine o_on 119 _ rfl rfl hg43 ?_
            refine oP ?_
            refine o_on 119 _ rfl rfl hg43 ?_
            refine oP ?_
            refine o_p (p_pickt rfl rfl hg43 rfl) rfl ?_
            refine o_nil ?_
            exact s_joinN 3 122 _ rfl rfl rfl (fun w h => by first | exact h | exact h.ent aEt))
          (by
            intro hg45
            have hs46 := hg45; try simp only [decide_eq_false_iff_not] at hs46
            refine o_off 119 _ rfl rfl hg45 rfl ?_
            refine o_off 119 _ rfl rfl hg45 rfl ?_
            refine o_p (p_pickf rfl rfl hg45 rfl) rfl ?_
            refine o_nil ?_
            exact s_joinN 3 122 _ rfl rfl rfl (fun w h => by first | exact h | exact h.ent aEt)) ?_
        refine o_nil ?_
        refine s_cond rfl (fun h47 => ?_) (fun h47 => ?_)
        · try simp only [Bool.and_eq_true, decide_eq_true_eq, Bool.not_eq_true', decide_eq_false_iff_not] at h47
          have hV := visE_22 (deep := deep) hgn hon (by rw [show ((⟨(j : Int), mo, rm, pln L⟩ : Tre)).ns = pln L from rfl, hn]; have hq := h47; simp only [LNd.pl]; omega)
          refine s_seq ?_
          refine s_region ?_
          refine oP ?_
          refine oP ?_
          refine oP ?_
          refine o_nil ?_
          exact s_retv (rs := [.tmp 10, .tmp 11]) rfl (.tmp rfl (.tmp rfl (.nil))) (fun w' h' => ⟨by rw [shp_head (by rw [hV]; decide), hV]; rfl, h'.below⟩)
        · try simp only [Bool.and_eq_false_iff, decide_eq_false_iff_not, Bool.not_eq_false', decide_eq_true_eq] at h47
          have hV0 := visE_ok (deep := deep) hgn hon (by rw [show ((⟨(j : Int), mo, rm, pln L⟩ : Tre)).ns = pln L from rfl, hn]; have hq := h47; simp only [LNd.pl]; omega)
          refine s_skip ?_
          refine s_seq ?_
          refine s_seq ?_
          refine s_region ?_
          refine oP ?_
          refine o_nil ?_
          refine s_block ?_
          refine s_weaken (L' := [(1, _), (2, _), (3, _), (4, _), (5, _), (12, _), (13, _), (15, _)]) aSx (fun _ h => h) ?_
          refine s_loopI (α := Nat) [10, 11, 15, 16, 17, 18, 19, 124, 125, 126, 127, 128, 129, 130, 131, 132, 133, 134, 135, 136, 137, 138, 139, 140, 141, 142, 143, 144, 145, 146, 147, 148, 149, 150, 151, 152, 153, 154, 155, 156, 157, 158, 159, 160, 161, 162, 163, 164, 165, 166, 167, 168, 169, 170, 171, 172] (fun k => [(15, .int .i64 (k : Int))]) (fun _ => HS w [] [.blk b1 24 4 [.int .i64 (j : Int), .int .i64 mo, .int .i64 rm, .slice a L.length cap], .blk b2 102 3 (LNd.vals (nth L v.i))]) (fun k => k ≤ (nth L v.i).cs.length ∧ (shpF (⟨(j : Int), mo, rm, pln L⟩ : Tre) deep (visK (pln L) f v k)).2 = 0) (fun k => (nth L v.i).cs.length - k) 0 ⟨Nat.zero_le _, shp_K0 hV0⟩ aSx (fun w h => h.ent aEt) (fun k hx9 => ?_)
          obtain ⟨hk1, hk3⟩ := hx9
          refine s_seq ?_
          refine s_seq ?_
          refine s_region ?_
          refine oP ?_
          refine o_p (p_fieldAddr rfl rfl fd_102_2 sz_30 rfl) rfl ?_
          refine o_q (q_load rfl rfl sz_30 aPk rfl) rfl ?_
          refine o_p (p_len_slice rfl rfl Tryz.underlying30) rfl ?_
          refine oP ?_
          refine o_nil ?_
          refine s_cond rfl (fun h48 => ?_) (fun h48 => ?_)
          · try simp only [decide_eq_true_eq] at h48
            have hkl : k < (nth L v.i).cs.length := by omega
            have hkid := kid_in hT hi0 (k := k) (by rw [hn]; exact hkl)
            rw [hn, pln_len] at hkid
            simp only [LNd.pl] at hkid
            have hway2 := way_kid hway hi0 (k := k) (by rw [hn]; exact hkl) (by rw [hn]; simp only [LNd.pl]; omega)
            refine s_skip ?_
            refine s_seq ?_
            refine s_block ?_
            refine s_seq ?_
            refine s_region ?_
            refine oP ?_
            refine oP ?_
            refine oP ?_
            refine oP ?_
            refine o_nil ?_
            refine s_seq ?_
            refine s_seq ?_
            refine s_region ?_
            refine oP ?_
            refine oP ?_
            refine o_nil ?_
            refine s_cond rfl (fun h49 => ?_) (fun h49 => ?_)
            · try simp only [decide_eq_true_eq] at h49
              have hk0 : 0 < k := by have hq := h49; omega
              refine s_region ?_
              refine o_p (p_fieldAddr rfl rfl fd_102_1 sz_77 rfl) rfl ?_
              refine o_q (q_load rfl rfl sz_77 aPk rfl) rfl ?_
              refine oP ?_
              refine oP ?_
              try (refine o_slot (i64w (by omega) (by omega)) ?_)
              refine o_p (p_indexAddr rfl rfl rfl sl_77 (k - 1) (by omega) (by omega) (Rw.some (hs.es hi) (by omega))) rfl ?_
              refine o_p (p_fieldAddr rfl rfl fd_26_0 sz_9 rfl) rfl ?_
              refine o_q (q_load_old rfl rfl sz_9 (((hs.es hi).rdj 0 (i := k - 1) (by omega) rfl))) rfl ?_
              refine o_h (h_buildSlice (cs := [_]) rfl rfl sl_174 zr_9 rfl rfl rfl) rfl (fun b50 _ => ?_)
              refine oP ?_
              refine o_nil ?_
              refine s_seq ?_
              refine s_seq ?_
              refine s_region ?_
              refine oP ?_
              refine o_p (p_fieldAddr rfl rfl fd_102_1 sz_77 rfl) rfl ?_
              refine o_q (q_load rfl rfl sz_77 aPk rfl) rfl ?_
              refine o_p (p_len_slice rfl rfl Tryz.underlying77) rfl ?_
              refine oP ?_
              refine o_nil ?_
              refine s_cond rfl (fun h51 => ?_) (fun h51 => ?_)
              · try simp only [decide_eq_true_eq] at h51
                have hk9 : k < (nth L v.i).es.length := by have hq := h51; omega
                refine s_weaken (L' := [(1, _), (2, _), (3, _), (4, _), (5, _), (12, _), (13, _), (15, _), (16, _), (17, _)]) aSx (fun _ h => h) ?_
                refine s_region ?_
                refine o_p (p_fieldAddr rfl rfl fd_102_1 sz_77 rfl) rfl ?_
                refine o_q (q_load rfl rfl sz_77 aPk rfl) rfl ?_
                refine oP ?_
                refine o_p (p_indexAddr rfl rfl rfl sl_77 (k) (by omega) (by omega) (Rw.some (hs.es hi) (by omega))) rfl ?_
                refine o_p (p_fieldAddr rfl rfl fd_26_0 sz_9 rfl) rfl ?_
                refine o_q (q_load_old rfl rfl sz_9 (((hs.es hi).rdj 0 (i := k) (by omega) rfl))) rfl ?_
                refine o_h (h_buildSlice (cs := [_]) rfl rfl sl_174 zr_9 rfl rfl rfl) rfl (fun b52 _ => ?_)
                refine oP ?_
                refine o_nil ?_
                refine s_seq ?_
                refine s_draw [] mixed ?_
                refine d_q 0 [] rfl (q_loadn rfl rfl sz_24 aPk rfl) (by kernel_rfl) (by kernel_rfl) (by kernel_rfl) rfl ?_
                refine d_p 1 rfl (p_fieldAddr rfl rfl fd_102_2 sz_30 rfl) (by kernel_rfl) rfl rfl ?_
                refine d_q 2 [] rfl (q_load rfl rfl sz_30 aPk rfl) (by kernel_rfl) (by kernel_rfl) (by kernel_rfl) rfl ?_
                refine dP 3 ?_
                refine d_p 4 rfl (p_indexAddr rfl rfl rfl sl_30 (k) (by omega) (by omega) (Rw.some (hs.cs hi) (by omega))) (by kernel_rfl) rfl rfl ?_
                refine d_q 5 [] rfl (q_load_old rfl rfl sz_3 (((hs.cs hi).rdj 0 (i := k) hkl rfl))) (by kernel_rfl) (by kernel_rfl) (by kernel_rfl) rfl ?_
                refine d_slot (show _ = Value.int .i64 ((kidV (pln L) v k).i : Int) from by rw [kidV, hn]; exact congrArg (Value.int .i64) (Int.toNat_of_nonneg (show 0 ≤ (nth L v.i).cs.getD k 0 by omega)).symm) ?_
                refine dP 6 ?_
                refine dP 7 ?_
                try (refine d_slot (i64w (by omega) (by omega)) ?_)
                refine dP 8 ?_
                refine dP 9 ?_
                refine d_q 10 [] rfl (q_call rfl fn_87 rfl (fun w1 h1 => ih w1 (kidV (pln L) v k) (v.i :: P) (lv - 1) _ _ _ _ _ _ (hs.later h1) hj hmo hT hB h0 hway2 (by simp only [kidV, List.length_cons]; omega) (by simp only [kidV]; omega) (kok_lo hT hi0 (by rw [hn]; show k ≤ (nth L v.i).es.length; omega) hko) (kok_hi hT hi0 hkp) (by show StK w1 _ _ (loK (nth (pln L) v.i).es k v.lo); rw [hn]; show StK w1 _ _ (loK (nth L v.i).es k v.lo); first | (rw [loK_pos hk0]; exact StK.new (h1.rd_blk (Mc := []) aPk rfl (by simp))) | (rw [loK_no hk0]; exact hlo.later h1)) (by show StK w1 _ _ (hiK (nth (pln L) v.i).es k v.hi); rw [hn]; show StK w1 _ _ (hiK (nth L v.i).es k v.hi); first | (rw [hiK_pos hk9]; exact StK.new (h1.rd_blk (Mc := []) aPk rfl (by simp))) | (rw [hiK_no hk9]; exact hhi.later h1)) (by simp only [List.length_cons]; omega))) (by kernel_rfl) (by kernel_rfl) (by kernel_rfl) rfl ?_
                refine dP 11 ?_
                refine dP 12 ?_
                refine dP 13 ?_
                refine dP 14 ?_
                refine dP 15 ?_
                refine d_nil (by kernel_rfl) (fun w h => by first | exact h | exact h.ent aEt) ?_
                refine s_seq ?_
                refine s_weaken (L' := [(1, _), (2, _), (3, _), (4, _), (5, _), (12, _), (13, _), (15, _), (18, _), (19, _)]) aSx (fun _ h => h) ?_
                refine s_region ?_
                refine oP ?_
                refine oP ?_
                refine o_nil ?_
                refine s_cond rfl (fun h53 => ?_) (fun h53 => ?_)
                · try simp only [Bool.not_eq_true', decide_eq_false_iff_not] at h53
                  have hbad : shpF (⟨(j : Int), mo, rm, pln L⟩ : Tre) deep (vis (pln L) (f + 1) v) = shpF (⟨(j : Int), mo, rm, pln L⟩ : Tre) deep (vis (pln L) f (kidV (pln L) v k)) := by rw [visK_all, hn]; obtain ⟨B9, hB9⟩ := visK_more (pln L) f v (show k + 1 ≤ (nth L v.i).pl.cs.length by show k + 1 ≤ (nth L v.i).cs.length; omega); rw [hB9, visK_succ, List.append_assoc, shpF_app, if_pos hk3, shpF_app, if_neg h53]
                  refine s_seq ?_
                  refine s_region ?_
                  refine oP ?_
                  refine oP ?_
                  refine oP ?_
                  refine oP ?_
                  refine o_nil ?_
                  exact s_retv (rs := [.tmp 10, .tmp 11]) rfl (.tmp rfl (.tmp rfl (.nil))) (fun w' h' => ⟨by rw [hbad]; rfl, h'.below⟩)
                · try simp only [Bool.not_eq_false', decide_eq_true_eq] at h53
                  have hgood : (shpF (⟨(j : Int), mo, rm, pln L⟩ : Tre) deep (visK (pln L) f v (k + 1))).2 = 0 := by rw [visK_succ, shpF_app, if_pos hk3]; have hq := h53; omega
                  refine s_skip ?_
                  refine s_blk ?_
                  refine s_region ?_
                  refine oP ?_
                  refine oP ?_
                  try (refine o_slot (i64w (by omega) (by omega)) ?_)
                  refine oP ?_
                  refine o_nil ?_
                  exact s_backI (k + 1) (by omega) ⟨by omega, hgood⟩ aSx (fun w h => h.ent aEt)
              · try simp only [decide_eq_false_iff_not] at h51
                have hk9 : ¬ k < (nth L v.i).es.length := by have hq := h51; omega
                refine s_skip ?_
                refine s_seq ?_
                refine s_weaken (L' := [(1, _), (2, _), (3, _), (4, _), (5, _), (12, _), (13, _), (15, _), (16, _), (17, _)]) aSx (fun _ h => h) ?_
                refine s_draw [] mixed ?_
                refine d_q 0 [] rfl (q_loadn rfl rfl sz_24 aPk rfl) (by kernel_rfl) (by kernel_rfl) (by kernel_rfl) rfl ?_
                refine d_p 1 rfl (p_fieldAddr rfl rfl fd_102_2 sz_30 rfl) (by kernel_rfl) rfl rfl ?_
                refine d_q 2 [] rfl (q_load rfl rfl sz_30 aPk rfl) (by kernel_rfl) (by kernel_rfl) (by kernel_rfl) rfl ?_
                refine dP 3 ?_
                refine d_p 4 rfl (p_indexAddr rfl rfl rfl sl_30 (k) (by omega) (by omega) (Rw.some (hs.cs hi) (by omega))) (by kernel_rfl) rfl rfl ?_
                refine d_q 5 [] rfl (q_load_old rfl rfl sz_3 (((hs.cs hi).rdj 0 (i := k) hkl rfl))) (by kernel_rfl) (by kernel_rfl) (by kernel_rfl) rfl ?_
                refine d_slot (show _ = Value.int .i64 ((kidV (pln L) v k).i : Int) from by rw [kidV, hn]; exact congrArg (Value.int .i64) (Int.toNat_of_nonneg (show 0 ≤ (nth L v.i).cs.getD k 0 by omega)).symm) ?_
                refine dP 6 ?_
                refine dP 7 ?_
                try (refine d_slot (i64w (by omega) (by omega)) ?_)
                refine dP 8 ?_
                refine dP 9 ?_
                refine d_q 10 [] rfl (q_call rfl fn_87 rfl (fun w1 h1 => ih w1 (kidV (pln L) v k) (v.i :: P) (lv - 1) _ _ _ _ _ _ (hs.later h1) hj hmo hT hB h0 hway2 (by simp only [kidV, List.length_cons]; omega) (by simp only [kidV]; omega) (kok_lo hT hi0 (by rw [hn]; show k ≤ (nth L v.i).es.length; omega) hko) (kok_hi hT hi0 hkp) (by show StK w1 _ _ (loK (nth (pln L) v.i).es k v.lo); rw [hn]; show StK w1 _ _ (loK (nth L v.i).es k v.lo); first | (rw [loK_pos hk0]; exact StK.new (h1.rd_blk (Mc := []) aPk rfl (by simp))) | (rw [loK_no hk0]; exact hlo.later h1)) (by show StK w1 _ _ (hiK (nth (pln L) v.i).es k v.hi); rw [hn]; show StK w1 _ _ (hiK (nth L v.i).es k v.hi); first | (rw [hiK_pos hk9]; exact StK.new (h1.rd_blk (Mc := []) aPk rfl (by simp))) | (rw [hiK_no hk9]; exact hhi.later h1)) (by simp only [List.length_cons]; omega))) (by kernel_rfl) (by kernel_rfl) (by kernel_rfl) rfl ?_
                refine dP 11 ?_
                refine dP 12 ?_
                refine dP 13 ?_
                refine dP 14 ?_
                refine dP 15 ?_
                refine d_nil (by kernel_rfl) (fun w h => by first | exact h | exact h.ent aEt) ?_
                refine s_seq ?_
                refine s_region ?_
                refine oP ?_
                refine oP ?_
                refine o_nil ?_
                refine s_cond rfl (fun h54 => ?_) (fun h54 => ?_)
                · try simp only [Bool.not_eq_true', decide_eq_false_iff_not] at h54
                  have hbad : shpF (⟨(j : Int), mo, rm, pln L⟩ : Tre) deep (vis (pln L) (f + 1) v) = shpF (⟨(j : Int), mo, rm, pln L⟩ : Tre) deep (vis (pln L) f (kidV (pln L) v k)) := by rw [visK_all, hn]; obtain ⟨B9, hB9⟩ := visK_more (pln L) f v (show k + 1 ≤ (nth L v.i).pl.cs.length by show k + 1 ≤ (nth L v.i).cs.length; omega); rw [hB9, visK_succ, List.append_assoc, shpF_app, if_pos hk3, shpF_app, if_neg h54]
                  refine s_seq ?_
                  refine s_region ?_
                  refine oP ?_
                  refine oP ?_
                  refine oP ?_
                  refine oP ?_
                  refine o_nil ?_
                  exact s_retv (rs := [.tmp 10, .tmp 11]) rfl (.tmp rfl (.tmp rfl (.nil))) (fun w' h' => ⟨by rw [hbad]; rfl, h'.below⟩)
                · try simp only [Bool.not_eq_false', decide_eq_true_eq] at h54
                  have hgood : (shpF (⟨(j : Int), mo, rm, pln L⟩ : Tre) deep (visK (pln L) f v (k + 1))).2 = 0 := by rw [visK_succ, shpF_app, if_pos hk3]; have hq := h54; omega
                  refine s_skip ?_
                  refine s_blk ?_
                  refine s_region ?_
                  refine oP ?_
                  refine oP ?_
                  try (refine o_slot (i64w (by omega) (by omega)) ?_)
                  refine oP ?_
                  refine o_nil ?_
                  exact s_backI (k + 1) (by omega) ⟨by omega, hgood⟩ aSx (fun w h => h.ent aEt)
            · try simp only [decide_eq_false_iff_not] at h49
              have hk0 : ¬ 0 < k := by have hq := h49; omega
              refine s_skip ?_
              refine s_seq ?_
              refine s_seq ?_
              refine s_region ?_
              refine oP ?_
              refine o_p (p_fieldAddr rfl rfl fd_102_1 sz_77 rfl) rfl ?_
              refine o_q (q_load rfl rfl sz_77 aPk rfl) rfl ?_
              refine o_p (p_len_slice rfl rfl Tryz.underlying77) rfl ?_
              refine oP ?_
              refine o_nil ?_
              refine s_cond rfl (fun h55 => ?_) (fun h55 => ?_)
              · try simp only [decide_eq_true_eq] at h55
                have hk9 : k < (nth L v.i).es.length := by have hq := h55; omega
                refine s_region ?_
                refine o_p (p_fieldAddr rfl rfl fd_102_1 sz_77 rfl) rfl ?_
                refine o_q (q_load rfl rfl sz_77 aPk rfl) rfl ?_
                refine oP ?_
                refine o_p (p_indexAddr rfl rfl rfl sl_77 (k) (by omega) (by omega) (Rw.some (hs.es hi) (by omega))) rfl ?_
                refine o_p (p_fieldAddr rfl rfl fd_26_0 sz_9 rfl) rfl ?_
                refine o_q (q_load_old rfl rfl sz_9 (((hs.es hi).rdj 0 (i := k) (by omega) rfl))) rfl ?_
                refine o_h (h_buildSlice (cs := [_]) rfl rfl sl_174 zr_9 rfl rfl rfl) rfl (fun b56 _ => ?_)
                refine oP ?_
                refine o_nil ?_
                refine s_seq ?_
                refine s_weaken (L' := [(1, _), (2, _), (3, _), (4, _), (5, _), (12, _), (13, _), (15, _), (16, _), (17, _)]) aSx (fun _ h => h) ?_
                refine s_draw [] mixed ?_
                refine d_q 0 [] rfl (q_loadn rfl rfl sz_24 aPk rfl) (by kernel_rfl) (by kernel_rfl) (by kernel_rfl) rfl ?_
                refine d_p 1 rfl (p_fieldAddr rfl rfl fd_102_2 sz_30 rfl) (by kernel_rfl) rfl rfl ?_
                refine d_q 2 [] rfl (q_load rfl rfl sz_30 aPk rfl) (by kernel_rfl) (by kernel_rfl) (by kernel_rfl) rfl ?_
                refine dP 3 ?_
                refine d_p 4 rfl (p_indexAddr rfl rfl rfl sl_30 (k) (by omega) (by omega) (Rw.some (hs.cs hi) (by omega))) (by kernel_rfl) rfl rfl ?_
                refine d_q 5 [] rfl (q_load_old rfl rfl sz_3 (((hs.cs hi).rdj 0 (i := k) hkl rfl))) (by kernel_rfl) (by kernel_rfl) (by kernel_rfl) rfl ?_
                refine d_slot (show _ = Value.int .i64 ((kidV (pln L) v k).i : Int) from by rw [kidV, hn]; exact congrArg (Value.int .i64) (Int.toNat_of_nonneg (show 0 ≤ (nth L v.i).cs.getD k 0 by omega)).symm) ?_
                refine dP 6 ?_
                refine dP 7 ?_
                try (refine d_slot (i64w (by omega) (by omega)) ?_)
                refine dP 8 ?_
                refine dP 9 ?_
                refine d_q 10 [] rfl (q_call rfl fn_87 rfl (fun w1 h1 => ih w1 (kidV (pln L) v k) (v.i :: P) (lv - 1) _ _ _ _ _ _ (hs.later h1) hj hmo hT hB h0 hway2 (by simp only [kidV, List.length_cons]; omega) (by simp only [kidV]; omega) (kok_lo hT hi0 (by rw [hn]; show k ≤ (nth L v.i).es.length; omega) hko) (kok_hi hT hi0 hkp) (by show StK w1 _ _ (loK (nth (pln L) v.i).es k v.lo); rw [hn]; show StK w1 _ _ (loK (nth L v.i).es k v.lo); first | (rw [loK_pos hk0]; exact StK.new (h1.rd_blk (Mc := []) aPk rfl (by simp))) | (rw [loK_no hk0]; exact hlo.later h1)) (by show StK w1 _ _ (hiK (nth (pln L) v.i).es k v.hi); rw [hn]; show StK w1 _ _ (hiK (nth L v.i).es k v.hi); first | (rw [hiK_pos hk9]; exact StK.new (h1.rd_blk (Mc := []) aPk rfl (by simp))) | (rw [hiK_no hk9]; exact hhi.later h1)) (by simp only [List.length_cons]; omega))) (by kernel_rfl) (by kernel_rfl) (by kernel_rfl) rfl ?_
                refine dP 11 ?_
                refine dP 12 ?_
                refine dP 13 ?_
                refine dP 14 ?_
                refine dP 15 ?_
                refine d_nil (by kernel_rfl) (fun w h => by first | exact h | exact h.ent aEt) ?_
                refine s_seq ?_
                refine s_region ?_
                refine oP ?_
                refine oP ?_
                refine o_nil ?_
                refine s_cond rfl (fun h57 => ?_) (fun h57 => ?_)
                · try simp only [Bool.not_eq_true', decide_eq_false_iff_not] at h57
                  have hbad : shpF (⟨(j : Int), mo, rm, pln L⟩ : Tre) deep (vis (pln L) (f + 1) v) = shpF (⟨(j : Int), mo, rm, pln L⟩ : Tre) deep (vis (pln L) f (kidV (pln L) v k)) := by rw [visK_all, hn]; obtain ⟨B9, hB9⟩ := visK_more (pln L) f v (show k + 1 ≤ (nth L v.i).pl.cs.length by show k + 1 ≤ (nth L v.i).cs.length; omega); rw [hB9, visK_succ, List.append_assoc, shpF_app, if_pos hk3, shpF_app, if_neg h57]
                  refine s_seq ?_
                  refine s_region ?_
                  refine oP ?_
                  refine oP ?_
                  refine oP ?_
                  refine oP ?_
                  refine o_nil ?_
                  exact s_retv (rs := [.tmp 10, .tmp 11]) rfl (.tmp rfl (.tmp rfl (.nil))) (fun w' h' => ⟨by rw [hbad]; rfl, h'.below⟩)
                · try simp only [Bool.not_eq_false', decide_eq_true_eq] at h57
                  have hgood : (shpF (⟨(j : Int), mo, rm, pln L⟩ : Tre) deep (visK (pln L) f v (k + 1))).2 = 0 := by rw [visK_succ, shpF_app, if_pos hk3]; have hq := h57; omega
                  refine s_skip ?_
                  refine s_blk ?_
                  refine s_region ?_
                  refine oP ?_
                  refine oP ?_
                  try (refine o_slot (i64w (by omega) (by omega)) ?_)
                  refine oP ?_
                  refine o_nil ?_
                  exact s_backI (k + 1) (by omega) ⟨by omega, hgood⟩ aSx (fun w h => h.ent aEt)
              · try simp only [decide_eq_false_iff_not] at h55
                have hk9 : ¬ k < (nth L v.i).es.length := by have hq := h55; omega
                refine s_skip ?_
                refine s_seq ?_
                refine s_draw [] mixed ?_
                refine d_q 0 [] rfl (q_loadn rfl rfl sz_24 aPk rfl) (by kernel_rfl) (by kernel_rfl) (by kernel_rfl) rfl ?_
                refine d_p 1 rfl (p_fieldAddr rfl rfl fd_102_2 sz_30 rfl) (by kernel_rfl) rfl rfl ?_
                refine d_q 2 [] rfl (q_load rfl rfl sz_30 aPk rfl) (by kernel_rfl) (by kernel_rfl) (by kernel_rfl) rfl ?_
                refine dP 3 ?_
                refine d_p 4 rfl (p_indexAddr rfl rfl rfl sl_30 (k) (by omega) (by omega) (Rw.some (hs.cs hi) (by omega))) (by kernel_rfl) rfl rfl ?_
                refine d_q 5 [] rfl (q_load_old rfl rfl sz_3 (((hs.cs hi).rdj 0 (i := k) hkl rfl))) (by kernel_rfl) (by kernel_rfl) (by kernel_rfl) rfl ?_
                refine d_slot (show _ = Value.int .i64 ((kidV (pln L) v k).i : Int) from by rw [kidV, hn]; exact congrArg (Value.int .i64) (Int.toNat_of_nonneg (show 0 ≤ (nth L v.i).cs.getD k 0 by omega)).symm) ?_
                refine dP 6 ?_
                refine dP 7 ?_
                try (refine d_slot (i64w (by omega) (by omega)) ?_)
                refine dP 8 ?_
                refine dP 9 ?_
                refine d_q 10 [] rfl (q_call rfl fn_87 rfl (fun w1 h1 => ih w1 (kidV (pln L) v k) (v.i :: P) (lv - 1) _ _ _ _ _ _ (hs.later h1) hj hmo hT hB h0 hway2 (by simp only [kidV, List.length_cons]; omega) (by simp only [kidV]; omega) (kok_lo hT hi0 (by rw [hn]; show k ≤ (nth L v.i).es.length; omega) hko) (kok_hi hT hi0 hkp) (by show StK w1 _ _ (loK (nth (pln L) v.i).es k v.lo); rw [hn]; show StK w1 _ _ (loK (nth L v.i).es k v.lo); first | (rw [loK_pos hk0]; exact StK.new (h1.rd_blk (Mc := []) aPk rfl (by simp))) | (rw [loK_no hk0]; exact hlo.later h1)) (by show StK w1 _ _ (hiK (nth (pln L) v.i).es k v.hi); rw [hn]; show StK w1 _ _ (hiK (nth L v.i).es k v.hi); first | (rw [hiK_pos hk9]; exact StK.new (h1.rd_blk (Mc := []) aPk rfl (by simp))) | (rw [hiK_no hk9]; exact hhi.later h1)) (by simp only [List.length_cons]; omega))) (by kernel_rfl) (by kernel_rfl) (by kernel_rfl) rfl ?_
                refine dP 11 ?_
                refine dP 12 ?_
                refine dP 13 ?_
                refine dP 14 ?_
                refine dP 15 ?_
                refine d_nil (by kernel_rfl) (fun w h => by first | exact h | exact h.ent aEt) ?_
                refine s_seq ?_
                refine s_weaken (L' := [(1, _), (2, _), (3, _), (4, _), (5, _), (12, _), (13, _), (15, _), (18, _), (19, _)]) aSx (fun _ h => h) ?_
                refine s_region ?_
                refine oP ?_
                refine oP ?_
                refine o_nil ?_
                refine s_cond rfl (fun h58 => ?_) (fun h58 => ?_)
                · try simp only [Bool.not_eq_true', decide_eq_false_iff_not] at h58
                  have hbad : shpF (⟨(j : Int), mo, rm, pln L⟩ : Tre) deep (vis (pln L) (f + 1) v) = shpF (⟨(j : Int), mo, rm, pln L⟩ : Tre) deep (vis (pln L) f (kidV (pln L) v k)) := by rw [visK_all, hn]; obtain ⟨B9, hB9⟩ := visK_more (pln L) f v (show k + 1 ≤ (nth L v.i).pl.cs.length by show k + 1 ≤ (nth L v.i).cs.length; omega); rw [hB9, visK_succ, List.append_assoc, shpF_app, if_pos hk3, shpF_app, if_neg h58]
                  refine s_seq ?_
                  refine s_region ?_
                  refine oP ?_
                  refine oP ?_
                  refine oP ?_
                  refine oP ?_
                  refine o_nil ?_
                  exact s_retv (rs := [.tmp 10, .tmp 11]) rfl (.tmp rfl (.tmp rfl (.nil))) (fun w' h' => ⟨by rw [hbad]; rfl, h'.below⟩)
                · try simp only [Bool.not_eq_false', decide_eq_true_eq] at h58
                  have hgood : (shpF (⟨(j : Int), mo, rm, pln L⟩ : Tre) deep (visK (pln L) f v (k + 1))).2 = 0 := by rw [visK_succ, shpF_app, if_pos hk3]; have hq := h58; omega
                  refine s_skip ?_
                  refine s_blk ?_
                  refine s_region ?_
                  refine oP ?_
                  refine oP ?_
                  try (refine o_slot (i64w (by omega) (by omega)) ?_)
                  refine oP ?_
                  refine o_nil ?_
                  exact s_backI (k + 1) (by omega) ⟨by omega, hgood⟩ aSx (fun w h => h.ent aEt)
          · try simp only [decide_eq_false_iff_not] at h48
            obtain rfl : k = (nth L v.i).cs.length := by omega
            have hfin : shpF (⟨(j : Int), mo, rm, pln L⟩ : Tre) deep (vis (pln L) (f + 1) v) = (0, 0) := by rw [visK_all, hn]; exact shpF_0 hk3
            refine s_exit_to rfl ?_
            refine s_seq ?_
            refine s_region ?_
            refine oP ?_
            refine oP ?_
            refine o_nil ?_
            exact s_retv (rs := [.tmp 10, .tmp 11]) rfl (.tmp rfl (.tmp rfl (.nil))) (fun w' h' => ⟨by rw [hfin]; rfl, h'.below⟩)

theorem c87 (j : Nat) (mo rm : Int) (a : Option Addr) (cap : Nat) (L : List LNd) (deep : Int) : ∀ f, PlC j mo rm a cap L deep f
  | 0 => fun w v P lv pa qa pn pc qn qc hs hj hmo hT hB h0 hway hd hlv hko hkp hlo hhi hf => by
    have h1 := way_len hT (by rw [pln_len]; exact h0) hway
    rw [pln_len, List.length_cons] at h1
    omega
  | f + 1 => fun w v P lv pa qa pn pc qn qc hs hj hmo hT hB h0 hway hd hlv hko hkp hlo hhi hf => c87s w j mo rm a cap L deep v P lv pa qa pn pc qn qc f hs hj hmo hT hB h0 hway hd hlv hko hkp hlo hhi hf (c87 j mo rm a cap L deep f)

end Go.Proofs

/- Chapter 12: the check of a tree, as the reference makes it. Plain data. -/
namespace Gx
set_option linter.unusedSimpArgs false
set_option linter.unusedVariables false
set_option linter.unusedSectionVars false
open Go Go.RowKit
theorem treE_c {t : Tre} (h : ¬ colE12 t.co = 0) : treE t = (0, colE12 t.co) := by rw [treE_size (by rw [if_neg h]; exact h), if_neg h]
theorem treE_s {t : Tre} (h : colE12 t.co = 0) (h2 : ¬ sizE t.mo t.rm = 0) : treE t = (0, sizE t.mo t.rm) := by rw [treE_size (by rw [if_pos h]; exact h2), if_pos h]
theorem treE_l {t : Tre} (h : colE12 t.co = 0) (h2 : sizE t.mo t.rm = 0) (h3 : ¬ 0 < t.ns.length) : treE t = (0, 10) := by
  have e : lenE12 t.ns.length = 10 := if_neg h3
  rw [treE_len (by rw [if_pos h]; exact h2) (by rw [e]; decide), e]
theorem treE_g {t : Tre} (h : colE12 t.co = 0) (h2 : sizE t.mo t.rm = 0) (h3 : 0 < t.ns.length) (h4 : ¬ t.ns.length ≤ 120) : treE t = (0, 8) := by
  have e : lenE12 t.ns.length = 8 := by rw [lenE12, if_pos h3, if_neg h4]
  rw [treE_len (by rw [if_pos h]; exact h2) (by rw [e]; decide), e]
theorem treE_n {t : Tre} (h : colE12 t.co = 0) (h2 : sizE t.mo t.rm = 0) (h3 : 0 < t.ns.length) (h4 : t.ns.length ≤ 120) : treE t = if (nodsE t t.ns.length 0 []).2 = 0 then shapE t else nodsE t t.ns.length 0 [] := treE_nods (by rw [if_pos h]; exact h2) (by rw [lenE12, if_pos h3, if_pos h4])
theorem seen_nil (n : Nat) : zrow [Value.bool false] n = seenV n [] := by
  rw [zrow_one]
  apply List.ext_getElem?
  intro i
  by_cases hi : i < n
  · rw [seen_get hi, List.getElem?_replicate, if_pos hi]
    rfl
  · rw [List.getElem?_eq_none (by rw [List.length_replicate]; omega), List.getElem?_eq_none (by rw [seen_len]; omega)]
theorem open_mem {vs : List Vis} {k : Nat} : ((k : Nat) : Int) ∈ mkS vs [] ↔ k ∈ vs.map Vis.i := by
  rw [mkS_mem, List.mem_map]
  constructor
  · rintro ⟨v, hv, h⟩
    exact ⟨v, hv, by omega⟩
  · rintro ⟨v, hv, h⟩
    exact ⟨v, hv, by omega⟩
theorem deepT_le (ns : List Nd) : ∀ (f i : Nat), 0 ≤ deepT ns f i ∧ deepT ns f i ≤ f
  | 0, i => by rw [deepT]; omega
  | f + 1, i => by
    rw [deepT]
    split
    · omega
    · have := deepT_le ns f ((nth ns i).cs.getD 0 0).toNat
      omega
theorem deep_end {ns : List Nd} {f i : Nat} (h : (nth ns i).cs.length = 0) : deepT ns f i = 0 := by
  cases f with
  | zero => rfl
  | succ f => rw [deepT, if_pos h]
theorem deep_more {ns : List Nd} {f i : Nat} (h0 : 0 < f) (h : ¬ (nth ns i).cs.length = 0) : deepT ns f i = deepT ns (f - 1) ((nth ns i).cs.getD 0 0).toNat + 1 := by
  obtain ⟨g, rfl⟩ : ∃ g, f = g + 1 := ⟨f - 1, by omega⟩
  rw [deepT, if_neg h]
  rfl
end Gx

namespace Go.Proofs
open Go Go.RowKit Gx
set_option linter.unusedVariables false
set_option linter.unusedSimpArgs false
attribute [local irreducible] Go.Calls Gx.S Gx.O Gx.D Gx.OpP Gx.OpQ Gx.OpH

theorem fn_85 : isFn Tryz.prog 85 = true := by kernel_rfl
theorem fn_41 : isFn Tryz.prog 41 = true := by kernel_rfl


set_option maxRecDepth 20000 in
set_option maxHeartbeats 400000 in
theorem c41 (w : World) (co mo rm : Int) (a : Option Addr) (cap : Nat) (L : List LNd) (hs : Nt w [] a L) (hB : Bd (pln L)) (hkl : ∀ i, i < L.length → ∀ x ∈ (nth L i).es, x.key.length ≤ 1000000) : Calls Tryz.prog 41 #[.agg #[.int .i64 co, .int .i64 mo, .int .i64 rm, .slice a L.length cap]] w fun en w' => en = .returned (.tuple #[.int .i64 (treE (⟨co, mo, rm, pln L⟩ : Tre)).1, .int .i64 (treE (⟨co, mo, rm, pln L⟩ : Tre)).2]) ∧ Below w.heap.size w w' := by
  have hle := hB.len
  rw [pln_len] at hle
  have hes9 : ∀ i, i < L.length → (nth L i).es.length ≤ 1000 := fun i hi => by have h9 := hB.es i (by rw [pln_len]; exact hi); rw [pln_nth hi] at h9; exact h9
  have hcs9 : ∀ i, i < L.length → (nth L i).cs.length ≤ 1000 := fun i hi => by have h9 := hB.cs i (by rw [pln_len]; exact hi); rw [pln_nth hi] at h9; exact h9
  refine enter (args := [_]) Tryz.func41 Tryz.ntmps41 rfl rfl (HS.refl w []) ?_
  refine s_seq ?_
  refine s_region ?_
  refine o_h (h_box rfl rfl) rfl (fun b1 _ => ?_)
  refine oP ?_
  refine oP ?_
  refine o_nil ?_
  refine s_seq ?_
  refine s_seq ?_
  refine s_region ?_
  refine o_p (p_fieldAddr rfl rfl fd_24_0 sz_3 rfl) rfl ?_
  refine o_q (q_load rfl rfl sz_3 aPk rfl) rfl ?_
  refine o_q (q_call rfl fn_30 rfl (fun w1 h1 => c30 w1 _)) rfl ?_
  refine oP ?_
  refine o_nil ?_
  refine s_seq ?_
  refine s_region ?_
  refine oP ?_
  refine oP ?_
  refine o_nil ?_
  refine s_cond rfl (fun h2 => ?_) (fun h2 => ?_)
  · try simp only [Bool.not_eq_true', decide_eq_false_iff_not] at h2
    have hz := treE_c (t := (⟨co, mo, rm, pln L⟩ : Tre)) h2
    refine s_seq ?_
    refine s_region ?_
    refine oP ?_
    refine oP ?_
    refine oP ?_
    refine o_nil ?_
    exact s_retv (rs := [.tmp 2, .tmp 3]) rfl (.tmp rfl (.tmp rfl (.nil))) (fun w' h' => ⟨by rw [hz]; rfl, h'.below⟩)
  · try simp only [Bool.not_eq_false', decide_eq_true_eq] at h2
    have hc0 : colE12 co = 0 := by have hq := h2; omega
    obtain ⟨j, rfl, hj⟩ := col_ok hc0
    refine s_skip ?_
    refine s_seq ?_
    refine s_seq ?_
    refine s_region ?_
    refine o_p (p_fieldAddr rfl rfl fd_24_1 sz_3 rfl) rfl ?_
    refine o_q (q_load rfl rfl sz_3 aPk rfl) rfl ?_
    refine o_p (p_fieldAddr rfl rfl fd_24_2 sz_3 rfl) rfl ?_
    refine o_q (q_load rfl rfl sz_3 aPk rfl) rfl ?_
    refine o_q (q_call rfl fn_31 rfl (fun w1 h1 => c31 w1 _ _)) rfl ?_
    refine oP ?_
    refine o_nil ?_
    refine s_seq ?_
    refine s_region ?_
    refine oP ?_
    refine oP ?_
    refine o_nil ?_
    refine s_cond rfl (fun h3 => ?_) (fun h3 => ?_)
    · try simp only [Bool.not_eq_true', decide_eq_false_iff_not] at h3
      have hz := treE_s (t := (⟨(j : Int), mo, rm, pln L⟩ : Tre)) hc0 h3
      refine s_seq ?_
      refine s_region ?_
      refine oP ?_
      refine oP ?_
      refine oP ?_
      refine o_nil ?_
      exact s_retv (rs := [.tmp 2, .tmp 3]) rfl (.tmp rfl (.tmp rfl (.nil))) (fun w' h' => ⟨by rw [hz]; rfl, h'.below⟩)
    · try simp only [Bool.not_eq_false', decide_eq_true_eq] at h3
      have hc1 : sizE mo rm = 0 := by have hq := h3; omega
      have hsz2 : (3 ≤ mo ∧ mo ≤ 8) ∧ (mo / 2 ≤ rm ∧ rm ≤ mo) := sizE_0 hc1
      have hTL : ((⟨(j : Int), mo, rm, pln L⟩ : Tre)).ns.length = L.length := pln_len L
      refine s_skip ?_
      refine s_seq ?_
      refine s_seq ?_
      refine s_region ?_
      refine o_p (p_fieldAddr rfl rfl fd_24_3 sz_22 rfl) rfl ?_
      refine o_q (q_load rfl rfl sz_22 aPk rfl) rfl ?_
      refine o_p (p_len_slice rfl rfl Tryz.underlying22) rfl ?_
      refine oP ?_
      refine o_nil ?_
      refine s_cond rfl (fun h4 => ?_) (fun h4 => ?_)
      · try simp only [decide_eq_true_eq] at h4
        have hz := treE_l (t := (⟨(j : Int), mo, rm, pln L⟩ : Tre)) hc0 hc1 (by rw [hTL]; have hq := h4; omega)
        refine s_seq ?_
        refine s_region ?_
        refine oP ?_
        refine oP ?_
        refine o_nil ?_
        exact s_retv (rs := [.tmp 2, .tmp 3]) rfl (.tmp rfl (.tmp rfl (.nil))) (fun w' h' => ⟨by rw [hz]; rfl, h'.below⟩)
      · try simp only [decide_eq_false_iff_not] at h4
        have h00 : 0 < L.length := by have hq := h4; omega
        refine s_skip ?_
        refine s_seq ?_
        refine s_seq ?_
        refine s_region ?_
        refine o_p (p_fieldAddr rfl rfl fd_24_3 sz_22 rfl) rfl ?_
        refine o_q (q_load rfl rfl sz_22 aPk rfl) rfl ?_
        refine o_p (p_len_slice rfl rfl Tryz.underlying22) rfl ?_
        refine oP ?_
        refine o_nil ?_
        refine s_cond rfl (fun h5 => ?_) (fun h5 => ?_)
        · try simp only [decide_eq_true_eq] at h5
          have hz := treE_g (t := (⟨(j : Int), mo, rm, pln L⟩ : Tre)) hc0 hc1 (by rw [hTL]; exact h00) (by rw [hTL]; have hq := h5; omega)
          refine s_seq ?_
          refine s_region ?_
          refine oP ?_
          refine oP ?_
          refine o_nil ?_
          exact s_retv (rs := [.tmp 2, .tmp 3]) rfl (.tmp rfl (.tmp rfl (.nil))) (fun w' h' => ⟨by rw [hz]; rfl, h'.below⟩)
        · try simp only [decide_eq_false_iff_not] at h5
          have h120 : L.length ≤ 120 := by have hq := h5; omega
          have hz := treE_n (t := (⟨(j : Int), mo, rm, pln L⟩ : Tre)) hc0 hc1 (by rw [hTL]; exact h00) (by rw [hTL]; exact h120)
          rw [hTL] at hz
          refine s_skip ?_
          refine s_seq ?_
          refine s_region ?_
          refine o_p (p_fieldAddr rfl rfl fd_24_3 sz_22 rfl) rfl ?_
          refine o_q (q_load rfl rfl sz_22 aPk rfl) rfl ?_
          refine o_p (p_len_slice rfl rfl Tryz.underlying22) rfl ?_
          refine o_h (h_make (n := L.length) rfl rfl rfl sl_140 zr_4 (by omega) (by omega)) rfl (fun b6 _ => ?_)
          refine o_class (fun w h => (show HS _ _ [.blk b6 4 L.length (seenV L.length []), .blk b1 24 4 [.int .i64 (j : Int), .int .i64 mo, .int .i64 rm, .slice a L.length cap]] w from by have h9 := h; rw [Nat.mul_one, seen_nil] at h9; exact h9.ent aEt)) ?_
          refine oP ?_
          refine o_nil ?_
          refine s_seq ?_
          refine s_seq ?_
          refine s_weaken (L' := [(1, _), (2, _), (3, _), (6, _)]) aSx (fun _ h => h) ?_
          refine s_region ?_
          refine oP ?_
          refine o_nil ?_
          refine s_block ?_
          refine s_loopI (α := Nat × List Int) [2, 3, 7, 8, 39, 40, 41, 42, 43, 44, 45, 46, 47, 48, 49, 50, 51, 52, 53] (fun x => [(7, .int .i64 (x.1 : Int))]) (fun x => HS w [] [.blk b6 4 L.length (seenV L.length x.2), .blk b1 24 4 [.int .i64 (j : Int), .int .i64 mo, .int .i64 rm, .slice a L.length cap]]) (fun x => x.1 ≤ L.length ∧ (nodsE (⟨(j : Int), mo, rm, pln L⟩ : Tre) L.length 0 []) = nodsE (⟨(j : Int), mo, rm, pln L⟩ : Tre) (L.length - x.1) x.1 x.2) (fun x => L.length - x.1) (0, []) ⟨Nat.zero_le _, rfl⟩ aSx (fun w h => h.ent aEt) (fun ⟨k, S9⟩ hx => ?_)
          dsimp only
          obtain ⟨hk1, hk3⟩ := hx
          simp only [] at hk1 hk3
          refine s_seq ?_
          refine s_seq ?_
          refine s_region ?_
          refine oP ?_
          refine o_p (p_fieldAddr rfl rfl fd_24_3 sz_22 rfl) rfl ?_
          refine o_q (q_load rfl rfl sz_22 aPk rfl) rfl ?_
          refine o_p (p_len_slice rfl rfl Tryz.underlying22) rfl ?_
          refine oP ?_
          refine o_nil ?_
          refine s_cond rfl (fun h7 => ?_) (fun h7 => ?_)
          · try simp only [decide_eq_true_eq] at h7
            have hkl9 : k < L.length := by omega
            have hst := nodsE_step (t := (⟨(j : Int), mo, rm, pln L⟩ : Tre)) (k := k) (seen := S9) (by rw [hTL]; exact hkl9)
            rw [hTL] at hst
            refine s_skip ?_
            refine s_seq ?_
            refine s_block ?_
            refine s_seq ?_
            refine s_region ?_
            refine o_q (q_loadn rfl rfl sz_24 aPk rfl) rfl ?_
            refine oP ?_
            refine oP ?_
            refine o_h (h_callF (Cs := [.blk b6 4 L.length (seenV L.length S9)]) rfl fn_85 rfl aPs (fun w1 h1 hf => c85 w1 j mo rm a cap L k b6 L.length L.length S9 hf ((hs.keep h1).mono (fps_pick aPs)) hj hkl9 (by omega) (hes9 _ hkl9) (hcs9 _ hkl9) (hkl _ hkl9))) rfl (fun _ _ => ?_)
            refine oP ?_
            refine o_nil ?_
            refine s_seq ?_
            refine s_region ?_
            refine oP ?_
            refine oP ?_
            refine o_nil ?_
            refine s_cond rfl (fun h8 => ?_) (fun h8 => ?_)
            · try simp only [Bool.not_eq_true', decide_eq_false_iff_not] at h8
              have hz3 : (nodsE (⟨(j : Int), mo, rm, pln L⟩ : Tre) L.length 0 []) = ((k : Int), (nodE (⟨(j : Int), mo, rm, pln L⟩ : Tre) k S9).1) := by rw [hk3, hst, if_neg h8]
              rw [hz3, if_neg (show ¬ (((k : Int), (nodE (⟨(j : Int), mo, rm, pln L⟩ : Tre) k S9).1) : Int × Int).2 = 0 from h8)] at hz
              refine s_seq ?_
              refine s_region ?_
              refine oP ?_
              refine oP ?_
              refine oP ?_
              refine oP ?_
              refine o_nil ?_
              exact s_retv (rs := [.tmp 2, .tmp 3]) rfl (.tmp rfl (.tmp rfl (.nil))) (fun w' h' => ⟨by rw [hz]; rfl, h'.below⟩)
            · try simp only [Bool.not_eq_false', decide_eq_true_eq] at h8
              have hz3 : nodsE (⟨(j : Int), mo, rm, pln L⟩ : Tre) (L.length - k) k S9 = nodsE (⟨(j : Int), mo, rm, pln L⟩ : Tre) (L.length - (k + 1)) (k + 1) (nodE (⟨(j : Int), mo, rm, pln L⟩ : Tre) k S9).2 := by rw [hst, if_pos (by have hq := h8; omega)]
              refine s_skip ?_
              refine s_blk ?_
              refine s_region ?_
              refine oP ?_
              refine oP ?_
              try (refine o_slot (i64w (by omega) (by omega)) ?_)
              refine oP ?_
              refine o_nil ?_
              exact s_backI (k + 1, (nodE (⟨(j : Int), mo, rm, pln L⟩ : Tre) k S9).2) (by (try simp only []); omega) ⟨by (try simp only []); omega, by simp only []; rw [hk3, hz3]⟩ aSx (fun w h => h.ent aEt)
          · try simp only [decide_eq_false_iff_not] at h7
            have hnd : (nodsE (⟨(j : Int), mo, rm, pln L⟩ : Tre) L.length 0 []) = (0, 0) := by rw [hk3, show L.length - k = 0 by omega]; rfl
            rw [hnd, if_pos rfl] at hz
            have hT : TOk (j : Int) (pln L) := tok_of (t := (⟨(j : Int), mo, rm, pln L⟩ : Tre)) (by show (nodsE (⟨(j : Int), mo, rm, pln L⟩ : Tre) (pln L).length 0 []).2 = 0; rw [pln_len, hnd])
            have hvis : vis (pln L) L.length root0 = visT (pln L) := by unfold visT; rw [pln_len]
            refine s_exit_to rfl ?_
            refine s_seq ?_
            refine s_region ?_
            refine o_p (p_fieldAddr rfl rfl fd_24_3 sz_22 rfl) rfl ?_
            refine o_q (q_load rfl rfl sz_22 aPk rfl) rfl ?_
            refine o_p (p_len_slice rfl rfl Tryz.underlying22) rfl ?_
            refine o_h (h_make (n := L.length) rfl rfl rfl sl_140 zr_4 (by omega) (by omega)) rfl (fun b9 _ => ?_)
            refine o_class (fun w h => (show HS _ _ [.blk b9 4 L.length (seenV L.length []), .blk b1 24 4 [.int .i64 (j : Int), .int .i64 mo, .int .i64 rm, .slice a L.length cap]] w from by have h9 := h; rw [Nat.mul_one, seen_nil] at h9; exact h9.ent aEt)) ?_
            refine oP ?_
            refine o_nil ?_
            refine s_seq ?_
            refine s_region ?_
            refine o_q (q_loadn rfl rfl sz_24 aPk rfl) rfl ?_
            refine oP ?_
            refine o_h (h_callF (Cs := [.blk b9 4 L.length (seenV L.length [])]) rfl fn_86 rfl aPs (fun w1 h1 hf => c86 j mo rm a cap L b9 L.length L.length L.length w1 [] root0 [] hf ((hs.keep h1).mono (fps_pick aPs)) hT hB h00 rfl (by simp))) rfl (fun _ _ => ?_)
            refine o_nil ?_
            refine s_seq ?_
            refine s_seq ?_
            refine s_region ?_
            refine oP ?_
            refine o_nil ?_
            refine s_block ?_
            refine s_weaken (L' := [(1, _), (6, _), (7, _), (9, _), (10, _)]) aSx (fun _ h => h) ?_
            refine s_loopI (α := Nat) [2, 3, 10, 61, 62, 63, 64, 65, 66, 67, 68, 69, 70, 71, 72, 73, 74, 75, 76, 77, 78, 79, 80, 81] (fun k => [(10, .int .i64 (k : Int))]) (fun _ => HS w [] [.blk b9 4 L.length (seenV L.length (mkS (vis (pln L) L.length root0) [])), .blk b1 24 4 [.int .i64 (j : Int), .int .i64 mo, .int .i64 rm, .slice a L.length cap]]) (fun k => k ≤ L.length ∧ opnF (pln L) ((visT (pln L)).map Vis.i) L.length 0 = opnF (pln L) ((visT (pln L)).map Vis.i) (L.length - k) k) (fun k => L.length - k) 0 ⟨Nat.zero_le _, rfl⟩ aSx (fun w h => h.ent aEt) (fun k hx => ?_)
            obtain ⟨hk1, hk2⟩ := hx
            refine s_seq ?_
            refine s_seq ?_
            refine s_region ?_
            refine oP ?_
            refine o_p (p_fieldAddr rfl rfl fd_24_3 sz_22 rfl) rfl ?_
            refine o_q (q_load rfl rfl sz_22 aPk rfl) rfl ?_
            refine o_p (p_len_slice rfl rfl Tryz.underlying22) rfl ?_
            refine oP ?_
            refine o_nil ?_
            refine s_cond rfl (fun h10 => ?_) (fun h10 => ?_)
            · try simp only [decide_eq_true_eq] at h10
              have hkl9 : k < L.length := by omega
              have hst := opnF_step (ns := pln L) (below := ((visT (pln L)).map Vis.i)) (k := k) (by rw [pln_len]; exact hkl9)
              rw [pln_len, pln_nth hkl9] at hst
              refine s_skip ?_
              refine s_seq ?_
              refine s_block ?_
              refine s_seq ?_
              refine s_region ?_
              refine o_p (p_fieldAddr rfl rfl fd_24_3 sz_22 rfl) rfl ?_
              refine o_q (q_load rfl rfl sz_22 aPk rfl) rfl ?_
              refine oP ?_
              refine o_p (p_indexAddr rfl rfl rfl sl_22 (k) (by omega) (by omega) (Rw.some hs.1 (by omega))) rfl ?_
              refine o_p (p_fieldAddr rfl rfl fd_102_0 sz_4 rfl) rfl ?_
              refine o_q (q_load_old rfl rfl sz_4 ((hs.1.rdj 0 hkl9 rfl))) rfl ?_
              refine oP ?_
              refine o_and 6 74 80 _ _ rfl
                (by
                  intro hg11
                  have hs12 := hg11; skip
                  refine o_on 74 _ rfl rfl hg11 ?_
                  refine oP ?_
                  refine o_on 74 _ rfl rfl hg11 ?_
                  refine oP ?_
                  refine o_on 74 _ rfl rfl hg11 ?_
                  refine o_p (p_indexAddr rfl rfl rfl sl_140 (k) (by omega) (by omega) rfl) rfl ?_
                  refine o_slot (show _ = Value.pointer (some ⟨b9, k, none⟩) from by rw [Nat.zero_add, Nat.mul_one]) ?_
                  refine o_on 74 _ rfl rfl hg11 ?_
                  refine o_q (q_load_at rfl rfl sz_4 (fun w h => h.rd_blk (Mc := []) aPk (seen_get hkl9) (by simp))) rfl ?_
                  refine o_on 74 _ rfl rfl hg11 ?_
                  refine oP ?_
                  refine o_p (p_pickt rfl rfl hg11 rfl) rfl ?_
                  refine o_nil ?_
                  exact s_joinN 6 80 _ rfl rfl rfl (fun w h => by first | exact h | exact h.ent aEt))
                (by
                  intro hg13
                  have hs14 := hg13; skip
                  refine o_off 74 _ rfl rfl hg13 rfl ?_
                  refine o_off 74 _ rfl rfl hg13 rfl ?_
                  refine o_off 74 _ rfl rfl hg13 rfl ?_
                  refine o_off 74 _ rfl rfl hg13 rfl ?_
                  refine o_off 74 _ rfl rfl hg13 rfl ?_
                  refine o_p (p_pickf rfl rfl hg13 rfl) rfl ?_
                  refine o_nil ?_
                  exact s_joinN 6 80 _ rfl rfl rfl (fun w h => by first | exact h | exact h.ent aEt)) ?_
              refine o_nil ?_
              refine s_cond rfl (fun h15 => ?_) (fun h15 => ?_)
              · try simp only [Bool.and_eq_true, Bool.not_eq_true', decide_eq_false_iff_not] at h15
                have hz7 : (nth L k).pl.us = true ∧ k ∉ ((visT (pln L)).map Vis.i) := by have hq := h15; rw [← open_mem, ← hvis]; simp only [LNd.pl]; simpa using hq
                have hz8 := hz.trans (shapE_some (t := (⟨(j : Int), mo, rm, pln L⟩ : Tre)) (i := k) (show opnF (pln L) _ (pln L).length 0 = some k from by rw [pln_len, hk2, hst, if_pos hz7]))
                refine s_seq ?_
                refine s_region ?_
                refine oP ?_
                refine oP ?_
                refine oP ?_
                refine o_nil ?_
                exact s_retv (rs := [.tmp 2, .tmp 3]) rfl (.tmp rfl (.tmp rfl (.nil))) (fun w' h' => ⟨by rw [hz8]; rfl, h'.below⟩)
              · try simp only [Bool.and_eq_false_iff, Bool.not_eq_false', decide_eq_true_eq] at h15
                have hz7 : ¬ ((nth L k).pl.us = true ∧ k ∉ ((visT (pln L)).map Vis.i)) := by have hq := h15; rw [← open_mem, ← hvis]; simp only [LNd.pl]; intro h9; exact hq.elim (fun h8 => by rw [h8] at h9; cases h9.1) (fun h8 => h9.2 h8)
                refine s_skip ?_
                refine s_blk ?_
                refine s_region ?_
                refine oP ?_
                refine oP ?_
                try (refine o_slot (i64w (by omega) (by omega)) ?_)
                refine oP ?_
                refine o_nil ?_
                exact s_backI (k + 1) (by omega) ⟨by omega, by rw [hk2, hst, if_neg hz7]⟩ aSx (fun w h => h.ent aEt)
            · try simp only [decide_eq_false_iff_not] at h10
              have hnone : opnF (pln L) ((visT (pln L)).map Vis.i) L.length 0 = none := by rw [hk2, show L.length - k = 0 by omega]; rfl
              have hz8 := hz.trans (shapE_none (t := (⟨(j : Int), mo, rm, pln L⟩ : Tre)) (show opnF (pln L) _ (pln L).length 0 = none from by rw [pln_len]; exact hnone))
              refine s_exit_to rfl ?_
              refine s_seq ?_
              refine s_region ?_
              refine oP ?_
              refine o_nil ?_
              refine s_seq ?_
              refine s_seq ?_
              refine s_region ?_
              refine oP ?_
              refine o_nil ?_
              refine s_block ?_
              refine s_loopI (α := Nat × Nat × List Nat) [11, 12, 82, 83, 84, 85, 86, 87, 88, 89, 90, 91, 92, 93, 94, 95, 96, 97, 98, 99] (fun y => [(11, .int .i64 (y.1 : Int)), (12, .int .i64 (y.2.1 : Int))]) (fun _ => HS w [] [.blk b1 24 4 [.int .i64 (j : Int), .int .i64 mo, .int .i64 rm, .slice a L.length cap]]) (fun y => Gx.Way (pln L) (y.2.1 :: y.2.2) ∧ y.2.2.length = y.1 ∧ deepT (pln L) L.length 0 = (y.1 : Int) + deepT (pln L) (L.length - y.1) y.2.1) (fun y => L.length - y.1) (0, 0, []) ⟨rfl, rfl, by simp⟩ aSx (fun w h => h.ent aEt) (fun ⟨d, i, P⟩ hx => ?_)
              dsimp only
              obtain ⟨hway, hpl, hdp⟩ := hx
              simp only [] at hway hpl hdp
              have hil0 := way_lt hT (by rw [pln_len]; exact h00) hway i (List.mem_cons_self ..)
              have hil : i < L.length := by rw [pln_len] at hil0; exact hil0
              have hnI := pln_nth hil
              have hwl := way_len hT (by rw [pln_len]; exact h00) hway
              rw [pln_len, List.length_cons] at hwl
              have hcl := hcs9 i hil
              refine s_seq ?_
              refine s_seq ?_
              refine s_region ?_
              refine o_p (p_fieldAddr rfl rfl fd_24_3 sz_22 rfl) rfl ?_
              refine o_q (q_load rfl rfl sz_22 aPk rfl) rfl ?_
              refine oP ?_
              refine o_p (p_indexAddr rfl rfl rfl sl_22 (i) (by omega) (by omega) (Rw.some hs.1 (by omega))) rfl ?_
              refine o_p (p_fieldAddr rfl rfl fd_102_2 sz_30 rfl) rfl ?_
              refine o_q (q_load_old rfl rfl sz_30 ((hs.1.rdj 2 hil rfl))) rfl ?_
              refine o_p (p_len_slice rfl rfl Tryz.underlying30) rfl ?_
              refine oP ?_
              refine o_nil ?_
              refine s_cond rfl (fun h16 => ?_) (fun h16 => ?_)
              · try simp only [decide_eq_true_eq] at h16
                have hcl0 : 0 < (nth L i).cs.length := by have hq := h16; omega
                have hkid := kid_in hT (by rw [pln_len]; exact hil) (i := i) (k := 0) (by rw [hnI]; exact hcl0)
                rw [hnI, pln_len] at hkid
                simp only [LNd.pl] at hkid
                have hway2 := way_kid hway (by rw [pln_len]; exact hil) (k := 0) (by rw [hnI]; exact hcl0) (by rw [hnI]; simp only [LNd.pl]; omega)
                rw [hnI] at hway2
                have hwl2 := way_len hT (by rw [pln_len]; exact h00) hway2
                rw [pln_len, List.length_cons, List.length_cons] at hwl2
                have hdm := deep_more (ns := pln L) (f := L.length - d) (i := i) (by omega) (by rw [hnI]; show ¬ (nth L i).cs.length = 0; omega)
                rw [hnI] at hdm
                refine s_skip ?_
                refine s_seq ?_
                refine s_block ?_
                refine s_region ?_
                refine o_p (p_fieldAddr rfl rfl fd_24_3 sz_22 rfl) rfl ?_
                refine o_q (q_load rfl rfl sz_22 aPk rfl) rfl ?_
                refine oP ?_
                refine o_p (p_indexAddr rfl rfl rfl sl_22 (i) (by omega) (by omega) (Rw.some hs.1 (by omega))) rfl ?_
                refine o_p (p_fieldAddr rfl rfl fd_102_2 sz_30 rfl) rfl ?_
                refine o_q (q_load_old rfl rfl sz_30 ((hs.1.rdj 2 hil rfl))) rfl ?_
                refine o_p (p_indexAddr rfl rfl rfl sl_30 (0) (by omega) (by omega) (Rw.some (hs.cs hil) (by omega))) rfl ?_
                refine o_q (q_load_old rfl rfl sz_3 (((hs.cs hil).rdj 0 (i := 0) (by omega) rfl))) rfl ?_
                refine o_slot (show _ = Value.int .i64 (((nth L i).cs.getD 0 0).toNat : Int) from congrArg (Value.int .i64) (Int.toNat_of_nonneg (show 0 ≤ (nth L i).cs.getD 0 0 by omega)).symm) ?_
                refine oP ?_
                refine o_nil ?_
                refine s_blk ?_
                refine s_region ?_
                refine oP ?_
                refine oP ?_
                try (refine o_slot (i64w (by omega) (by omega)) ?_)
                refine oP ?_
                refine o_nil ?_
                exact s_backI (d + 1, ((nth L i).cs.getD 0 0).toNat, i :: P) (by (try simp only []); omega) ⟨hway2, by simp [hpl], by simp only [] at *; rw [show L.length - (d + 1) = L.length - d - 1 by omega]; have h9 : (nth L i).pl.cs = (nth L i).cs := rfl; rw [h9] at hdm; omega⟩ aSx (fun w h => h.ent aEt)
              · try simp only [decide_eq_false_iff_not] at h16
                have hde := deep_end (ns := pln L) (f := L.length - d) (i := i) (by rw [hnI]; show (nth L i).cs.length = 0; have hq := h16; omega)
                rw [hde, Int.add_zero] at hdp
                have hdl := deepT_le (pln L) L.length 0
                refine s_exit_to rfl ?_
                refine s_seq ?_
                refine s_region ?_
                refine o_q (q_loadn rfl rfl sz_24 aPk rfl) rfl ?_
                refine oP ?_
                refine o_q (q_call rfl fn_87 rfl (fun w1 h1 => c87 j mo rm a cap L (d : Int) L.length w1 root0 [] (d : Int) none none 0 0 0 0 (hs.later h1) hj (by omega) hT hB h00 rfl rfl (by show (d : Int) = d + 1 - 1; omega) (fun _ h => by cases h) (fun _ h => by cases h) rfl rfl (by simp))) rfl ?_
                refine oP ?_
                refine oP ?_
                refine oP ?_
                refine oP ?_
                refine o_nil ?_
                exact s_retv (rs := [.tmp 2, .tmp 3]) rfl (.tmp rfl (.tmp rfl (.nil))) (fun w' h' => ⟨by rw [hz8, show deepT ((⟨(j : Int), mo, rm, pln L⟩ : Tre)).ns ((⟨(j : Int), mo, rm, pln L⟩ : Tre)).ns.length 0 = (d : Int) from by rw [hTL]; exact hdp, show visT ((⟨(j : Int), mo, rm, pln L⟩ : Tre)).ns = vis (pln L) L.length root0 from hvis.symm]; rfl, h'.below⟩)

end Go.Proofs

/- Chapter 12: small trees; the end of a way. Plain data. -/
namespace Gx
set_option linter.unusedSimpArgs false
set_option linter.unusedVariables false
set_option linter.unusedSectionVars false
open Go Go.RowKit
def tslimB (x : TEnt) : Bool := decide (x.key.length ≤ 44 ∧ x.val.length ≤ 70)
def tshortB (es : List TEnt) : Bool := es.all tslimB
def tfewN (n : Nd) : Bool := decide (n.es.length ≤ 10 ∧ n.cs.length ≤ 11) && tshortB n.es
def tfewB (ns : List Nd) : Bool := decide (ns.length ≤ 122 ∧ ¬ (60 < ns.length ∧ ns.length ≤ 120)) && ns.all tfewN
theorem tfewN_t {n : Nd} (h1 : n.es.length ≤ 10) (h2 : n.cs.length ≤ 11) (h3 : tshortB n.es = true) : tfewN n = true := by
  rw [tfewN, decide_eq_true (And.intro h1 h2), h3]
  rfl
theorem tfewN_f {n : Nd} (h : (10 < n.es.length ∨ 11 < n.cs.length) ∨ tshortB n.es = false) : ¬ tfewN n = true := fun h9 => by
  rw [tfewN, Bool.and_eq_true, decide_eq_true_eq] at h9
  rcases h with h | h
  · omega
  · rw [h] at h9
    cases h9.2
theorem tshortB_t {es : List TEnt} (h : ∀ q, q < es.length → tslimB (nth es q) = true) : tshortB es = true := by
  refine List.all_eq_true.2 fun x hx => ?_
  obtain ⟨q, hq, e⟩ := List.getElem_of_mem hx
  have e2 : nth es q = x := nth_eq (by rw [List.getElem?_eq_getElem hq, e])
  rw [← e2]
  exact h q hq
theorem tshortB_f {es : List TEnt} {k : Nat} (hk : k < es.length) (h : ¬ tslimB (nth es k) = true) : tshortB es = false := by
  cases e : tshortB es
  · rfl
  · exact absurd (List.all_eq_true.1 e _ (mem_nth hk)) h
theorem tfewB_t {ns : List Nd} (h0 : ns.length ≤ 122 ∧ ¬ (60 < ns.length ∧ ns.length ≤ 120)) (h : ∀ q, q < ns.length → tfewN (nth ns q) = true) : tfewB ns = true := by
  rw [tfewB, decide_eq_true h0, Bool.true_and]
  refine List.all_eq_true.2 fun x hx => ?_
  obtain ⟨q, hq, e⟩ := List.getElem_of_mem hx
  have e2 : nth ns q = x := nth_eq (by rw [List.getElem?_eq_getElem hq, e])
  rw [← e2]
  exact h q hq
theorem tfewB_f {ns : List Nd} {k : Nat} (hk : k < ns.length) (h : ¬ tfewN (nth ns k) = true) : tfewB ns = false := by
  cases e : tfewB ns
  · rfl
  · rw [tfewB, Bool.and_eq_true] at e
    exact absurd (List.all_eq_true.1 e.2 _ (mem_nth hk)) h
theorem tfewB_n {ns : List Nd} (h : ¬ (ns.length ≤ 122 ∧ ¬ (60 < ns.length ∧ ns.length ≤ 120))) : tfewB ns = false := by
  rw [tfewB, decide_eq_false h, Bool.false_and]
theorem tfew_len {ns : List Nd} (h : tfewB ns = true) : ns.length ≤ 122 := by
  rw [tfewB, Bool.and_eq_true, decide_eq_true_eq] at h
  exact h.1.1
theorem tfew_nd {ns : List Nd} (h : tfewB ns = true) {k : Nat} (hk : k < ns.length) : (nth ns k).es.length ≤ 10 ∧ (nth ns k).cs.length ≤ 11 ∧ ∀ x ∈ (nth ns k).es, x.key.length ≤ 44 ∧ x.val.length ≤ 70 := by
  rw [tfewB, Bool.and_eq_true] at h
  have h2 := List.all_eq_true.1 h.2 _ (mem_nth hk)
  rw [tfewN, Bool.and_eq_true, decide_eq_true_eq] at h2
  refine ⟨h2.1.1, h2.1.2, fun x hx => ?_⟩
  have h3 := List.all_eq_true.1 h2.2 _ hx
  rw [tslimB, decide_eq_true_eq] at h3
  exact h3
theorem tfew_bd {ns : List Nd} (h : tfewB ns = true) : Bd ns where
  len := Nat.le_trans (tfew_len h) (by decide)
  es i hi := Nat.le_trans (tfew_nd h hi).1 (by decide)
  cs i hi := Nat.le_trans (tfew_nd h hi).2.1 (by decide)
theorem tfew_sm {ns : List Nd} (h : tfewB ns = true) : Sm 1000 ns := fun k => by
  rcases Nat.lt_or_ge k ns.length with hk | hk
  · exact ⟨Nat.le_trans (tfew_nd h hk).1 (by decide), Nat.le_trans (tfew_nd h hk).2.1 (by decide)⟩
  · rw [nth_out hk]
    exact ⟨Nat.zero_le _, Nat.zero_le _⟩
theorem tfew_keys {L : List LNd} (h : tfewB (pln L) = true) : ∀ i, i < L.length → ∀ x ∈ (nth L i).es, x.key.length ≤ 1000000 := fun i hi x hx => by
  have h2 := (tfew_nd h (k := i) (by rw [pln_len]; exact hi)).2.2 x (by rw [pln_nth hi]; exact hx)
  omega
/-! ## Where a way ends -/
/-- The entry at a key. -/
def entN (co : Int) (ns : List Nd) (key : List UInt8) : TEnt := nth (nth ns (lastN (pathN co ns key).1)).es (pathN co ns key).2.1
end Gx

