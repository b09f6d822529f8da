/- Contracts of the program's functions, proved by walking them with the rules of the Gx texts; without conditions beyond those that each contract names. -/
import Derived.WalkKit
import Derived.Deep.Draws
import Derived.TacticsIn
import Derived.OrdersIn
import Derived.RangeFuncLeaves
import Derived.Lib.Strings
import Derived.Laws.BytesArg
import Derived.Laws.IdiomStrings
import Derived.Deep.Quiet
import Derived.ProofKit
import Derived.OpenShut
import Derived.Laws.StructEq
import Derived.ChangeKeysEq
import Derived.Laws.Externs
import Derived.Lib.Overlaps
import Derived.Carry
import Derived.Laws.Small
import Derived.Lib.Bytealg
import Derived.Test.YtfappgmkbnddiaaGreatProg
import Derived.KernelRfl
import Derived.Lib.Builder
import Derived.Laws.Pointers
import Derived.RangeFuncRecord
import Derived.Test.YtfappgmkbnddiaaGreatP3
namespace Gx
set_option linter.unusedSimpArgs false
set_option linter.unusedVariables false
set_option linter.unusedSectionVars false
open Go Go.RowKit
def Bal (lo hi : Nat) : Nat → BT → Prop
  | 0, T => T.ks = [] ∧ lo ≤ T.es.length ∧ T.es.length ≤ hi
  | d + 1, T => (T.ks.length = T.es.length + 1 ∧ ∀ k ∈ T.ks, Bal lo hi d k) ∧ lo ≤ T.es.length ∧ T.es.length ≤ hi
def Bel (lo hi : Nat) : Nat → BT → Prop
  | 0, T => T.ks = []
  | d + 1, T => T.ks.length = T.es.length + 1 ∧ ∀ k ∈ T.ks, Bal lo hi d k
theorem bal_iff {lo hi d : Nat} {T : BT} : Bal lo hi d T ↔ Bel lo hi d T ∧ lo ≤ T.es.length ∧ T.es.length ≤ hi := by
  cases d <;> simp only [Bal, Bel]
theorem Bel.cs {lo hi d : Nat} {T : BT} (h : Bel lo hi d T) : T.ks = [] ∨ T.ks.length = T.es.length + 1 := by
  cases d with
  | zero => exact .inl h
  | succ d => exact .inr h.1
theorem Bel.leaf {lo hi d : Nat} {T : BT} (h : Bel lo hi d T) (hk : T.ks = []) : d = 0 := by
  cases d with
  | zero => rfl
  | succ d =>
    have := h.1
    rw [hk] at this
    simp at this
def CtxOk (lo hi rt : Nat) : Nat → List Fr → Prop
  | _, [] => True
  | d, f :: C => ((∀ k ∈ f.l, Bal lo hi d k) ∧ (∀ k ∈ f.r, Bal lo hi d k)) ∧ f.l.length + f.r.length = f.es.length ∧ ((C = [] → f.es.length ≤ rt) ∧ (C ≠ [] → lo ≤ f.es.length ∧ f.es.length ≤ hi)) ∧ CtxOk lo hi rt (d + 1) C
theorem bel_fill {lo hi rt d : Nat} {f : Fr} {C : List Fr} {T : BT} (hC : CtxOk lo hi rt d (f :: C)) (h : Bal lo hi d T) : Bel lo hi (d + 1) (f.fill T) := by
  refine ⟨?_, fun k hk => ?_⟩
  · show (f.l ++ T :: f.r).length = f.es.length + 1
    have := hC.2.1
    simp only [List.length_append, List.length_cons]
    omega
  · rcases List.mem_append.1 hk with hk | hk
    · exact hC.1.1 k hk
    · rcases List.mem_cons.1 hk with rfl | hk
      · exact h
      · exact hC.1.2 k hk
theorem flatL_nil (es : List TEnt) : flatL es [] = es := by cases es <;> rfl
theorem flat_leaf (i : Nat) (es : List TEnt) : (BT.nd i es []).flat = es := by rw [BT.flat, flatL_nil]
def flatA : List TEnt → List BT → List TEnt
  | e :: es, k :: ks => k.flat ++ e :: flatA es ks
  | _, _ => []
def flatZ : List TEnt → List BT → List TEnt
  | e :: es, k :: ks => e :: (k.flat ++ flatZ es ks)
  | _, _ => []
theorem flatL_first : ∀ (es : List TEnt) (T : BT) (r : List BT), r.length = es.length → flatL es (T :: r) = T.flat ++ flatZ es r
  | [], T, [], _ => by
    rw [flatL, flatL_nil]
    rfl
  | [], T, k :: r, h => absurd h (by simp)
  | e :: es, T, [], h => absurd h (by simp)
  | e :: es, T, k :: r, h => by
    rw [flatL, flatL_first es k r (by simpa using h)]
    rfl
theorem flatL_mid : ∀ (l : List BT) (es : List TEnt) (T : BT) (r : List BT), l.length + r.length = es.length → flatL es (l ++ T :: r) = flatA es l ++ (T.flat ++ flatZ (es.drop l.length) r)
  | [], es, T, r, h => by
    have e : flatA es [] = [] := by cases es <;> rfl
    rw [e]
    exact flatL_first es T r (by simpa using h)
  | k :: l, [], T, r, h => absurd h (by simp only [List.length_cons, List.length_nil]; omega)
  | k :: l, e :: es, T, r, h => by
    rw [List.cons_append, flatL, flatL_mid l es T r (by simp only [List.length_cons] at h; omega), flatA, List.length_cons, List.drop_succ_cons]
    simp only [List.append_assoc, List.cons_append]
theorem flatA_app : ∀ (a b : List TEnt) (l : List BT), l.length ≤ a.length → flatA (a ++ b) l = flatA a l
  | a, b, [], _ => by
    have e : ∀ c : List TEnt, flatA c [] = [] := fun c => by cases c <;> rfl
    rw [e, e]
  | [], b, k :: l, h => absurd h (by simp)
  | x :: a, b, k :: l, h => by
    rw [List.cons_append, flatA, flatA, flatA_app a b l (by simpa using h)]
theorem flatA_take {es : List TEnt} {l : List BT} (h : l.length ≤ es.length) : flatA (es.take l.length) l = flatA es l := by
  have := flatA_app (es.take l.length) (es.drop l.length) l (by rw [List.length_take]; omega)
  rw [List.take_append_drop] at this
  exact this.symm
theorem flatL_ins {l r : List BT} {es : List TEnt} {A B : BT} {up : TEnt} (h : l.length + r.length = es.length) : flatL (insAt es l.length up) (l ++ A :: B :: r) = flatA es l ++ ((A.flat ++ up :: B.flat) ++ flatZ (es.drop l.length) r) := by
  have hl : (es.take l.length).length = l.length := by rw [List.length_take]; omega
  rw [flatL_mid l _ A (B :: r) (by rw [ins_len (by omega), List.length_cons]; omega)]
  unfold insAt
  rw [flatA_app _ _ _ (by omega), flatA_take (by omega), List.drop_append, List.drop_of_length_le (by omega : (es.take l.length).length ≤ l.length), hl, Nat.sub_self, List.nil_append, List.drop_zero]
  show flatA es l ++ (A.flat ++ (up :: (B.flat ++ flatZ (es.drop l.length) r))) = _
  simp only [List.append_assoc, List.cons_append]
theorem flatL_split : ∀ (m : Nat) (es : List TEnt) (ks : List BT), m < es.length → (ks = [] ∨ ks.length = es.length + 1) → flatL (es.take m) (ks.take (m + 1)) ++ nth es m :: flatL (es.drop (m + 1)) (ks.drop (m + 1)) = flatL es ks
  | m, es, [], h, _ => by
    rw [List.take_nil, List.drop_nil, flatL_nil, flatL_nil, flatL_nil]
    have e : nth es m = es[m] := nth_eq (List.getElem?_eq_getElem h)
    rw [e, ← List.drop_eq_getElem_cons h, List.take_append_drop]
  | m, [], k :: ks, h, _ => absurd h (by simp)
  | 0, e :: es, k :: ks, h, h2 => by
    rw [List.take_zero, List.take_succ_cons, List.take_zero, flatL, flatL_nil, List.drop_succ_cons, List.drop_zero, List.drop_succ_cons, List.drop_zero, flatL, List.append_nil]
    rfl
  | m + 1, e :: es, k :: ks, h, h2 => by
    have hk : ks.length = es.length + 1 := by
      rcases h2 with h2 | h2
      · cases h2
      · simpa using h2
    rw [List.take_succ_cons, List.take_succ_cons, flatL, List.drop_succ_cons, List.drop_succ_cons, flatL]
    have := flatL_split m es ks (by simpa using h) (.inr hk)
    show k.flat ++ e :: flatL (es.take m) (ks.take (m + 1)) ++ nth es m :: flatL (es.drop (m + 1)) (ks.drop (m + 1)) = _
    rw [← this]
    simp only [List.append_assoc, List.cons_append]
def preC : List Fr → List TEnt
  | [] => []
  | f :: C => preC C ++ flatA f.es f.l
def sufC : List Fr → List TEnt
  | [] => []
  | f :: C => flatZ (f.es.drop f.l.length) f.r ++ sufC C
theorem plug_flat {lo hi rt : Nat} : ∀ {C : List Fr} {d : Nat} {T : BT}, CtxOk lo hi rt d C → (plug C T).flat = preC C ++ (T.flat ++ sufC C)
  | [], d, T, _ => by
    show T.flat = [] ++ (T.flat ++ [])
    simp
  | f :: C, d, T, hC => by
    show (plug C (f.fill T)).flat = _
    rw [plug_flat (C := C) hC.2.2.2]
    show preC C ++ ((BT.nd f.i f.es (f.l ++ T :: f.r)).flat ++ sufC C) = _
    rw [BT.flat, flatL_mid f.l f.es T f.r hC.2.1]
    simp only [preC, sufC, List.append_assoc]
theorem plug_idx : ∀ (C : List Fr) (T T' : BT), T.idx = T'.idx → (plug C T).idx = (plug C T').idx
  | [], T, T', h => h
  | f :: C, T, T', _ => plug_idx C (f.fill T) (f.fill T') rfl
theorem root_in : ∀ (C : List Fr) (T : BT) (h : Nat), C ≠ [] → (plug C T).idx ∈ (ctxNodes C h).map Prod.fst
  | [], T, h, hne => absurd rfl hne
  | [f], T, h, _ => by
    show f.i ∈ _
    simp [ctxNodes, Fr.nodes]
  | f :: g :: C, T, h, _ => by
    have := root_in (g :: C) (f.fill T) f.i (by simp)
    show (plug (g :: C) (f.fill T)).idx ∈ _
    rw [ctxNodes, List.map_append]
    exact List.mem_append_right _ this
theorem BT.idx_mem (T : BT) : T.idx ∈ T.nodes.map Prod.fst := by
  cases T with
  | nd i es ks =>
    rw [BT.nodes]
    exact List.mem_cons_self ..
theorem plug_ne {ns : List Nd} {C : List Fr} {T : BT} (h : RepT ns (plug C T)) (hC : C ≠ []) : T.idx ≠ (plug C T).idx := fun e => by
  have h1 := h.plug.nd
  rw [List.map_append] at h1
  exact (List.nodup_append.1 h1).2.2 _ (e ▸ root_in C T T.idx hC) _ T.idx_mem rfl
theorem rep_es {ns : List Nd} {C : List Fr} {i : Nat} {es : List TEnt} {ks : List BT} (h : RepT ns (plug C (.nd i es ks))) (es' : List TEnt) : RepT (esN ns i es') (plug C (.nd i es' ks)) := by
  refine RepT.of_plug ?_
  have h1 := h.plug
  rw [BT.nodes] at h1 ⊢
  have h2 := (h1.perm List.perm_middle).es es'
  exact h2.perm List.perm_middle.symm
theorem frsI_bel (ns : List Nd) : ∀ f i j, i ≤ j → j < frsI ns f i → (nth ns j).us = true
  | 0, i, j, h, h2 => by
    rw [frsI] at h2
    omega
  | f + 1, i, j, h, h2 => by
    rw [frsI] at h2
    split at h2
    · split at h2
      · rcases Nat.eq_or_lt_of_le h with rfl | h3
        · assumption
        · exact frsI_bel ns f (i + 1) j h3 h2
      · omega
    · omega
theorem ixFree_bel {ns : List Nd} {j : Nat} (h : j < ixFree ns) (hl : j < ns.length) : (nth ns j).us = true := by
  have h1 := ixB_false (l := ns.map fun n => !n.us) h
  rw [getD_map (d := default) hl] at h1
  show (ns.getD j default).us = true
  simpa using h1
theorem frs_fre {ns : List Nd} (h0 : 0 < ns.length) (hu : (nth ns 0).us = true) (hb : ∀ i, i < ns.length → (nth ns i).us = false → nth ns i = ⟨false, [], []⟩) : frsN ns = freN ns := by
  have hle : ixFree ns ≤ ns.length := by
    have := ixB_le (ns.map fun n => !n.us)
    rw [List.length_map] at this
    exact this
  have hfl : frsX ns ≤ ns.length := frsI_le ns _ 1 h0
  have hge : 1 ≤ frsX ns := frsI_ge ns _ 1
  have e : frsX ns = ixFree ns := by
    rcases Nat.lt_trichotomy (frsX ns) (ixFree ns) with h | h | h
    · have h1 := frsI_us ns ns.length 1 (by show frsX ns < _; omega) (by omega)
      have h2 := ixFree_bel (ns := ns) h (by omega)
      rw [show frsI ns ns.length 1 = frsX ns from rfl, h2] at h1
      cases h1
    · exact h
    · have h1 := ixFree_us (ns := ns) (by omega)
      have h2 : 1 ≤ ixFree ns := by
        rcases Nat.eq_zero_or_pos (ixFree ns) with h3 | h3
        · rw [h3, hu] at h1
          cases h1
        · exact h3
      have h3 := frsI_bel ns ns.length 1 (ixFree ns) h2 h
      rw [h3] at h1
      cases h1
  unfold frsN freN
  rw [e]
  split
  · rename_i h
    unfold usN
    rw [hb _ h (ixFree_us h)]
  · rfl
theorem RepT.blank {ns : List Nd} {T : BT} (h : RepT ns T) {i : Nat} (hi : i < ns.length) (hu : (nth ns i).us = false) : nth ns i = ⟨false, [], []⟩ := by
  by_cases hm : i ∈ T.nodes.map Prod.fst
  · obtain ⟨p, hp, rfl⟩ := List.mem_map.1 hm
    have h1 := RepN.at_ (i := p.1) (x := p.2) h hp
    rw [h1.2, nodes_us T p hp] at hu
    cases hu
  · exact h.rest i hi hm
theorem RepT.root {ns : List Nd} {T : BT} (h : RepT ns T) : T.idx < ns.length ∧ nth ns T.idx = ⟨true, T.es, idxs T.ks⟩ := RepT.at_ (C := []) h
theorem RepT.frs {ns : List Nd} {T : BT} (h : RepT ns T) (h0 : T.idx = 0) : frsN ns = freN ns := by
  have h1 := h.root
  rw [h0] at h1
  exact frs_fre h1.1 (by rw [h1.2]) fun i hi hu => h.blank hi hu
def Leads (co : Int) (key : List UInt8) (C : List Fr) : Prop := ∀ f ∈ C, f.l.length = plc co f.es key ∧ ¬ fnd co f.es key = true
theorem nth_mid' {α : Type} [Inhabited α] (l : List α) (x : α) (r : List α) : nth (l ++ x :: r) l.length = x := nth_eq (by simp)
theorem getD_mid {α : Type} (l : List α) (x d : α) (r : List α) : (l ++ x :: r).getD l.length d = x := by simp
theorem BT.eta (T : BT) : T = .nd T.idx T.es T.ks := by cases T; rfl
theorem split_at {α : Type} [Inhabited α] {ks : List α} {p : Nat} (h : p < ks.length) : ks = ks.take p ++ nth ks p :: ks.drop (p + 1) := by
  have e : nth ks p = ks[p] := nth_eq (List.getElem?_eq_getElem h)
  rw [e, ← List.drop_eq_getElem_cons h, List.take_append_drop]
theorem desc {co : Int} {ns : List Nd} {key : List UInt8} {lo hi rt : Nat} : ∀ (f d : Nat) (C : List Fr) (T : BT), RepT ns (plug C T) → CtxOk lo hi rt d C → Bel lo hi d T → ((C = [] → T.es.length ≤ rt) ∧ (C ≠ [] → lo ≤ T.es.length ∧ T.es.length ≤ hi)) → d < f →
    ∃ D T' d', plug D T' = T ∧ CtxOk lo hi rt d' (D ++ C) ∧ Bel lo hi d' T' ∧ ((D ++ C = [] → T'.es.length ≤ rt) ∧ (D ++ C ≠ [] → lo ≤ T'.es.length ∧ T'.es.length ≤ hi)) ∧ d' + D.length = d ∧
      (pthN co ns key f T.idx).1 = (D.map Fr.i).reverse ++ [T'.idx] ∧ (pthN co ns key f T.idx).2 = (plc co T'.es key, fnd co T'.es key) ∧ (fnd co T'.es key = true ∨ T'.ks = []) ∧ Leads co key D
  | 0, d, C, T, _, _, _, _, h => absurd h (Nat.not_lt_zero _)
  | f + 1, d, C, T, hR, hC, hB, hb, hd => by
    have hat := hR.at_
    have hes : (nth ns T.idx).es = T.es := by rw [hat.2]
    have hcs : (nth ns T.idx).cs = idxs T.ks := by rw [hat.2]
    rw [pthN, hes, hcs, idxs_len]
    by_cases h1 : fnd co T.es key = true ∨ T.ks.length = 0
    · rw [if_pos h1]
      exact ⟨[], T, d, rfl, hC, hB, hb, by simp, rfl, rfl, h1.imp id fun h => List.eq_nil_of_length_eq_zero h, fun f hf => (nomatch hf)⟩
    · rw [if_neg h1]
      have hk : ¬ T.ks.length = 0 := fun h => h1 (.inr h)
      obtain ⟨d', rfl⟩ : ∃ d', d = d' + 1 := by
        cases d with
        | zero => exact absurd (show T.ks.length = 0 by rw [show T.ks = [] from hB]; rfl) hk
        | succ d' => exact ⟨d', rfl⟩
      have hp : plc co T.es key < T.ks.length := by
        have := plc_le co key T.es
        have := hB.1
        omega
      have hsp := split_at hp
      generalize hl : T.ks.take (plc co T.es key) = l at hsp
      generalize hr : T.ks.drop (plc co T.es key + 1) = r at hsp
      generalize hK : nth T.ks (plc co T.es key) = K at hsp
      have hll : l.length = plc co T.es key := by rw [← hl, List.length_take]; omega
      have hT : T = Fr.fill ⟨T.idx, T.es, l, r⟩ K := by
        have := T.eta
        rw [hsp] at this
        exact this
      have hbal : ∀ k ∈ T.ks, Bal lo hi d' k := hB.2
      have hBK : Bal lo hi d' K := hbal K (by rw [hsp]; simp)
      have hci : ((idxs T.ks).getD (plc co T.es key) 0).toNat = K.idx := by
        rw [hsp, idxs_app, idxs_cons, ← hll, ← idxs_len l, getD_mid]
        rfl
      rw [hci]
      have hctx : CtxOk lo hi rt d' (⟨T.idx, T.es, l, r⟩ :: C) := ⟨⟨fun k hk => hbal k (by rw [hsp]; simp [hk]), fun k hk => hbal k (by rw [hsp]; simp [hk])⟩, by
        show l.length + r.length = T.es.length
        have h9 := hB.1
        rw [hsp] at h9
        simp only [List.length_append, List.length_cons] at h9
        omega, hb, hC⟩
      have hb2 := bal_iff.1 hBK
      obtain ⟨D, T', d9, e1, e2, e3, e4, e5, e6, e7, e8, e9⟩ := desc f d' (⟨T.idx, T.es, l, r⟩ :: C) K (by
        show RepT ns (plug C (Fr.fill _ K))
        rw [← hT]
        exact hR) hctx hb2.1 ⟨fun h => (nomatch h), fun _ => hb2.2⟩ (by omega)
      refine ⟨D ++ [⟨T.idx, T.es, l, r⟩], T', d9, ?_, ?_, e3, ?_, ?_, ?_, e7, e8, fun g hg => ?_⟩
      · rw [plug_app, e1]
        exact hT.symm
      · rw [List.append_assoc]
        exact e2
      · rw [List.append_assoc]
        exact e4
      · simp only [List.length_append, List.length_singleton]
        omega
      · rw [e6]
        simp
      · rcases List.mem_append.1 hg with hg | hg
        · exact e9 g hg
        · rcases List.mem_singleton.1 hg
          exact ⟨hll, fun h => h1 (.inl h)⟩
theorem nodesL_mem {k : BT} : ∀ {ks : List BT}, k ∈ ks → k.nodes.length ≤ (nodesL ks).length
  | [], h => (nomatch h)
  | x :: ks, h => by
    rw [nodesL, List.length_append]
    rcases List.mem_cons.1 h with rfl | h
    · omega
    · have := nodesL_mem (ks := ks) h
      omega
theorem nodes_len (T : BT) : T.nodes.length = (nodesL T.ks).length + 1 := by
  cases T with
  | nd i es ks => rw [BT.nodes, List.length_cons]; rfl
theorem bel_deep {lo hi : Nat} : ∀ {d : Nat} {T : BT}, Bel lo hi d T → d + 1 ≤ T.nodes.length
  | 0, T, _ => by
    rw [nodes_len]
    omega
  | d + 1, T, h => by
    obtain ⟨k, ks, e⟩ : ∃ k ks, T.ks = k :: ks := by
      cases hk : T.ks with
      | nil =>
        have := h.1
        rw [hk] at this
        simp at this
      | cons k ks => exact ⟨k, ks, rfl⟩
    have hm : k ∈ T.ks := by rw [e]; exact List.mem_cons_self ..
    have h1 := bel_deep (bal_iff.1 (h.2 k hm)).1
    have h2 := nodesL_mem hm
    rw [nodes_len]
    omega
theorem RepT.nlen {ns : List Nd} {T : BT} (h : RepT ns T) : T.nodes.length ≤ ns.length := by
  have := nodup_le ns.length (T.nodes.map Prod.fst) h.nd fun x hx => by
    obtain ⟨p, hp, rfl⟩ := List.mem_map.1 hx
    exact RepN.lt h hp
  rwa [List.length_map] at this
section
variable {ns : List Nd} {mo : Int} {f : Fr} {C : List Fr} {i : Nat} {es : List TEnt} {ks : List BT}
theorem spl_at (h : RepT ns (plug (f :: C) (.nd i es ks))) : f.i < (splA mo ns i).length ∧ nth (splA mo ns i) f.i = ⟨true, f.es, idxs f.l ++ (i : Int) :: idxs f.r⟩ ∧ (i : Int) ∉ idxs f.l := by
  have h1 := (rep_splA (mo := mo) h).2
  have hk := splA_kids (mo := mo) h
  have hm : (f.i, (⟨true, f.es, idxs f.l ++ (i : Int) :: idxs f.r⟩ : Nd)) ∈ ((i, (⟨true, es.take (splM mo), (idxs ks).take (splM mo + 1)⟩ : Nd)) :: ((freN ns).1, ⟨true, es.drop (splM mo + 1), (idxs ks).drop (splM mo + 1)⟩) :: (ctxNodes (f :: C) i ++ nodesL ks)) := by
    refine List.mem_cons_of_mem _ (List.mem_cons_of_mem _ (List.mem_append_left _ ?_))
    rw [ctxNodes, Fr.nodes]
    exact List.mem_cons_self ..
  have h2 := h1.at_ hm
  refine ⟨h2.1, h2.2, fun hi => ?_⟩
  have h3 := (List.pairwise_flatMap.1 hk).1 _ hm
  exact (List.nodup_append.1 h3).2.2 _ hi _ (List.mem_cons_self ..) rfl
theorem splR_eq (h : RepT ns (plug (f :: C) (.nd i es ks))) (h0 : (plug (f :: C) (.nd i es ks)).idx = 0) : splR mo ns f.i i = splN mo ns i := by
  have hA : splRA mo ns i = splA mo ns i := by
    unfold splRA splA
    rw [h.frs h0]
  have h1 := spl_at (mo := mo) h
  have h2 := (rep_split (mo := mo) h).2.1
  unfold splR splN
  rw [hA, h2, h1.2.1, h.frs h0]
  simp only []
  have h3 := ixB_app (B := idxs f.r) h1.2.2
  unfold ixR
  rw [h3, if_pos (by simp), idxs_len]
theorem spl_ok {lo hi rt d : Nat} (h : RepT ns (plug (f :: C) (.nd i es ks))) (hC : CtxOk lo hi rt d (f :: C)) (hB : Bel lo hi d (.nd i es ks)) (hmo : 0 ≤ mo ∧ mo ≤ 1000) (hlen : ns.length ≤ 900) (hsm : Sm 900 ns) (hes : splM mo < es.length) : SpOk mo ns i := by
  have hat : i < ns.length ∧ nth ns i = ⟨true, es, idxs ks⟩ := RepT.at_ (T := .nd i es ks) h
  have h1 := spl_at (mo := mo) h
  have h2 := (rep_split (mo := mo) h).2.1
  have h3 := hC.2.1
  refine ⟨hmo, hlen, hsm, hat.1, by rw [hat.2], by rw [hat.2]; exact hes, ?_, ?_, ?_, ?_⟩
  · rw [hat.2]
    rcases hB.cs with hk | hk
    · left
      show (idxs ks).length = 0
      rw [show ks = [] from hk]
      rfl
    · right
      have : ks.length = es.length + 1 := hk
      show _ ≤ (idxs ks).length
      rw [idxs_len]
      omega
  · rw [h2]
    exact h1.1
  · rw [h2]
    simp only []
    rw [h1.2.1]
    show f.l.length ≤ f.es.length
    omega
  · rw [h2]
    simp only []
    rw [h1.2.1]
    simp only [List.length_append, List.length_cons, idxs_len]
    omega
theorem spr_ok (h : RepT ns (plug (f :: C) (.nd i es ks))) (h0 : (plug (f :: C) (.nd i es ks)).idx = 0) (hs : SpOk mo ns i) : SpROk mo ns f.i i := by
  have hA : splRA mo ns i = splA mo ns i := by
    unfold splRA splA
    rw [h.frs h0]
  have h1 := spl_at (mo := mo) h
  have h2 := (rep_split (mo := mo) h).2.1
  have h3 := ixB_app (B := idxs f.r) h1.2.2
  have hx : ixR (nth (splRA mo ns i) f.i).cs (i : Int) = f.l.length := by
    rw [hA, h1.2.1]
    unfold ixR
    simp only []
    rw [h3, if_pos (by simp), idxs_len]
  have hp : f.i < ns.length := by
    have := h.plug
    exact this.lt (p := (f.i, ⟨true, f.es, idxs f.l ++ (i : Int) :: idxs f.r⟩)) (List.mem_append_left _ (by rw [ctxNodes, Fr.nodes]; exact List.mem_cons_self ..))
  refine ⟨hs.mo0, hs.len, hs.sm, hs.lt, hs.us, hs.es, hs.cs, hp, ?_, ?_⟩
  · rw [hx, hA, h1.2.1]
    have := hs.parE
    rw [h2] at this
    simp only [] at this
    rw [h1.2.1] at this
    exact this
  · rw [hx, hA, h1.2.1]
    simp only [List.length_append, List.length_cons, idxs_len]
    omega
end
def NoGap (rt : Nat) (T : BT) : Prop := T.es = [] → ∀ k, T.ks = [k] → rt < k.es.length
def GapC (rt : Nat) : List Fr → Nat → Prop
  | [], _ => True
  | [f], n => f.es = [] → rt < n
  | f :: g :: C, _ => GapC rt (g :: C) f.es.length
theorem GapC.mono {rt : Nat} : ∀ {C : List Fr} {n m : Nat}, GapC rt C n → n ≤ m → GapC rt C m
  | [], _, _, _, _ => trivial
  | [f], n, m, h, hm => fun e => Nat.lt_of_lt_of_le (h e) hm
  | f :: g :: C, _, _, h, _ => h
theorem gapC_of {lo hi rt : Nat} : ∀ {D : List Fr} {d : Nat} {T : BT}, CtxOk lo hi rt d D → NoGap rt (plug D T) → GapC rt D T.es.length
  | [], _, T, _, _ => trivial
  | [f], _, T, hC, h => fun e => by
    have h1 := hC.2.1
    rw [e] at h1
    have hl : f.l = [] := List.eq_nil_of_length_eq_zero (by simp only [List.length_nil] at h1; omega)
    have hr : f.r = [] := List.eq_nil_of_length_eq_zero (by simp only [List.length_nil] at h1; omega)
    refine h e T ?_
    show f.l ++ T :: f.r = [T]
    rw [hl, hr]
    rfl
  | f :: g :: C, d, T, hC, h => gapC_of (D := g :: C) (T := f.fill T) hC.2.2.2 h
theorem take_rev {P A : List Nat} {x : Nat} (h : P.take (A.length + 1) = (x :: A).reverse) : nth P A.length = x ∧ P.take A.length = A.reverse := by
  rw [List.reverse_cons] at h
  constructor
  · apply nth_eq
    have h1 : (P.take (A.length + 1))[A.length]? = some x := by
      rw [h, List.getElem?_append_right (by simp)]
      simp
    rw [List.getElem?_take] at h1
    simpa using h1
  · have h1 : (P.take (A.length + 1)).take A.length = A.reverse := by
      rw [h, List.take_append_of_le_length (by simp), List.take_of_length_le (by simp)]
    rw [List.take_take] at h1
    rw [← h1]
    congr 1
    omega
theorem half_bal {mo : Int} {lo hi d i o : Nat} {es : List TEnt} {ks : List BT} (hmo : mo = (hi : Int)) (hlo : lo = hi / 2) (hB : Bel lo hi d (.nd i es ks)) (hl : es.length = hi + 1) :
    Bal lo hi d (.nd i (es.take (splM mo)) (ks.take (splM mo + 1))) ∧ Bal lo hi d (.nd o (es.drop (splM mo + 1)) (ks.drop (splM mo + 1))) := by
  have hm : splM mo = (hi + 1) / 2 := by unfold splM; omega
  rw [bal_iff, bal_iff]
  have e1 : lo ≤ (es.take (splM mo)).length ∧ (es.take (splM mo)).length ≤ hi := by rw [List.length_take]; omega
  have e2 : lo ≤ (es.drop (splM mo + 1)).length ∧ (es.drop (splM mo + 1)).length ≤ hi := by rw [List.length_drop]; omega
  refine ⟨⟨?_, e1⟩, ⟨?_, e2⟩⟩
  · cases d with
    | zero =>
      show ks.take _ = []
      rw [show ks = [] from hB, List.take_nil]
    | succ d =>
      have h1 : ks.length = es.length + 1 := hB.1
      refine ⟨?_, fun k hk => hB.2 k (List.mem_of_mem_take hk)⟩
      show (ks.take (splM mo + 1)).length = (es.take (splM mo)).length + 1
      rw [List.length_take, List.length_take]
      omega
  · cases d with
    | zero =>
      show ks.drop _ = []
      rw [show ks = [] from hB, List.drop_nil]
    | succ d =>
      have h1 : ks.length = es.length + 1 := hB.1
      refine ⟨?_, fun k hk => hB.2 k (List.mem_of_mem_drop hk)⟩
      show (ks.drop (splM mo + 1)).length = (es.drop (splM mo + 1)).length + 1
      rw [List.length_drop, List.length_drop]
      omega
theorem bel_split {mo : Int} {lo hi rt d i o : Nat} {f : Fr} {C : List Fr} {es : List TEnt} {ks : List BT} {up : TEnt} (hmo : mo = (hi : Int)) (hlo : lo = hi / 2) (hC : CtxOk lo hi rt d (f :: C)) (hB : Bel lo hi d (.nd i es ks)) (hl : es.length = hi + 1) :
    Bel lo hi (d + 1) (.nd f.i (insAt f.es f.l.length up) (f.l ++ .nd i (es.take (splM mo)) (ks.take (splM mo + 1)) :: .nd o (es.drop (splM mo + 1)) (ks.drop (splM mo + 1)) :: f.r)) := by
  have h1 := half_bal (o := o) hmo hlo hB hl
  have h2 := hC.2.1
  refine ⟨?_, fun k hk => ?_⟩
  · show (f.l ++ _ :: _ :: f.r).length = (insAt f.es f.l.length up).length + 1
    rw [ins_len (by omega)]
    simp only [List.length_append, List.length_cons]
    omega
  · rcases List.mem_append.1 hk with hk | hk
    · exact hC.1.1 k hk
    · rcases List.mem_cons.1 hk with rfl | hk
      · exact h1.1
      · rcases List.mem_cons.1 hk with rfl | hk
        · exact h1.2
        · exact hC.1.2 k hk
theorem flat_split {mo : Int} {lo hi rt d i o : Nat} {f : Fr} {C : List Fr} {es : List TEnt} {ks : List BT} (hC : CtxOk lo hi rt d (f :: C)) (hB : Bel lo hi d (.nd i es ks)) (hl : splM mo < es.length) :
    (BT.nd f.i (insAt f.es f.l.length (nth es (splM mo))) (f.l ++ .nd i (es.take (splM mo)) (ks.take (splM mo + 1)) :: .nd o (es.drop (splM mo + 1)) (ks.drop (splM mo + 1)) :: f.r)).flat = (f.fill (.nd i es ks)).flat := by
  rw [BT.flat, flatL_ins hC.2.1, BT.flat, BT.flat, flatL_split (splM mo) es ks hl hB.cs]
  show _ = (BT.nd f.i f.es (f.l ++ BT.nd i es ks :: f.r)).flat
  rw [BT.flat, flatL_mid _ _ _ _ hC.2.1, BT.flat]
def LastU (ns : List Nd) : Prop := (nth ns (ns.length - 1)).us = true
theorem us_set {ns : List Nd} {i : Nat} {x : Nd} (hx : x.us = (nth ns i).us) (k : Nat) : (nth (ns.set i x) k).us = (nth ns k).us := by
  rw [nth_set_nd]
  split
  · rename_i h
    rw [hx, h.1]
  · rfl
theorem us_es (ns : List Nd) (i : Nat) (es : List TEnt) (k : Nat) : (nth (esN ns i es) k).us = (nth ns k).us := us_set (x := { nth ns i with es := es }) rfl k
theorem us_cs (ns : List Nd) (i : Nat) (cs : List Int) (k : Nat) : (nth (csN ns i cs) k).us = (nth ns k).us := us_set (x := { nth ns i with cs := cs }) rfl k
theorem LastU.es {ns : List Nd} (h : LastU ns) (i : Nat) (es : List TEnt) : LastU (esN ns i es) := by
  unfold LastU
  rw [esN_len, us_es]
  exact h
theorem LastU.cs {ns : List Nd} (h : LastU ns) (i : Nat) (cs : List Int) : LastU (csN ns i cs) := by
  unfold LastU
  rw [csN_len, us_cs]
  exact h
theorem LastU.fre {ns : List Nd} (h : LastU ns) : LastU (freN ns).2 := by
  unfold freN
  split
  · unfold LastU usN
    simp only [List.length_set]
    rw [nth_set_nd]
    split
    · rfl
    · exact h
  · unfold LastU
    simp only [List.length_append, List.length_singleton, Nat.add_sub_cancel]
    rw [nth_mid']
theorem LastU.spl {ns : List Nd} (h : LastU ns) (mo : Int) (i : Nat) : LastU (splN mo ns i) := by
  unfold splN addP
  refine LastU.cs (LastU.es ?_ _ _) _ _
  unfold splA
  split
  · exact (h.fre.es _ _).es _ _
  · exact (((h.fre.es _ _).es _ _).cs _ _).cs _ _
theorem LastU.low {ns : List Nd} (h : LastU ns) : LastU (lowN ns).2 := by
  unfold lowN
  exact (((h.fre.es _ _).cs _ _).es _ _).cs _ _
structure Grown (mo : Int) (lo hi rt : Nat) (P : List Nat) (m k : Nat) (ns : List Nd) (W : List Nat) (fl : List TEnt) : Prop where
  ok : GrwOk mo ns W
  okR : GrwROk mo P k ns
  same : grwRW mo P k ns = grwW mo ns W
  tree : ∃ T d, RepT (grwW mo ns W) T ∧ T.idx = 0 ∧ Bel lo hi d T ∧ T.es.length ≤ rt + 1 ∧ NoGap rt T ∧ T.flat = fl
  sm : Sm (m + k) (grwW mo ns W)
  len : ns.length ≤ (grwW mo ns W).length ∧ (grwW mo ns W).length ≤ ns.length + k
  last : LastU (grwW mo ns W)
theorem grow_up {mo : Int} {lo hi rt : Nat} (hmo : mo = (hi : Int)) (hlo : lo = hi / 2) (hhi : hi ≤ 900) (hrt : rt ≤ hi) (P : List Nat) : ∀ (C : List Fr) (d m : Nat) (ns : List Nd) (T : BT), RepT ns (plug C T) → (plug C T).idx = 0 → CtxOk lo hi rt d C → Bel lo hi d T →
    ((C = [] → T.es.length ≤ rt + 1) ∧ (C ≠ [] → lo ≤ T.es.length ∧ T.es.length ≤ hi + 1)) → GapC rt C T.es.length → (C = [] → NoGap rt T) → Sm m ns → m + C.length ≤ 899 → ns.length + C.length ≤ 899 → LastU ns → P.take (C.length + 1) = (T.idx :: C.map Fr.i).reverse →
    Grown mo lo hi rt P m C.length ns (T.idx :: C.map Fr.i) (plug C T).flat
  | [], d, m, ns, T, hR, h0, hC, hB, hb, hg, hn, hs, hm, hl, hu, hP => by
    have h1 : T.idx = 0 := h0
    have hat := RepT.at_ (C := []) hR
    have e : grwW mo ns [T.idx] = ns := by
      show grw1 mo ns T.idx = ns
      unfold grw1
      rw [if_neg (fun h => by omega)]
    have hroot : RepT ns T := hR
    refine ⟨⟨⟨hat.1, fun h => by omega⟩, trivial⟩, trivial, e.symm, ?_, ?_, ?_, ?_⟩
    · show ∃ T' d', RepT (grwW mo ns [T.idx]) T' ∧ _
      rw [e]
      exact ⟨T, d, hroot, h1, hB, hb.1 rfl, hn rfl, rfl⟩
    · show Sm m (grwW mo ns [T.idx])
      rw [e]
      exact hs
    · show _ ≤ (grwW mo ns [T.idx]).length ∧ (grwW mo ns [T.idx]).length ≤ _
      rw [e]
      exact ⟨Nat.le_refl _, Nat.le_refl _⟩
    · show LastU (grwW mo ns [T.idx])
      rw [e]
      exact hu
  | f :: C, d, m, ns, .nd i es ks, hR, h0, hC, hB, hb, hg, hn, hs, hm, hl, hu, hP => by
    have hne : i ≠ 0 := by
      have := plug_ne hR (by simp)
      rw [h0] at this
      exact this
    have hat : i < ns.length ∧ nth ns i = ⟨true, es, idxs ks⟩ := RepT.at_ (T := .nd i es ks) hR
    have hb1 : lo ≤ es.length ∧ es.length ≤ hi + 1 := hb.2 (by simp)
    have hlen2 : (C.map Fr.i).length = C.length := by simp
    have hP1 := take_rev (A := f.i :: C.map Fr.i) (x := i) (by
      rw [List.length_cons, hlen2]
      exact hP)
    rw [List.length_cons, hlen2] at hP1
    have hP2 := take_rev (A := C.map Fr.i) (x := f.i) (by
      rw [hlen2]
      exact hP1.2)
    rw [hlen2] at hP2
    have hCl : (f :: C).length = C.length + 1 := rfl
    have hf := hC.2.2.1
    have hgC : ∀ n, f.es.length ≤ n → GapC rt C n := fun n hle => by
      cases C with
      | nil => trivial
      | cons g C' => exact GapC.mono (show GapC rt (g :: C') f.es.length from hg) hle
    have hlt9 : (nth ns (nth P (C.length + 1))).es.length = es.length := by rw [hP1.1, hat.2]
    by_cases hbig : es.length ≤ hi
    · -- it stays as it is
      have e1 : grw1 mo ns i = ns := by
        unfold grw1
        rw [if_neg (fun h => by rw [hat.2] at h; have := h.2; simp only [] at this; omega)]
      have hno : ¬ mo < ((nth ns (nth P (C.length + 1))).es.length : Int) := by rw [hlt9]; omega
      have ih := grow_up hmo hlo hhi hrt P C (d + 1) m ns (f.fill (.nd i es ks)) hR h0 hC.2.2.2 (bel_fill hC (bal_iff.2 ⟨hB, hb1.1, hbig⟩)) ⟨fun h => Nat.le_succ_of_le (hf.1 h), fun h => ⟨(hf.2 h).1, Nat.le_succ_of_le (hf.2 h).2⟩⟩ (hgC _ (Nat.le_refl _)) (fun h => by
        subst h
        intro e k hk
        have h9 : f.l ++ BT.nd i es ks :: f.r = [k] := hk
        cases hfl : f.l with
        | nil =>
          rw [hfl] at h9
          have : BT.nd i es ks = k := (List.cons.inj h9).1
          rw [← this]
          exact hg e
        | cons a b =>
          rw [hfl] at h9
          simp at h9) hs (by rw [hCl] at hm; omega) (by rw [hCl] at hl; omega) hu hP1.2
      have eW : grwW mo ns (i :: (f :: C).map Fr.i) = grwW mo ns ((f.fill (.nd i es ks)).idx :: C.map Fr.i) := by
        show grwW mo (grw1 mo ns i) _ = _
        rw [e1]
        rfl
      refine ⟨⟨⟨hat.1, fun _ (h : mo < ((nth ns i).es.length : Int)) => by rw [hat.2] at h; simp only [] at h; omega⟩, ?_⟩, ⟨⟨by rw [hP1.1]; exact hat.1, fun h => absurd h hno⟩, ?_⟩, ?_, ?_, ?_, ?_, ?_⟩
      · rw [show grw1 mo ns (BT.nd i es ks).idx = ns from e1]
        exact ih.ok
      · rw [if_neg hno]
        exact ih.okR
      · show grwRW mo P C.length (if _ then _ else _) = grwW mo ns (i :: (f :: C).map Fr.i)
        rw [if_neg hno, eW]
        exact ih.same
      · show ∃ T d, RepT (grwW mo ns (i :: (f :: C).map Fr.i)) T ∧ _
        rw [eW]
        exact ih.tree
      · show Sm _ (grwW mo ns (i :: (f :: C).map Fr.i))
        rw [eW]
        exact ih.sm.mono (by rw [hCl]; omega)
      · show _ ≤ (grwW mo ns (i :: (f :: C).map Fr.i)).length ∧ (grwW mo ns (i :: (f :: C).map Fr.i)).length ≤ _
        rw [eW]
        have := ih.len
        rw [hCl]
        omega
      · show LastU (grwW mo ns (i :: (f :: C).map Fr.i))
        rw [eW]
        exact ih.last
    · -- it is split
      have hle : es.length = hi + 1 := by omega
      have hmE : splM mo < es.length := by unfold splM; omega
      have hyes : mo < ((nth ns (nth P (C.length + 1))).es.length : Int) := by rw [hlt9]; omega
      have e1 : grw1 mo ns i = splN mo ns i := by
        unfold grw1
        rw [if_pos ⟨by omega, by rw [hat.2]; simp only []; omega⟩]
      have hok := spl_ok hR hC hB (by omega) (by omega) (hs.mono (by omega)) hmE
      have hokR := spr_ok hR h0 hok
      have hsR := splR_eq (mo := mo) hR h0
      have hsp := (rep_split (mo := mo) hR).2.2
      have hsl := splN_len mo ns i
      generalize hup : nth es (splM mo) = up at hsp
      have hflat := flat_split (mo := mo) (o := (freN ns).1) hC hB hmE
      rw [hup] at hflat
      have hbl := bel_split (o := (freN ns).1) (up := up) hmo hlo hC hB hle
      have hil : (insAt f.es f.l.length up).length = f.es.length + 1 := ins_len (by have := hC.2.1; omega)
      generalize hT2 : BT.nd f.i (insAt f.es f.l.length up) (f.l ++ BT.nd i (es.take (splM mo)) (ks.take (splM mo + 1)) :: BT.nd (freN ns).1 (es.drop (splM mo + 1)) (ks.drop (splM mo + 1)) :: f.r) = T2 at hsp hflat hbl
      have hT2i : T2.idx = f.i := by rw [← hT2]; rfl
      have hT2e : T2.es.length = f.es.length + 1 := by rw [← hT2]; exact hil
      have ih := grow_up hmo hlo hhi hrt P C (d + 1) (m + 1) (splN mo ns i) T2 hsp (by
        rw [plug_idx C T2 (f.fill (.nd i es ks)) hT2i]
        exact h0) hC.2.2.2 hbl ⟨fun h => by rw [hT2e]; have := hf.1 h; omega, fun h => by rw [hT2e]; have := hf.2 h; omega⟩ (hgC _ (by omega)) (fun h e => by rw [e] at hT2e; simp at hT2e) (hs.spl mo i) (by rw [hCl] at hm; omega) (by rw [hCl] at hl; omega) (hu.spl mo i) (by rw [hT2i]; exact hP1.2)
      have eW : grwW mo ns (i :: (f :: C).map Fr.i) = grwW mo (splN mo ns i) (T2.idx :: C.map Fr.i) := by
        show grwW mo (grw1 mo ns i) _ = _
        rw [e1, hT2i]
        rfl
      have hpf : (plug C T2).flat = (plug (f :: C) (.nd i es ks)).flat := by
        show _ = (plug C (f.fill (.nd i es ks))).flat
        rw [plug_flat hC.2.2.2, plug_flat hC.2.2.2, hflat]
      refine ⟨⟨⟨hat.1, fun _ _ => hok⟩, ?_⟩, ⟨⟨by rw [hP1.1]; exact hat.1, fun _ => by rw [hP1.1, hP2.1]; exact hokR⟩, ?_⟩, ?_, ?_, ?_, ?_, ?_⟩
      · rw [show grw1 mo ns (BT.nd i es ks).idx = splN mo ns i from e1]
        have := ih.ok
        rw [hT2i] at this
        exact this
      · rw [if_pos hyes, hP1.1, hP2.1, hsR]
        exact ih.okR
      · show grwRW mo P C.length (if _ then _ else _) = grwW mo ns (i :: (f :: C).map Fr.i)
        rw [if_pos hyes, hP1.1, hP2.1, hsR, eW]
        exact ih.same
      · show ∃ T d, RepT (grwW mo ns (i :: (f :: C).map Fr.i)) T ∧ _
        rw [eW, ← hpf]
        exact ih.tree
      · show Sm _ (grwW mo ns (i :: (f :: C).map Fr.i))
        rw [eW]
        exact ih.sm.mono (by rw [hCl]; omega)
      · show _ ≤ (grwW mo ns (i :: (f :: C).map Fr.i)).length ∧ (grwW mo ns (i :: (f :: C).map Fr.i)).length ≤ _
        rw [eW]
        have := ih.len
        rw [hCl]
        omega
      · show LastU (grwW mo ns (i :: (f :: C).map Fr.i))
        rw [eW]
        exact ih.last
def Srt (co : Int) (l : List TEnt) : Prop := l.Pairwise fun a b => cmpK co a.key b.key < 0
theorem cmpK_anti {co : Int} {a b : List UInt8} (h : ¬ cmpK co a b < 0) (h2 : cmpK co a b ≠ 0) : cmpK co b a < 0 := by
  have := cmpK_swap co a b
  omega
theorem Srt.asc {co : Int} {l : List TEnt} (h : Srt co l) : Asc co l := fun k hk => by
  have := List.pairwise_iff_getElem.1 h k (k + 1) (by omega) hk (by omega)
  rw [show nth l k = l[k] from nth_eq (List.getElem?_eq_getElem (by omega)), show nth l (k + 1) = l[k + 1] from nth_eq (List.getElem?_eq_getElem hk)]
  exact this
theorem plc_app1 {co : Int} {key : List UInt8} : ∀ {A l : List TEnt}, (∀ x ∈ A, cmpK co x.key key < 0) → plc co (A ++ l) key = A.length + plc co l key
  | [], l, _ => by simp
  | a :: A, l, h => by
    rw [List.cons_append, plc, if_pos (h a (List.mem_cons_self ..)), plc_app1 fun x hx => h x (List.mem_cons_of_mem _ hx), List.length_cons]
    omega
theorem plc_app2 {co : Int} {key : List UInt8} : ∀ {l B : List TEnt}, (∀ x ∈ B, cmpK co key x.key < 0) → plc co (l ++ B) key = plc co l key
  | [], [], _ => rfl
  | [], b :: B, h => by
    have h1 := h b (List.mem_cons_self ..)
    have h2 := cmpK_swap co b.key key
    show plc co (b :: B) key = 0
    rw [plc, if_neg (by omega)]
  | a :: l, B, h => by
    rw [List.cons_append, plc, plc, plc_app2 h]
theorem insAt_app {α : Type} {A l B : List α} {p : Nat} {x : α} (hp : p ≤ l.length) : insAt (A ++ (l ++ B)) (A.length + p) x = A ++ (insAt l p x ++ B) := by
  unfold insAt
  rw [List.take_length_add_append, List.drop_length_add_append, List.take_append_of_le_length hp, List.drop_append_of_le_length hp]
  simp only [List.append_assoc, List.cons_append]
def HasK (co : Int) (l : List TEnt) (key : List UInt8) : Prop := ∃ y ∈ l, cmpK co y.key key = 0
theorem hasK_fnd {co : Int} {key : List UInt8} : ∀ {l : List TEnt}, Srt co l → (HasK co l key ↔ fnd co l key = true)
  | [], _ => by simp [HasK, fnd]
  | y :: l, h => by
    have hp := List.pairwise_cons.1 h
    have ih := hasK_fnd (key := key) hp.2
    unfold fnd at ih ⊢
    rw [plc]
    by_cases h1 : cmpK co y.key key < 0
    · rw [if_pos h1]
      have e : nth (y :: l) (plc co l key + 1) = nth l (plc co l key) := rfl
      rw [e, List.length_cons]
      have hh : HasK co (y :: l) key ↔ HasK co l key := by
        constructor
        · rintro ⟨z, hz, h2⟩
          rcases List.mem_cons.1 hz with rfl | hz
          · omega
          · exact ⟨z, hz, h2⟩
        · rintro ⟨z, hz, h2⟩
          exact ⟨z, List.mem_cons_of_mem _ hz, h2⟩
      rw [hh, ih]
      simp
    · rw [if_neg h1]
      have e : nth (y :: l) 0 = y := rfl
      rw [e]
      simp only [List.length_cons, Nat.zero_lt_succ, decide_true, Bool.true_and, decide_eq_true_eq]
      constructor
      · rintro ⟨z, hz, h2⟩
        rcases List.mem_cons.1 hz with rfl | hz
        · exact h2
        · exfalso
          have h3 := hp.1 z hz
          by_cases h4 : cmpK co y.key key = 0
          · have h5 := cmpK_eq.1 h4
            have h6 := cmpK_eq.1 h2
            have h7 := cmpK_eq.2 (h5.trans h6.symm)
            omega
          · have h5 := cmpK_anti h1 h4
            have h6 := cmpK_trans h5 h3
            have h7 := cmpK_swap co z.key key
            omega
      · intro h2
        exact ⟨y, List.mem_cons_self .., h2⟩
theorem srt_ins {co : Int} {x : TEnt} : ∀ {l : List TEnt}, Srt co l → ¬ HasK co l x.key → Srt co (insAt l (plc co l x.key) x)
  | [], _, _ => by
    show Srt co [x]
    simp [Srt]
  | y :: l, h, hn => by
    have hp := List.pairwise_cons.1 h
    have ih := srt_ins (x := x) hp.2 fun ⟨z, hz, h2⟩ => hn ⟨z, List.mem_cons_of_mem _ hz, h2⟩
    rw [plc]
    by_cases h1 : cmpK co y.key x.key < 0
    · rw [if_pos h1]
      show Srt co (y :: insAt l (plc co l x.key) x)
      refine List.pairwise_cons.2 ⟨fun z hz => ?_, ih⟩
      unfold insAt at hz
      rcases List.mem_append.1 hz with hz | hz
      · exact hp.1 z (List.mem_of_mem_take hz)
      · rcases List.mem_cons.1 hz with rfl | hz
        · exact h1
        · exact hp.1 z (List.mem_of_mem_drop hz)
    · rw [if_neg h1]
      show Srt co (x :: y :: l)
      have h2 := cmpK_anti h1 fun h2 => hn ⟨y, List.mem_cons_self .., h2⟩
      refine List.pairwise_cons.2 ⟨fun z hz => ?_, h⟩
      rcases List.mem_cons.1 hz with rfl | hz
      · exact h2
      · exact cmpK_trans h2 (hp.1 z hz)
theorem flatA_lt {co : Int} {key : List UInt8} : ∀ {es : List TEnt} {l : List BT}, Srt co (flatA es l) → l.length ≤ es.length → (∀ j, j < l.length → cmpK co (nth es j).key key < 0) → ∀ x ∈ flatA es l, cmpK co x.key key < 0
  | es, [], _, _, _, x, hx => by
    have e : flatA es [] = [] := by cases es <;> rfl
    rw [e] at hx
    cases hx
  | [], k :: l, _, h, _, x, hx => absurd h (by simp)
  | e :: es, k :: l, hs, hl, h, x, hx => by
    rw [flatA] at hs hx
    have h1 := List.pairwise_append.1 hs
    have he : cmpK co e.key key < 0 := h 0 (by simp)
    rcases List.mem_append.1 hx with hx | hx
    · exact cmpK_trans (h1.2.2 x hx e (List.mem_cons_self ..)) he
    · rcases List.mem_cons.1 hx with rfl | hx
      · exact he
      · exact flatA_lt (List.pairwise_cons.1 h1.2.1).2 (by simpa using hl) (fun j hj => h (j + 1) (by simpa using hj)) x hx
theorem pre_lt {co : Int} {key : List UInt8} {lo hi rt : Nat} : ∀ {D : List Fr} {d : Nat}, CtxOk lo hi rt d D → Leads co key D → Srt co (preC D) → ∀ x ∈ preC D, cmpK co x.key key < 0
  | [], _, _, _, _, x, hx => (nomatch hx)
  | f :: D, d, hC, hL, hs, x, hx => by
    rw [preC] at hs hx
    have h1 := List.pairwise_append.1 hs
    have hf := hL f (List.mem_cons_self ..)
    have hlen := hC.2.1
    rcases List.mem_append.1 hx with hx | hx
    · exact pre_lt hC.2.2.2 (fun g hg => hL g (List.mem_cons_of_mem _ hg)) h1.1 x hx
    · exact flatA_lt h1.2.1 (by omega) (fun j hj => plc_before co key f.es j (by omega)) x hx
theorem suf_gt {co : Int} {key : List UInt8} {lo hi rt : Nat} : ∀ {D : List Fr} {d : Nat}, CtxOk lo hi rt d D → Leads co key D → Srt co (sufC D) → ∀ x ∈ sufC D, cmpK co key x.key < 0
  | [], _, _, _, _, x, hx => (nomatch hx)
  | f :: D, d, hC, hL, hs, x, hx => by
    rw [sufC] at hs hx
    have h1 := List.pairwise_append.1 hs
    have hf := hL f (List.mem_cons_self ..)
    rcases List.mem_append.1 hx with hx | hx
    · rcases Nat.lt_or_ge f.l.length f.es.length with h2 | h2
      · have e : f.es.drop f.l.length = nth f.es f.l.length :: f.es.drop (f.l.length + 1) := by
          rw [List.drop_eq_getElem_cons h2, show nth f.es f.l.length = f.es[f.l.length] from nth_eq (List.getElem?_eq_getElem h2)]
        have hgt : cmpK co key (nth f.es f.l.length).key < 0 := by
          refine cmpK_anti ?_ fun h3 => ?_
          · rw [hf.1] at h2 ⊢
            exact plc_at co key f.es h2
          · refine hf.2 ?_
            unfold fnd
            rw [← hf.1, decide_eq_true h2, decide_eq_true h3]
            rfl
        rw [e] at hx h1
        cases hr : f.r with
        | nil =>
          rw [hr] at hx
          cases hx
        | cons k r =>
          rw [hr] at hx h1
          rw [flatZ] at hx h1
          rcases List.mem_cons.1 hx with rfl | hx
          · exact hgt
          · exact cmpK_trans hgt ((List.pairwise_cons.1 h1.1).1 x hx)
      · rw [List.drop_of_length_le h2] at hx
        cases hx
    · exact suf_gt hC.2.2.2 (fun g hg => hL g (List.mem_cons_of_mem _ hg)) h1.2.1 x hx
structure Sz (mo rm : Int) (lo hi rt : Nat) : Prop where
  emo : mo = (hi : Int)
  erm : rm = (rt : Int)
  elo : lo = hi / 2
  hi3 : 3 ≤ hi
  hi8 : hi ≤ 8
  lr : lo ≤ rt
  rh : rt ≤ hi
theorem sz_of {mo rm : Int} (h : sizE mo rm = 0) : Sz mo rm (mo.toNat / 2) mo.toNat rm.toNat := by
  have h1 := sizE_0 h
  constructor <;> omega
structure VT (co : Int) (lo hi rt d : Nat) (T : BT) : Prop where
  idx : T.idx = 0
  bel : Bel lo hi d T
  root : T.es.length ≤ rt
  gap : NoGap rt T
  srt : Srt co T.flat
  ents : ∀ x ∈ T.flat, entE co x = 0
theorem nodesL_in {k : BT} {p : Nat × Nd} : ∀ {ks : List BT}, p ∈ nodesL ks → ∃ k ∈ ks, p ∈ k.nodes
  | [], h => by
    rw [nodesL] at h
    cases h
  | x :: ks, h => by
    rw [nodesL] at h
    rcases List.mem_append.1 h with h | h
    · exact ⟨x, List.mem_cons_self .., h⟩
    · obtain ⟨k, hk, h2⟩ := nodesL_in (k := k) h
      exact ⟨k, List.mem_cons_of_mem _ hk, h2⟩
theorem nodes_sm {lo hi : Nat} : ∀ {d : Nat} {T : BT}, Bel lo hi d T → ∀ {n : Nat}, hi ≤ n → T.es.length ≤ n → ∀ p ∈ T.nodes, p.2.es.length ≤ n + 1 ∧ p.2.cs.length ≤ n + 1
  | 0, .nd i es ks, h, n, hn, hl, p, hp => by
    have e : ks = [] := h
    rw [e, BT.nodes, nodesL] at hp
    rcases List.mem_cons.1 hp with rfl | hp
    · exact ⟨Nat.le_succ_of_le hl, by show 0 ≤ _; omega⟩
    · cases hp
  | d + 1, .nd i es ks, h, n, hn, hl, p, hp => by
    rw [BT.nodes] at hp
    have hl' : es.length ≤ n := hl
    have h1 : ks.length = es.length + 1 := h.1
    rcases List.mem_cons.1 hp with rfl | hp
    · refine ⟨Nat.le_succ_of_le hl, ?_⟩
      show (idxs ks).length ≤ _
      rw [idxs_len]
      omega
    · obtain ⟨k, hk, hp⟩ := nodesL_in (k := default) hp
      have h2 := bal_iff.1 (h.2 k hk)
      exact nodes_sm h2.1 hn (by omega) p hp
theorem RepT.sm {ns : List Nd} {T : BT} {lo hi d n : Nat} (h : RepT ns T) (hB : Bel lo hi d T) (hn : hi ≤ n) (hl : T.es.length ≤ n) : Sm (n + 1) ns := fun k => by
  rcases Nat.lt_or_ge k ns.length with hk | hk
  · by_cases hm : k ∈ T.nodes.map Prod.fst
    · obtain ⟨p, hp, rfl⟩ := List.mem_map.1 hm
      have h1 := RepN.at_ (i := p.1) (x := p.2) h hp
      rw [h1.2]
      exact nodes_sm hB hn hl p hp
    · rw [h.rest k hk hm]
      exact ⟨Nat.zero_le _, Nat.zero_le _⟩
  · rw [nth_out hk]
    exact ⟨Nat.zero_le _, Nat.zero_le _⟩
theorem lowR_low {ns : List Nd} {T : BT} (h : RepT ns T) (h0 : T.idx = 0) : lowR ns = lowN ns := by
  have hr := h.root
  rw [h0] at hr
  unfold lowR lowN
  rw [h.frs h0, freN_nth hr.1 (by rw [hr.2])]
structure RootGrown (mo rm : Int) (lo hi rt m : Nat) (ns : List Nd) (fl : List TEnt) : Prop where
  ok : RootOk mo rm ns
  okR : RootROk mo rm ns
  same : grwRR mo rm ns = grwR mo rm ns
  tree : ∃ T d, RepT (grwR mo rm ns) T ∧ T.idx = 0 ∧ Bel lo hi d T ∧ T.es.length ≤ rt ∧ NoGap rt T ∧ T.flat = fl
  len : ns.length ≤ (grwR mo rm ns).length ∧ (grwR mo rm ns).length ≤ ns.length + 2
  last : LastU (grwR mo rm ns)
theorem grow_root {mo rm : Int} {lo hi rt d m : Nat} {ns : List Nd} {T : BT} (hz : Sz mo rm lo hi rt) (hR : RepT ns T) (h0 : T.idx = 0) (hB : Bel lo hi d T) (hb : T.es.length ≤ rt + 1) (hg : NoGap rt T) (hs : Sm m ns) (hm : 1 ≤ m ∧ m ≤ 880) (hl : ns.length ≤ 880) (hu : LastU ns) : RootGrown mo rm lo hi rt m ns T.flat := by
  cases T with
  | nd i es ks =>
  have hi0 : i = 0 := h0
  subst hi0
  have hmo := hz.emo; have hrm := hz.erm; have hlo := hz.elo; have hi3 := hz.hi3; have hi8 := hz.hi8; have hlr := hz.lr; have hrh := hz.rh
  have hat : 0 < ns.length ∧ nth ns 0 = ⟨true, es, idxs ks⟩ := RepT.root hR
  have hb' : es.length ≤ rt + 1 := hb
  have hlow := lowR_low hR h0
  have hrl := (rep_low hR).2
  have hrl2 : RepT (lowN ns).2 (plug [⟨0, [], [], []⟩] (.nd (freN ns).1 es ks)) := hrl
  have hown : (lowN ns).1 < (lowN ns).2.length ∧ nth (lowN ns).2 (lowN ns).1 = ⟨true, es, idxs ks⟩ := RepT.at_ hrl2
  have hC : CtxOk lo hi rt d [⟨0, [], [], []⟩] := ⟨⟨fun k hk => (nomatch hk), fun k hk => (nomatch hk)⟩, rfl, ⟨fun _ => Nat.zero_le _, fun h => absurd rfl h⟩, trivial⟩
  have hll := lowN_len ns
  have hsl : Sm 900 (lowN ns).2 := (hs.low hm.1).mono (by omega)
  have hspl : splM mo < es.length → SpOk mo (lowN ns).2 (lowN ns).1 := fun h => spl_ok hrl2 hC (show Bel lo hi d (.nd (freN ns).1 es ks) by cases d <;> exact hB) (by omega) (by omega) hsl h
  have hsplR : SpOk mo (lowN ns).2 (lowN ns).1 → SpROk mo (lowN ns).2 0 (lowN ns).1 := fun h => spr_ok hrl2 rfl h
  have hspE : splR mo (lowN ns).2 0 (lowN ns).1 = splN mo (lowN ns).2 (lowN ns).1 := splR_eq (mo := mo) hrl2 rfl
  have hbig : mo < ((nth (lowN ns).2 (lowN ns).1).es.length : Int) → splM mo < es.length := fun h => by
    rw [hown.2] at h
    simp only [] at h
    unfold splM
    omega
  have hnB : Bel lo hi d (.nd (freN ns).1 es ks) := by cases d <;> exact hB
  refine ⟨⟨hat.1, by omega, by rw [hat.2], fun _ h => hspl (hbig h)⟩, ⟨hat.1, by omega, by rw [hat.2], fun _ h => by rw [hlow] at h ⊢; exact hsplR (hspl (hbig h))⟩, ?_, ?_, ?_, ?_⟩
  · unfold grwRR grwR
    rw [hlow, hspE]
  · unfold grwR
    rw [hat.2, hown.2]
    simp only []
    by_cases h1 : rm < (es.length : Int)
    · rw [if_pos h1]
      by_cases h2 : mo < (es.length : Int)
      · rw [if_pos h2]
        have hsp := (rep_split (mo := mo) hrl2).2.2
        have hE : splM mo < es.length := by unfold splM; omega
        have hle : es.length = hi + 1 := by omega
        refine ⟨_, d + 1, hsp, rfl, bel_split hmo hlo hC hnB hle, ?_, fun e => ?_, ?_⟩
        · show (insAt ([] : List TEnt) 0 _).length ≤ rt
          rw [ins_len (Nat.zero_le _)]
          simp only [List.length_nil]
          omega
        · exfalso
          have e2 : (insAt ([] : List TEnt) 0 (nth es (splM mo))).length = 0 := congrArg List.length e
          rw [ins_len (Nat.zero_le _)] at e2
          simp at e2
        · have hf := flat_split (mo := mo) (o := (freN (lowN ns).2).1) hC hnB hE
          refine hf.trans ?_
          show (BT.nd 0 [] [BT.nd (freN ns).1 es ks]).flat = _
          rw [BT.flat, flatL, flatL, List.append_nil, BT.flat, BT.flat]
      · rw [if_neg h2]
        refine ⟨_, d + 1, hrl, rfl, ⟨rfl, fun k hk => ?_⟩, Nat.zero_le _, fun _ k hk => ?_, ?_⟩
        · rcases List.mem_singleton.1 hk
          exact bal_iff.2 ⟨hnB, by show lo ≤ es.length ∧ es.length ≤ hi; omega⟩
        · have : BT.nd (freN ns).1 es ks = k := (List.cons.inj hk).1
          rw [← this]
          show rt < es.length
          omega
        · rw [BT.flat, flatL, flatL, List.append_nil, BT.flat, BT.flat]
    · rw [if_neg h1]
      exact ⟨_, d, hR, rfl, hB, by show es.length ≤ rt; omega, hg, rfl⟩
  · unfold grwR
    split
    · split
      · have := splN_len mo (lowN ns).2 (lowN ns).1
        omega
      · omega
    · omega
  · unfold grwR
    split
    · split
      · exact hu.low.spl _ _
      · exact hu.low
    · exact hu
theorem vt_desc {co : Int} {lo hi rt d : Nat} {ns : List Nd} {T : BT} (hR : RepT ns T) (hV : VT co lo hi rt d T) (key : List UInt8) : ∃ D T' d', plug D T' = T ∧ CtxOk lo hi rt d' D ∧ Bel lo hi d' T' ∧ ((D = [] → T'.es.length ≤ rt) ∧ (D ≠ [] → lo ≤ T'.es.length ∧ T'.es.length ≤ hi)) ∧ d' + D.length = d ∧ d < ns.length ∧
    (pathN co ns key).1 = (D.map Fr.i).reverse ++ [T'.idx] ∧ (pathN co ns key).2 = (plc co T'.es key, fnd co T'.es key) ∧ (fnd co T'.es key = true ∨ T'.ks = []) ∧ Leads co key D := by
  have h1 := bel_deep hV.bel
  have h2 := hR.nlen
  obtain ⟨D, T', d', e1, e2, e3, e4, e5, e6, e7, e8, e9⟩ := desc (key := key) (rt := rt) (co := co) ns.length d [] T hR trivial hV.bel ⟨fun _ => hV.root, fun h => absurd rfl h⟩ (by omega)
  rw [hV.idx] at e6 e7
  simp only [List.append_nil] at e2 e4
  exact ⟨D, T', d', e1, e2, e3, e4, e5, by omega, e6, e7, e8, e9⟩
theorem last_app (A : List Nat) (i : Nat) : lastN (A ++ [i]) = i := by
  unfold lastN
  rw [List.length_append, List.length_singleton, Nat.add_sub_cancel]
  exact nth_mid' A i []
structure Inserted (co mo rm : Int) (lo hi rt : Nat) (ns : List Nd) (x : TEnt) (fl : List TEnt) : Prop where
  ok : InsOk co mo rm ns x
  okR : InsROk co mo rm ns x
  same : insR co mo rm ns x = insT co mo rm ns x
  tree : ∃ T d, RepT (insT co mo rm ns x) T ∧ VT co lo hi rt d T ∧ T.flat = insAt fl (plc co fl x.key) x
  len : ns.length ≤ (insT co mo rm ns x).length ∧ (insT co mo rm ns x).length ≤ 2 * ns.length + 2
  last : LastU (insT co mo rm ns x)
theorem es_sub : ∀ (es : List TEnt) (ks : List BT), es.Sublist (flatL es ks)
  | es, [] => by rw [flatL_nil]; exact List.Sublist.refl _
  | [], k :: ks => List.nil_sublist _
  | e :: es, k :: ks => by
    rw [flatL]
    exact ((es_sub es ks).cons_cons e).trans (List.sublist_append_right _ _)
theorem path_has {co : Int} {lo hi rt d : Nat} {ns : List Nd} {T : BT} (hR : RepT ns T) (hV : VT co lo hi rt d T) (key : List UInt8) : (pathN co ns key).2.2 = true ↔ HasK co T.flat key := by
  obtain ⟨D, T', d', e1, e2, e3, e4, e5, e6, e7, e8, e9, e10⟩ := vt_desc hR hV key
  have hfl : T.flat = preC D ++ (T'.flat ++ sufC D) := by rw [← e1]; exact plug_flat e2
  have hs := hV.srt
  rw [hfl] at hs
  have h1 := List.pairwise_append.1 hs
  have h2 := List.pairwise_append.1 h1.2.1
  rw [e8, hfl]
  simp only []
  cases T' with
  | nd i es ks =>
  constructor
  · intro h
    have hsub := es_sub es ks
    have hses : Srt co es := h2.1.sublist (by rw [BT.flat]; exact hsub)
    obtain ⟨y, hy, hc⟩ := (hasK_fnd hses).2 h
    exact ⟨y, List.mem_append_right _ (List.mem_append_left _ (by rw [BT.flat]; exact hsub.subset hy)), hc⟩
  · intro h
    rcases e9 with h9 | h9
    · exact h9
    · have hk : ks = [] := h9
      subst hk
      obtain ⟨y, hy, hc⟩ := h
      rw [flat_leaf] at hy h2
      refine (hasK_fnd (show Srt co es from h2.1)).1 ?_
      rcases List.mem_append.1 hy with hy | hy
      · have := pre_lt e2 e10 h1.1 y hy
        omega
      · rcases List.mem_append.1 hy with hy | hy
        · exact ⟨y, hy, hc⟩
        · have := suf_gt e2 e10 h2.2.1 y hy
          have := cmpK_swap co y.key key
          omega
theorem ins_all {co mo rm : Int} {lo hi rt d : Nat} {ns : List Nd} {T : BT} {x : TEnt} (hz : Sz mo rm lo hi rt) (hR : RepT ns T) (hV : VT co lo hi rt d T) (hl : ns.length ≤ 400) (hu : LastU ns) (hx : entE co x = 0) (hnf : ¬ (pathN co ns x.key).2.2 = true) : Inserted co mo rm lo hi rt ns x T.flat := by
  have hnk : ¬ HasK co T.flat x.key := fun h => hnf ((path_has hR hV x.key).2 h)
  have hsmT := hR.sm hV.bel (Nat.le_refl hi) (Nat.le_trans hV.root hz.rh)
  obtain ⟨D, T', d', e1, e2, e3, e4, e5, e6, e7, e8, e9, e10⟩ := vt_desc hR hV x.key
  rw [e8] at hnf
  have hks : T'.ks = [] := e9.resolve_left hnf
  cases T' with
  | nd i es ks =>
  have hk0 : ks = [] := hks
  subst hk0
  have hi8 := hz.hi8; have hi3 := hz.hi3; have hrh := hz.rh
  have hR1 : RepT ns (plug D (.nd i es [])) := by rw [e1]; exact hR
  have hat : i < ns.length ∧ nth ns i = ⟨true, es, []⟩ := RepT.at_ hR1
  have hfl : T.flat = preC D ++ (es ++ sufC D) := by rw [← e1, plug_flat e2, flat_leaf]
  have hsr := hV.srt
  rw [hfl] at hsr
  have hs1 := List.pairwise_append.1 hsr
  have hs2 := List.pairwise_append.1 hs1.2.1
  have hple := plc_le co x.key es
  have hb4 : es.length ≤ hi := by
    by_cases hD : D = []
    · have : es.length ≤ rt := e4.1 hD
      omega
    · exact (e4.2 hD).2
  have hlf : lastN (pathN co ns x.key).1 = i := by rw [e7]; exact last_app _ _
  have hlf2 : leafN co ns x.key = i := hlf
  have hpl : (pathN co ns x.key).2.1 = plc co es x.key := by rw [e8]; rfl
  have hinsB : insB co ns x = esN ns i (insAt es (plc co es x.key) x) := by
    unfold insB
    rw [hlf2, hpl, hat.2]
  have hPl : (pathN co ns x.key).1.length = D.length + 1 := by rw [e7]; simp
  have hPr : (pathN co ns x.key).1.reverse = i :: D.map Fr.i := by
    rw [e7]
    simp
    rfl
  have hidx : (plug D (.nd i (insAt es (plc co es x.key) x) [])).idx = 0 := by
    rw [plug_idx D (.nd i (insAt es (plc co es x.key) x) []) (.nd i es []) rfl, e1]
    exact hV.idx
  have hgc : GapC rt D es.length := gapC_of (T := .nd i es []) e2 (by rw [e1]; exact hV.gap)
  have hil : (insAt es (plc co es x.key) x).length = es.length + 1 := ins_len hple
  have hG := grow_up (lo := lo) (hi := hi) (rt := rt) hz.emo hz.elo (by omega) hz.rh (pathN co ns x.key).1 D d' (hi + 2) (esN ns i (insAt es (plc co es x.key) x)) (.nd i (insAt es (plc co es x.key) x) []) (rep_es hR1 _) hidx e2 (show Bel lo hi d' (.nd i _ []) by
      have := e3.leaf rfl
      subst this
      rfl) ⟨fun h => by show (insAt es _ x).length ≤ _; rw [hil]; have := e4.1 h; exact Nat.succ_le_succ this, fun h => by show lo ≤ (insAt es _ x).length ∧ (insAt es _ x).length ≤ _; rw [hil]; have h9 := e4.2 h; exact ⟨Nat.le_succ_of_le h9.1, Nat.succ_le_succ h9.2⟩⟩ (hgc.mono (by show es.length ≤ (insAt es _ x).length; omega)) (fun _ e => by
        intro k hk
        cases hk) ((hsmT.mono (by omega)).es i (by rw [hil]; omega)) (by omega) (by rw [esN_len]; omega) (hu.es _ _) (by
        show (pathN co ns x.key).1.take (D.length + 1) = (i :: D.map Fr.i).reverse
        rw [← hPl, List.take_length, ← hPr, List.reverse_reverse])
  have hfl2 : (plug D (.nd i (insAt es (plc co es x.key) x) [])).flat = insAt T.flat (plc co T.flat x.key) x := by
    rw [plug_flat e2, flat_leaf, hfl, plc_app1 (pre_lt e2 e10 hs1.1), plc_app2 (suf_gt e2 e10 hs2.2.1), insAt_app hple]
  rw [hfl2] at hG
  have hsrt := srt_ins (x := x) hV.srt hnk
  obtain ⟨T1, d1, g1, g2, g3, g4, g5, g6⟩ := hG.tree
  have hglen := hG.len
  rw [esN_len] at hglen
  have hRt := grow_root hz g1 g2 g3 g4 g5 hG.sm (by omega) (by omega) hG.last
  rw [g6] at hRt
  have hiT : insT co mo rm ns x = grwR mo rm (grwW mo (esN ns i (insAt es (plc co es x.key) x)) (i :: D.map Fr.i)) := by
    unfold insT
    rw [if_neg (by rw [e8]; exact hnf), hinsB, hPr]
    rfl
  have hesR : esN ns (lastN (pathN co ns x.key).1) (insAt (nth ns (lastN (pathN co ns x.key).1)).es (plc co (nth ns (lastN (pathN co ns x.key).1)).es x.key) x) = esN ns i (insAt es (plc co es x.key) x) := by
    rw [hlf, hat.2]
  have hsub : (pathN co ns x.key).1.length - 1 = D.length := by omega
  refine ⟨⟨by omega, by omega, by rw [hlf2]; exact hat.1, by rw [hlf2, hat.2]; show es.length ≤ 900; omega, by rw [hlf2, hat.2, hpl]; exact hple, by rw [hinsB, hPr]; exact hG.ok, by rw [hinsB, hPr]; exact hRt.ok⟩, ⟨by omega, by omega, by rw [hlf]; exact hat.1, by rw [hesR, hsub]; exact hG.okR, by rw [hesR, hsub, hG.same]; exact hRt.okR⟩, ?_, ?_, ?_, ?_⟩
  · unfold insR
    simp only []
    rw [hesR, hsub, hG.same, hiT]
    exact hRt.same
  · rw [hiT]
    obtain ⟨T2, d2, t1, t2, t3, t4, t5, t6⟩ := hRt.tree
    refine ⟨T2, d2, t1, ⟨t2, t3, t4, t5, by rw [t6]; exact hsrt, fun y hy => ?_⟩, t6⟩
    rw [t6] at hy
    unfold insAt at hy
    rcases List.mem_append.1 hy with hy | hy
    · exact hV.ents y (List.mem_of_mem_take hy)
    · rcases List.mem_cons.1 hy with rfl | hy
      · exact hx
      · exact hV.ents y (List.mem_of_mem_drop hy)
  · rw [hiT]
    have h9 : ns.length ≤ (grwW mo (esN ns i (insAt es (plc co es x.key) x)) (i :: D.map Fr.i)).length ∧ (grwW mo (esN ns i (insAt es (plc co es x.key) x)) (i :: D.map Fr.i)).length ≤ ns.length + D.length := hglen
    have h8 := hRt.len
    simp only [BT.idx] at h8
    omega
  · rw [hiT]
    exact hRt.last
def btN (ns : List Nd) : Nat → Nat → BT
  | 0, i => .nd i [] []
  | f + 1, i => .nd i (nth ns i).es ((nth ns i).cs.map fun c => btN ns f c.toNat)
section
variable {co : Int} {ns : List Nd}
end
def InB (co : Int) (lo hi : Option (List UInt8)) (x : TEnt) : Prop := (∀ b, lo = some b → cmpK co b x.key < 0) ∧ (∀ b, hi = some b → cmpK co x.key b < 0)
end Gx
namespace Go.Proofs
open Go Go.RowKit Gx
set_option linter.unusedVariables false
set_option linter.unusedSimpArgs false
attribute [local irreducible] Go.Calls Gx.S Gx.O Gx.D Gx.OpP Gx.OpQ Gx.OpH
set_option maxRecDepth 20000
end Go.Proofs
namespace Gx
set_option linter.unusedSimpArgs false
set_option linter.unusedVariables false
set_option linter.unusedSectionVars false
open Go Go.RowKit
section
variable {ns : List Nd} {N : List (Nat × Nd)} {a b c : Nat × Nd} {i : Nat} {x : Nd}
theorem RepN.at1 (h : RepN ns ((i, x) :: N)) : nth ns i = x := h.head.2
theorem RepN.at2 (h : RepN ns (a :: (i, x) :: N)) : nth ns i = x := (h.at_ (List.mem_cons_of_mem _ (List.mem_cons_self ..))).2
end
section
variable {ns : List Nd} {C : List Fr} {p a b : Nat} {es Ae Be : List TEnt} {l r Ak Bk : List BT}
end
def Fit (es : List TEnt) (ks : List BT) : Prop := ks = [] ∨ ks.length = es.length + 1
theorem Bal.mono {lo lo' hi : Nat} (hl : lo' ≤ lo) : ∀ {d : Nat} {T : BT}, Bal lo hi d T → Bal lo' hi d T
  | 0, T, h => ⟨h.1, Nat.le_trans hl h.2.1, h.2.2⟩
  | d + 1, T, h => ⟨⟨h.1.1, fun k hk => (h.1.2 k hk).mono hl⟩, Nat.le_trans hl h.2.1, h.2.2⟩
theorem Bel.mono {lo lo' hi : Nat} (hl : lo' ≤ lo) : ∀ {d : Nat} {T : BT}, Bel lo hi d T → Bel lo' hi d T
  | 0, T, h => h
  | d + 1, T, h => ⟨h.1, fun k hk => (h.2 k hk).mono hl⟩
theorem CtxOk.mono {lo lo' hi rt : Nat} (hl : lo' ≤ lo) : ∀ {C : List Fr} {d : Nat}, CtxOk lo hi rt d C → CtxOk lo' hi rt d C
  | [], _, _ => trivial
  | f :: C, d, h => ⟨⟨fun k hk => (h.1.1 k hk).mono hl, fun k hk => (h.1.2 k hk).mono hl⟩, h.2.1, ⟨h.2.2.1.1, fun hne => ⟨Nat.le_trans hl (h.2.2.1.2 hne).1, (h.2.2.1.2 hne).2⟩⟩, CtxOk.mono hl h.2.2.2⟩
theorem Bel.kid {lo hi d d' i : Nat} {es : List TEnt} {ks : List BT} (h : Bel lo hi d (.nd i es ks)) (e : d = d' + 1) : ∀ k ∈ ks, Bal lo hi d' k := by
  subst e
  exact h.2
def filRW (mo : Int) (P : List Nat) : Nat → List Nd → List Nd
  | 0, ns => ns
  | k + 1, ns => filRW mo P k (if ((nth ns (nth P (k + 1))).es.length : Int) < mo / 2 then filP mo ns (nth P k) (ixR (nth ns (nth P k)).cs ((nth P (k + 1) : Nat) : Int)) else ns)
structure FilR1 (mo : Int) (ns : List Nd) (p i : Nat) : Prop where
  ok : FilOk mo ns p (ixR (nth ns p).cs (i : Int))
  kd : kdN ns p (ixR (nth ns p).cs (i : Int)) = i
def FilROk (mo : Int) (P : List Nat) : Nat → List Nd → Prop
  | 0, _ => True
  | k + 1, ns => (nth P (k + 1) < ns.length ∧ (((nth ns (nth P (k + 1))).es.length : Int) < mo / 2 → FilR1 mo ns (nth P k) (nth P (k + 1)))) ∧
      FilROk mo P k (if ((nth ns (nth P (k + 1))).es.length : Int) < mo / 2 then filP mo ns (nth P k) (ixR (nth ns (nth P k)).cs ((nth P (k + 1) : Nat) : Int)) else ns)
section
variable {ns : List Nd} {C : List Fr} {p : Nat} {es : List TEnt} {ks : List BT} {mo : Int}
end
section
variable {ns : List Nd} {f : Fr} {C : List Fr} {T : BT}
end
def GapS (rt : Nat) : List Fr → Prop
  | f :: g :: C => GapC rt (g :: C) f.es.length
  | _ => True
theorem GapC.s {rt n : Nat} : ∀ {C : List Fr}, GapC rt C n → GapS rt C
  | [], _ => trivial
  | [f], _ => trivial
  | f :: g :: C, h => h
structure Filled (mo : Int) (lo hi rt : Nat) (P : List Nat) (k : Nat) (ns : List Nd) (W : List Nat) (fl : List TEnt) : Prop where
  ok : FilsOk mo ns W
  okR : FilROk mo P k ns
  same : filRW mo P k ns = filW mo ns W
  tree : ∃ T d, RepT (filW mo ns W) T ∧ T.idx = 0 ∧ Bel lo hi d T ∧ T.es.length ≤ rt ∧ T.flat = fl
  len : (filW mo ns W).length = ns.length
def remRN (mo rm : Int) (ns : List Nd) (P : List Nat) (k : Nat) : List Nd := trmN (rotN rm (filRW mo (remQ ns P k) ((remQ ns P k).length - 1) (rem2 ns P k)))
structure RemFin (mo rm : Int) (lo hi rt : Nat) (ns : List Nd) (Q : List Nat) (fl : List TEnt) : Prop where
  fil : FilsOk mo ns Q.reverse
  rot : RotOk rm (filW mo ns Q.reverse)
  filR : FilROk mo Q (Q.length - 1) ns
  same : filRW mo Q (Q.length - 1) ns = filW mo ns Q.reverse
  tree : ∃ T d, RepT (trmN (rotN rm (filW mo ns Q.reverse))) T ∧ T.idx = 0 ∧ Bel lo hi d T ∧ T.es.length ≤ rt ∧ NoGap rt T ∧ T.flat = fl
  last : LastU (trmN (rotN rm (filW mo ns Q.reverse)))
  len : (trmN (rotN rm (filW mo ns Q.reverse))).length ≤ ns.length
structure Removed (co mo rm : Int) (lo hi rt : Nat) (ns : List Nd) (key : List UInt8) (fl : List TEnt) : Prop where
  ok : RemOk mo rm ns (pathN co ns key).1 (pathN co ns key).2.1
  filR : FilROk mo (remQ ns (pathN co ns key).1 (pathN co ns key).2.1) ((remQ ns (pathN co ns key).1 (pathN co ns key).2.1).length - 1) (rem2 ns (pathN co ns key).1 (pathN co ns key).2.1)
  same : remRN mo rm ns (pathN co ns key).1 (pathN co ns key).2.1 = remN mo rm ns (pathN co ns key).1 (pathN co ns key).2.1
  filS : filRW mo (remQ ns (pathN co ns key).1 (pathN co ns key).2.1) ((remQ ns (pathN co ns key).1 (pathN co ns key).2.1).length - 1) (rem2 ns (pathN co ns key).1 (pathN co ns key).2.1) = filW mo (rem2 ns (pathN co ns key).1 (pathN co ns key).2.1) (remQ ns (pathN co ns key).1 (pathN co ns key).2.1).reverse
  tree : ∃ T d, RepT (remN mo rm ns (pathN co ns key).1 (pathN co ns key).2.1) T ∧ VT co lo hi rt d T ∧ T.flat = others fl (plc co fl key)
  len : (remN mo rm ns (pathN co ns key).1 (pathN co ns key).2.1).length ≤ ns.length
  last : LastU (remN mo rm ns (pathN co ns key).1 (pathN co ns key).2.1)
end Gx
namespace Go.Proofs
open Go Go.RowKit Gx
set_option linter.unusedVariables false
set_option linter.unusedSimpArgs false
attribute [local irreducible] Go.Calls Gx.S Gx.O Gx.D Gx.OpP Gx.OpQ Gx.OpH
set_option maxRecDepth 20000
end Go.Proofs
namespace Gx
set_option linter.unusedSimpArgs false
set_option linter.unusedVariables false
set_option linter.unusedSectionVars false
open Go Go.RowKit
def AllU (ns : List Nd) : Prop := ∀ i, i < ns.length → (nth ns i).us = true
section
variable {ns : List Nd}
theorem AllU.es (h : AllU ns) (i : Nat) (es : List TEnt) : AllU (esN ns i es) := fun k hk => by
  rw [us_es]
  exact h k (by rwa [esN_len] at hk)
theorem AllU.cs (h : AllU ns) (i : Nat) (cs : List Int) : AllU (csN ns i cs) := fun k hk => by
  rw [us_cs]
  exact h k (by rwa [csN_len] at hk)
theorem AllU.fre (h : AllU ns) : AllU (freN ns).2 := by
  unfold freN
  split
  · intro k hk
    unfold usN at hk ⊢
    simp only [List.length_set] at hk
    rw [nth_set_nd]
    split
    · rfl
    · exact h k hk
  · intro k hk
    simp only [List.length_append, List.length_singleton] at hk
    rcases Nat.lt_or_ge k ns.length with h1 | h1
    · rw [nth_eq (show (ns ++ [(⟨true, [], []⟩ : Nd)])[k]? = some (nth ns k) from by rw [List.getElem?_append_left h1]; exact nth_get h1)]
      exact h k h1
    · have e : k = ns.length := by omega
      subst e
      rw [nth_eq (show (ns ++ [(⟨true, [], []⟩ : Nd)])[ns.length]? = some ⟨true, [], []⟩ from by simp)]
theorem AllU.spl (h : AllU ns) (mo : Int) (i : Nat) : AllU (splN mo ns i) := by
  unfold splN addP
  refine AllU.cs (AllU.es ?_ _ _) _ _
  unfold splA
  split
  · exact (h.fre.es _ _).es _ _
  · exact (((h.fre.es _ _).es _ _).cs _ _).cs _ _
theorem AllU.low (h : AllU ns) : AllU (lowN ns).2 := by
  unfold lowN
  exact (((h.fre.es _ _).cs _ _).es _ _).cs _ _
theorem AllU.grw (h : AllU ns) (mo : Int) (P : List Nat) : AllU (grwW mo ns P) := by
  unfold grwW
  induction P generalizing ns with
  | nil => exact h
  | cons i P ih =>
    rw [List.foldl_cons]
    refine ih ?_
    unfold grw1
    split
    · exact h.spl _ _
    · exact h
theorem AllU.ins (h : AllU ns) (co mo rm : Int) (x : TEnt) : AllU (insT co mo rm ns x) := by
  unfold insT
  split
  · exact h
  · unfold grwN
    have h1 := (h.es (leafN co ns x.key) (insAt (nth ns (leafN co ns x.key)).es (pathN co ns x.key).2.1 x)).grw mo (pathN co ns x.key).1.reverse
    unfold grwR
    split
    · split
      · exact h1.low.spl _ _
      · exact h1.low
    · exact h1
end
theorem nodup_sub {α : Type} [DecidableEq α] : ∀ {l m : List α}, l.Nodup → (∀ x ∈ l, x ∈ m) → l.length ≤ m.length
  | [], _, _, _ => Nat.zero_le _
  | a :: l, m, hd, hs => by
    have h1 := List.nodup_cons.1 hd
    have ha := hs a (List.mem_cons_self ..)
    have h2 := nodup_sub (l := l) (m := m.erase a) h1.2 fun x hx => (List.mem_erase_of_ne (fun e => h1.1 (by rw [← e]; exact hx))).2 (hs x (List.mem_cons_of_mem _ hx))
    rw [List.length_erase_of_mem ha] at h2
    have h3 := List.length_pos_of_mem ha
    simp only [List.length_cons]
    omega
theorem AllU.len {ns : List Nd} {T : BT} (h : AllU ns) (hR : RepT ns T) : ns.length ≤ T.nodes.length := by
  have := nodup_sub (l := List.range ns.length) (m := T.nodes.map Prod.fst) List.nodup_range fun x hx => by
    by_cases hm : x ∈ T.nodes.map Prod.fst
    · exact hm
    · have hx := List.mem_range.1 hx
      have h1 := h x hx
      rw [RepN.rest hR x hx hm] at h1
      cases h1
  simpa using this
theorem nodesL_flat : ∀ {es : List TEnt} {ks : List BT}, (∀ k ∈ ks, k.nodes.length ≤ k.flat.length) → (nodesL ks).length + es.length ≤ (flatL es ks).length
  | es, [], _ => by
    rw [flatL_nil, nodesL]
    simp
  | [], k :: ks, h => by
    have h1 := h k (List.mem_cons_self ..)
    have h2 := nodesL_flat (es := []) (ks := ks) fun q hq => h q (List.mem_cons_of_mem _ hq)
    rw [flatL, nodesL]
    simp only [List.length_append, List.length_nil] at h2 ⊢
    omega
  | e :: es, k :: ks, h => by
    have h1 := h k (List.mem_cons_self ..)
    have h2 := nodesL_flat (es := es) (ks := ks) fun q hq => h q (List.mem_cons_of_mem _ hq)
    rw [flatL, nodesL]
    simp only [List.length_append, List.length_cons] at h2 ⊢
    omega
theorem bal_nodes {lo hi : Nat} (h0 : 1 ≤ lo) : ∀ {d : Nat} {T : BT}, Bal lo hi d T → T.nodes.length ≤ T.flat.length
  | 0, .nd i es ks, h => by
    have h1 := nodesL_flat (es := es) (ks := ks) fun k hk => by
      have e : ks = [] := h.1
      rw [e] at hk
      cases hk
    have h2 : lo ≤ es.length := h.2.1
    rw [BT.nodes, BT.flat, List.length_cons]
    omega
  | d + 1, .nd i es ks, h => by
    have h1 := nodesL_flat (es := es) (ks := ks) fun k hk => bal_nodes h0 (h.1.2 k hk)
    have h2 : lo ≤ es.length := h.2.1
    rw [BT.nodes, BT.flat, List.length_cons]
    omega
theorem bel_nodes {lo hi d : Nat} (h0 : 1 ≤ lo) {T : BT} (h : Bel lo hi d T) : T.nodes.length ≤ T.flat.length + 1 := by
  cases T with
  | nd i es ks =>
    have h1 := nodesL_flat (es := es) (ks := ks) fun k hk => by
      cases d with
      | zero =>
        have e : ks = [] := h
        rw [e] at hk
        cases hk
      | succ d => exact bal_nodes h0 (h.2 k hk)
    rw [BT.nodes, BT.flat, List.length_cons]
    omega
mutual
theorem nodes_es : ∀ (T : BT) (p : Nat × Nd), p ∈ T.nodes → p.2.es.Sublist T.flat
  | .nd i es ks, p, h => by
    rw [BT.nodes] at h
    rw [BT.flat]
    rcases List.mem_cons.1 h with rfl | h
    · exact es_sub es ks
    · exact nodesL_es es ks p h
theorem nodesL_es : ∀ (es : List TEnt) (ks : List BT) (p : Nat × Nd), p ∈ nodesL ks → p.2.es.Sublist (flatL es ks)
  | es, [], p, h => by
    rw [nodesL] at h
    cases h
  | [], k :: ks, p, h => by
    rw [nodesL] at h
    rw [flatL]
    rcases List.mem_append.1 h with h | h
    · exact (nodes_es k p h).trans (List.sublist_append_left ..)
    · exact (nodesL_es [] ks p h).trans (List.sublist_append_right ..)
  | e :: es, k :: ks, p, h => by
    rw [nodesL] at h
    rw [flatL]
    rcases List.mem_append.1 h with h | h
    · exact (nodes_es k p h).trans (List.sublist_append_left ..)
    · exact ((nodesL_es es ks p h).cons e).trans (List.sublist_append_right ..)
end
theorem nodes_sh {lo hi : Nat} : ∀ {d : Nat} {T : BT}, Bel lo hi d T → ∀ p ∈ T.nodes, p.2.cs.length = 0 ∨ p.2.cs.length = p.2.es.length + 1
  | 0, .nd i es ks, h, p, hp => by
    have e : ks = [] := h
    rw [e, BT.nodes, nodesL] at hp
    rcases List.mem_cons.1 hp with rfl | hp
    · exact .inl rfl
    · cases hp
  | d + 1, .nd i es ks, h, p, hp => by
    rw [BT.nodes] at hp
    rcases List.mem_cons.1 hp with rfl | hp
    · exact .inr (by show (idxs ks).length = _; rw [idxs_len]; exact h.1)
    · obtain ⟨k, hk, hp⟩ := nodesL_in (k := default) hp
      exact nodes_sh (bal_iff.1 (h.2 k hk)).1 p hp
theorem rep_tok {co : Int} {lo hi rt d : Nat} {ns : List Nd} {T : BT} (hR : RepT ns T) (hV : VT co lo hi rt d T) (hu : LastU ns) : TOk co ns := by
  have hat : ∀ p ∈ T.nodes, p.1 < ns.length ∧ nth ns p.1 = p.2 := fun p hp => RepN.at_ (i := p.1) (x := p.2) hR hp
  have hcs : ∀ i, i < ns.length → (i ∈ T.nodes.map Prod.fst ∧ (i, nth ns i) ∈ T.nodes) ∨ nth ns i = ⟨false, [], []⟩ := fun i hi => by
    by_cases hm : i ∈ T.nodes.map Prod.fst
    · refine .inl ⟨hm, ?_⟩
      obtain ⟨p, hp, rfl⟩ := List.mem_map.1 hm
      rw [(hat p hp).2]
      exact hp
    · exact .inr (RepN.rest hR i hi hm)
  have hkp := kids_nodes T
  have hnd : ((((T.idx : Nat) : Int) :: kidsOf T.nodes)).Nodup := hkp.nodup_iff.2 (by
    have h1 := RepN.nd hR
    unfold List.Nodup at h1 ⊢
    rw [List.pairwise_map] at h1 ⊢
    exact h1.imp fun h e => h (by omega))
  refine ⟨fun i hi c hc => ?_, ?_, fun i hi => ?_, fun i hi hus => ?_, fun i hi => ?_, fun i hi x hx => ?_⟩
  · rcases hcs i hi with ⟨_, hm⟩ | he
    · have hck : c ∈ kidsOf T.nodes := List.mem_flatMap.2 ⟨_, hm, hc⟩
      obtain ⟨q, hq, rfl⟩ := List.mem_map.1 (hkp.mem_iff.1 (List.mem_cons_of_mem _ hck))
      have h1 := hat q hq
      have h2 : q.1 ≠ 0 := fun e => by
        have h3 := (List.nodup_cons.1 hnd).1
        rw [hV.idx] at h3
        rw [e] at hck
        exact h3 hck
      refine ⟨by omega, ?_⟩
      rw [Int.toNat_natCast, h1.2]
      exact nodes_us T q hq
    · rw [he] at hc
      cases hc
  · have hk2 := (List.nodup_cons.1 hnd).2
    unfold kidsOf List.Nodup at hk2
    rw [List.pairwise_flatMap] at hk2
    unfold List.Nodup
    rw [List.pairwise_flatMap]
    refine ⟨fun x hx => ?_, List.pairwise_iff_getElem.2 fun i j hi hj hij => ?_⟩
    · obtain ⟨i, hi, rfl⟩ := List.getElem_of_mem hx
      rw [← nth_eq (List.getElem?_eq_getElem hi)]
      rcases hcs i hi with ⟨_, hm⟩ | he
      · exact hk2.1 _ hm
      · rw [he]
        exact List.Pairwise.nil
    · rw [← nth_eq (List.getElem?_eq_getElem hi), ← nth_eq (List.getElem?_eq_getElem hj)]
      intro x hx y hy e
      rcases hcs i hi with ⟨_, hm⟩ | he
      · rcases hcs j hj with ⟨_, hm2⟩ | he
        · obtain ⟨a, ha, ea⟩ := List.getElem_of_mem hm
          obtain ⟨b, hb, eb⟩ := List.getElem_of_mem hm2
          have hp := List.pairwise_iff_getElem.1 hk2.2
          rcases Nat.lt_trichotomy a b with h | h | h
          · exact hp a b ha hb h x (by rw [ea]; exact hx) y (by rw [eb]; exact hy) e
          · subst h
            rw [ea] at eb
            have := congrArg Prod.fst eb
            simp only at this
            omega
          · exact hp b a hb ha h y (by rw [eb]; exact hy) x (by rw [ea]; exact hx) e.symm
        · rw [he] at hy
          cases hy
      · rw [he] at hx
        cases hx
  · rcases hcs i hi with ⟨_, hm⟩ | he
    · exact nodes_sh hV.bel _ hm
    · rw [he]
      exact .inl rfl
  · rcases hcs i hi with ⟨_, hm⟩ | he
    · have := nodes_us T _ hm
      simp only at this
      rw [hus] at this
      cases this
    · refine ⟨⟨?_, ?_⟩, by rw [he], by rw [he]⟩
      · have h1 := (RepT.root hR).2
        rw [hV.idx] at h1
        rcases Nat.eq_zero_or_pos i with e | h
        · rw [e, h1] at hus
          cases hus
        · exact h
      · unfold LastU at hu
        by_cases e : i = ns.length - 1
        · rw [e, hu] at hus
          cases hus
        · omega
  · rcases hcs i hi with ⟨_, hm⟩ | he
    · exact Srt.asc (List.Pairwise.sublist (nodes_es T _ hm) hV.srt)
    · rw [he]
      intro k hk
      exact absurd hk (by simp)
  · rcases hcs i hi with ⟨_, hm⟩ | he
    · exact hV.ents x ((nodes_es T _ hm).subset hx)
    · rw [he] at hx
      cases hx
theorem rep_bd {co mo rm : Int} {lo hi rt d : Nat} {ns : List Nd} {T : BT} (hz : Sz mo rm lo hi rt) (hR : RepT ns T) (hV : VT co lo hi rt d T) (hl : ns.length ≤ 1000) : Bd ns := by
  have h1 := hR.sm hV.bel (Nat.le_refl _) (Nat.le_trans hV.root hz.rh)
  have := hz.hi8
  exact ⟨hl, fun i hi => Nat.le_trans (h1 i).1 (by omega), fun i hi => Nat.le_trans (h1 i).2 (by omega)⟩
section
variable (co mo rm : Int) (l : List TEnt)
def bldN : Nat → List Nd
  | 0 => [⟨true, [], []⟩]
  | k + 1 => insT co mo rm (bldN k) (nth l k)
def bldE (k : Nat) : Int := if entE co (nth l k) = 0 then insE co mo rm (bldN co mo rm l k) (nth l k) else entE co (nth l k)
def bldEs : List Int := (List.range l.length).map (bldE co mo rm l)
end
structure BldOk (co mo rm : Int) (lo hi rt k : Nat) (ns : List Nd) : Prop where
  tree : ∃ T d, RepT ns T ∧ VT co lo hi rt d T ∧ T.flat.length = k
  all : AllU ns
  len : ns.length ≤ k + 1
  pos : 0 < ns.length
section
variable {co mo rm : Int} {lo hi rt k : Nat} {l : List TEnt} {ns : List Nd} {x : TEnt}
theorem bldEs_len : (bldEs co mo rm l).length = l.length := by simp [bldEs]
theorem bldEs_get {k : Nat} (hk : k < l.length) : (bldEs co mo rm l).getD k 0 = bldE co mo rm l k := by
  unfold bldEs
  rw [List.getD_eq_getElem?_getD, List.getElem?_map, List.getElem?_range hk]
  rfl
theorem bldE_0 (h : bldE co mo rm l k = 0) : entE co (nth l k) = 0 ∧ insE co mo rm (bldN co mo rm l k) (nth l k) = 0 := by
  unfold bldE at h
  split at h
  · exact ⟨by assumption, h⟩
  · exact absurd h (by assumption)
theorem BldOk.last (h : BldOk co mo rm lo hi rt k ns) : LastU ns := h.all _ (by have := h.pos; omega)
theorem BldOk.tok (h : BldOk co mo rm lo hi rt k ns) : TOk co ns := by
  obtain ⟨T, d, hR, hV, _⟩ := h.tree
  exact rep_tok hR hV h.last
theorem BldOk.bd (hz : Sz mo rm lo hi rt) (h : BldOk co mo rm lo hi rt k ns) (hk : k ≤ 999) : Bd ns := by
  obtain ⟨T, d, hR, hV, _⟩ := h.tree
  exact rep_bd hz hR hV (by have := h.len; omega)
theorem BldOk.sm (hz : Sz mo rm lo hi rt) (h : BldOk co mo rm lo hi rt k ns) : Sm 900 ns := by
  obtain ⟨T, d, hR, hV, _⟩ := h.tree
  exact (hR.sm hV.bel (Nat.le_refl _) (Nat.le_trans hV.root hz.rh)).mono (by have := hz.hi8; omega)
theorem BldOk.ins (hz : Sz mo rm lo hi rt) (h : BldOk co mo rm lo hi rt k ns) (hk : k ≤ 399) (hx : entE co x = 0) (hnf : ¬ (pathN co ns x.key).2.2 = true) : InsOk co mo rm ns x ∧ InsROk co mo rm ns x ∧ insR co mo rm ns x = insT co mo rm ns x ∧ BldOk co mo rm lo hi rt (k + 1) (insT co mo rm ns x) := by
  obtain ⟨T, d, hR, hV, hfl⟩ := h.tree
  have hI := ins_all hz hR hV (by have := h.len; omega) h.last hx hnf
  obtain ⟨T2, d2, hR2, hV2, hf2⟩ := hI.tree
  have hall := h.all.ins co mo rm x
  have hlo : 1 ≤ lo := by have := hz.elo; have := hz.hi3; omega
  have hfl2 : T2.flat.length = k + 1 := by rw [hf2, ins_len (plc_le _ _ _), hfl]
  refine ⟨hI.ok, hI.okR, hI.same, ⟨T2, d2, hR2, hV2, hfl2⟩, hall, ?_, by have := hI.len.1; have := h.pos; omega⟩
  have h1 := hall.len hR2
  have h2 := bel_nodes hlo hV2.bel
  omega
theorem bld_one (hz : Sz mo rm lo hi rt) : BldOk co mo rm lo hi rt 0 [⟨true, [], []⟩] := by
  refine ⟨⟨.nd 0 [] [], 0, ⟨fun p hp => ?_, ?_, fun i hi hm => ?_⟩, ⟨rfl, rfl, Nat.zero_le _, ?_, ?_, fun x hx => ?_⟩, ?_⟩, fun i hi => ?_, Nat.le_refl _, Nat.succ_pos _⟩
  · rw [BT.nodes, nodesL] at hp
    rcases List.mem_singleton.1 hp with rfl
    rfl
  · rw [BT.nodes, nodesL]
    exact List.pairwise_singleton _ _
  · refine absurd ?_ hm
    rw [BT.nodes, nodesL]
    have h1 : i < 1 := hi
    have e : i = 0 := by omega
    rw [e]
    exact List.mem_cons_self ..
  · intro _ k hk
    cases hk
  · exact List.Pairwise.nil
  · rw [BT.flat, flatL_nil] at hx
    cases hx
  · rw [BT.flat, flatL_nil]
    rfl
  · have h1 : i < 1 := hi
    have e : i = 0 := by omega
    rw [e]
    rfl
theorem bld_ok (hz : Sz mo rm lo hi rt) : ∀ {k : Nat}, k ≤ 119 → (∀ i, i < k → bldE co mo rm l i = 0) → BldOk co mo rm lo hi rt k (bldN co mo rm l k)
  | 0, _, _ => bld_one hz
  | k + 1, hk, h => by
    have h1 := bldE_0 (h k (Nat.lt_succ_self k))
    exact (BldOk.ins hz (bld_ok hz (by omega) fun i hi => h i (by omega)) (by omega) h1.1 (fun h2 => by
      have h3 := h1.2
      unfold insE at h3
      rw [if_pos h2] at h3
      cases h3)).2.2.2
theorem bld_ins (hz : Sz mo rm lo hi rt) (hk : k < 119) (h : ∀ i, i < k → bldE co mo rm l i = 0) : bldE co mo rm l k = if entE co (nth l k) = 0 then if (pathN co (bldN co mo rm l k) (nth l k).key).2.2 = true then 5 else 0 else entE co (nth l k) := by
  have h0 := bld_ok hz (by omega) h
  unfold bldE
  by_cases hx : entE co (nth l k) = 0
  · rw [if_pos hx, if_pos hx]
    unfold insE
    by_cases hf : (pathN co (bldN co mo rm l k) (nth l k).key).2.2 = true
    · rw [if_pos hf, if_pos hf]
    · rw [if_neg hf, if_neg hf, if_pos (by have := (BldOk.ins hz h0 (by omega) hx hf).2.2.2.len; omega)]
  · rw [if_neg hx, if_neg hx]
end
end Gx
namespace Go.Proofs
open Go Go.RowKit Gx
set_option linter.unusedVariables false
set_option linter.unusedSimpArgs false
attribute [local irreducible] Go.Calls Gx.S Gx.O Gx.D Gx.OpP Gx.OpQ Gx.OpH
set_option maxRecDepth 20000
theorem fn_90 : isFn Tryz.prog 90 = true := by kernel_rfl
theorem zr_103 : tzero Tryz.prog 103 = some [.pointer none] := by kernel_rfl
theorem bld_d (E : Int) (n : Nat) : firstV [.int .i64 E, .int .i64 (cond (decide ((n : Int) ≤ 200)) 0 8)] = if E = 0 then (if 200 < n then 8 else 0) else E := by
  unfold firstV
  by_cases h : E = 0
  · rw [if_pos h, if_pos h]
    by_cases h2 : 200 < n
    · rw [if_pos h2, decide_eq_false (by omega)]
      rfl
    · rw [if_neg h2, decide_eq_true (by omega)]
      rfl
  · rw [if_neg h, if_neg h]
theorem c90 (w : World) (bt : Nat) (j : Nat) (mo rm : Int) (gn cap : Nat) (L : List LNd) (x : TEnt) (i : Int) (c4 c13 : Nat) (hw : HS w (fps [.blk bt 112 6 (tbV (j : Int) mo rm (some ⟨gn, 0, none⟩) (L).length cap), .blk gn 102 (cap * 3) ((L).flatMap LNd.vals), .star ((L).map (subN 26))]) [.blk bt 112 6 (tbV (j : Int) mo rm (some ⟨gn, 0, none⟩) (L).length cap), .blk gn 102 (cap * 3) ((L).flatMap LNd.vals), .star ((L).map (subN 26))] w) (hnc : L.length ≤ cap) (hcm : cap ≤ maxLen) (hj : j ≤ 3) (h0 : 0 < L.length) (hB : Bd (pln L)) (hT : TOk (j : Int) (pln L)) (hkk : x.key.length ≤ 1000000) (hok : entE (j : Int) x = 0 → ¬ (pathN (j : Int) (pln L) x.key).2.2 = true → InsOk (j : Int) mo rm (pln L) x) (hc4 : Rd w (fps [.blk bt 112 6 (tbV (j : Int) mo rm (some ⟨gn, 0, none⟩) (L).length cap), .blk gn 102 (cap * 3) ((L).flatMap LNd.vals), .star ((L).map (subN 26))]) c4 0 (.int .i64 (j : Int))) (hc13 : Rd w (fps [.blk bt 112 6 (tbV (j : Int) mo rm (some ⟨gn, 0, none⟩) (L).length cap), .blk gn 102 (cap * 3) ((L).flatMap LNd.vals), .star ((L).map (subN 26))]) c13 0 (.pointer (some ⟨bt, 0, none⟩))) : Calls Tryz.prog 90 #[.int .i64 i, .agg #[.string (bs x.key), .string (bs x.val)], .pointer (some ⟨c4, 0, none⟩), .pointer (some ⟨c13, 0, none⟩)] w fun en w' => ∃ g : (Nat × Nat) × List LNd, en = .returned (.int .i64 (if entE (j : Int) x = 0 then insE (j : Int) mo rm (pln L) x else entE (j : Int) x)) ∧ (pln g.2 = (if entE (j : Int) x = 0 then insT (j : Int) mo rm (pln L) x else pln L) ∧ g.2.length ≤ g.1.2 ∧ g.1.2 ≤ maxLen) ∧ HS w (fps [.blk bt 112 6 (tbV (j : Int) mo rm (some ⟨gn, 0, none⟩) (L).length cap), .blk gn 102 (cap * 3) ((L).flatMap LNd.vals), .star ((L).map (subN 26))]) [.blk bt 112 6 (tbV (j : Int) mo rm (some ⟨g.1.1, 0, none⟩) (g.2).length g.1.2), .blk g.1.1 102 (g.1.2 * 3) ((g.2).flatMap LNd.vals), .star ((g.2).map (subN 26))] w' := by
 refine enter (args := [_, _, _, _]) Tryz.func90 Tryz.ntmps90 rfl rfl hw ?_
 iterate 2 refine aS ?_
 refine oBx fun b1 _ => ?_
 iterate 5 refine aS ?_
 refine o_q (q_load_old rfl rfl sz_3 (hc4)) rfl ?_
 refine aS ?_
 refine o_q (q_call rfl fn_91 rfl (fun w1 h1 => c91 w1 j x hj hkk)) rfl ?_
 iterate 7 refine aS ?_
 refine s_cond rfl (fun h2 => ?_) fun h2 => ?_
 ·try simp only [Bool.not_eq_true', decide_eq_false_iff_not] at h2
  have hx0 : ¬ entE (j : Int) x = 0 := by have hq := h2; exact hq
  iterate 5 refine aS ?_
  exact s_retv (rs := [.tmp 6]) rfl (.tmp rfl (.nil)) (fun w' h' => ⟨((gn, cap), L), by simp only [retV]; rw [if_neg hx0], ⟨by simp only []; rw [if_neg hx0], hnc, hcm⟩, h'.ent aEt⟩)
 try simp only [Bool.not_eq_false', decide_eq_true_eq] at h2
 have hx0 : entE (j : Int) x = 0 := by have hq := h2; exact hq
 iterate 3 refine aS ?_
 refine o_q (q_load_old rfl rfl sz_103 (hc13)) rfl ?_
 refine aS ?_
 refine o_h (h_callF (Cs := [.blk bt 112 6 (tbV (j : Int) mo rm (some ⟨gn, 0, none⟩) (L).length cap), .blk gn 102 (cap * 3) ((L).flatMap LNd.vals), .star ((L).map (subN 26))]) rfl fn_58 rfl aPs (fun w1 h1 hf => c58 w1 bt j mo rm gn cap L x hf hnc hcm hj h0 hB hT (entE_key hx0) (hok hx0))) rfl (fun ⟨⟨g5, c5⟩, L5⟩ hF5 => ?_)
 iterate 2 refine aS ?_
 exact s_retv (rs := [.tmp 6]) rfl (.tmp rfl (.nil)) (fun w' h' => ⟨((g5, c5), L5), by simp only [retV]; rw [if_pos hx0], ⟨by simp only []; rw [if_pos hx0]; exact hF5.1, hF5.2.1, hF5.2.2⟩, h'.ent aEt⟩)
theorem c89B (w : World) (bt : Nat) (j : Nat) (mo rm : Int) (gn cap : Nat) (L : List LNd) (al : Option Addr) (ca : Nat) (l : List TEnt) (c4 c13 : Nat) (lo hi rt : Nat) (hw : HS w (fps [.blk bt 112 6 (tbV (j : Int) mo rm (some ⟨gn, 0, none⟩) (L).length cap), .blk gn 102 (cap * 3) ((L).flatMap LNd.vals), .star ((L).map (subN 26))]) [.blk bt 112 6 (tbV (j : Int) mo rm (some ⟨gn, 0, none⟩) (L).length cap), .blk gn 102 (cap * 3) ((L).flatMap LNd.vals), .star ((L).map (subN 26))] w) (hnc : L.length ≤ cap) (hcm : cap ≤ maxLen) (hj : j ≤ 3) (hz : Sz mo rm lo hi rt) (hl : l.length ≤ 118) (hlk : ∀ x ∈ l, x.key.length ≤ 1000000) (hs : Rw TEnt.vals 2 w (fps [.blk bt 112 6 (tbV (j : Int) mo rm (some ⟨gn, 0, none⟩) (L).length cap), .blk gn 102 (cap * 3) ((L).flatMap LNd.vals), .star ((L).map (subN 26))]) al l) (hL0 : pln L = (bldN (j : Int) mo rm l 0)) (hc4 : Rd w (fps [.blk bt 112 6 (tbV (j : Int) mo rm (some ⟨gn, 0, none⟩) (L).length cap), .blk gn 102 (cap * 3) ((L).flatMap LNd.vals), .star ((L).map (subN 26))]) c4 0 (.int .i64 (j : Int))) (hc13 : Rd w (fps [.blk bt 112 6 (tbV (j : Int) mo rm (some ⟨gn, 0, none⟩) (L).length cap), .blk gn 102 (cap * 3) ((L).flatMap LNd.vals), .star ((L).map (subN 26))]) c13 0 (.pointer (some ⟨bt, 0, none⟩))) : Calls Tryz.prog 89 #[.slice al l.length ca, .func (.func 90) #[] #[.pointer (some ⟨c4, 0, none⟩), .pointer (some ⟨c13, 0, none⟩)]] w fun en w' => ∃ g : (Nat × Nat) × List LNd, en = .returned (.tuple #[.int .i64 (eachF (bldEs (j : Int) mo rm l) 0).1, .int .i64 (eachF (bldEs (j : Int) mo rm l) 0).2]) ∧ (((eachF (bldEs (j : Int) mo rm l) 0).2 = 0 → pln g.2 = (bldN (j : Int) mo rm l l.length)) ∧ g.2.length ≤ g.1.2 ∧ g.1.2 ≤ maxLen) ∧ HS w (fps [.blk bt 112 6 (tbV (j : Int) mo rm (some ⟨gn, 0, none⟩) (L).length cap), .blk gn 102 (cap * 3) ((L).flatMap LNd.vals), .star ((L).map (subN 26))]) [.blk bt 112 6 (tbV (j : Int) mo rm (some ⟨g.1.1, 0, none⟩) (g.2).length g.1.2), .blk g.1.1 102 (g.1.2 * 3) ((g.2).flatMap LNd.vals), .star ((g.2).map (subN 26))] w' := by
 refine enter (args := [_, _]) Tryz.func89 Tryz.ntmps89 rfl rfl hw ?_
 iterate 13 refine aS ?_
 refine s_loopI (α := (Nat × (Nat × Nat)) × List LNd) [4, 5, 6, 7, 8, 11, 12, 13, 14, 15, 16, 17, 18, 19, 20, 21, 22, 23, 24] (fun x => [(11, .int .i64 (x.1.1 : Int))]) (fun x => HS w (fps [.blk bt 112 6 (tbV (j : Int) mo rm (some ⟨gn, 0, none⟩) (L).length cap), .blk gn 102 (cap * 3) ((L).flatMap LNd.vals), .star ((L).map (subN 26))]) [.blk bt 112 6 (tbV (j : Int) mo rm (some ⟨x.1.2.1, 0, none⟩) (x.2).length x.1.2.2), .blk x.1.2.1 102 (x.1.2.2 * 3) ((x.2).flatMap LNd.vals), .star ((x.2).map (subN 26))]) (fun x => x.1.1 ≤ l.length ∧ (eachF (bldEs (j : Int) mo rm l) 0) = eachF ((bldEs (j : Int) mo rm l).drop x.1.1) x.1.1 ∧ (∀ i, i < x.1.1 → bldE (j : Int) mo rm l i = 0) ∧ pln x.2 = (bldN (j : Int) mo rm l x.1.1) ∧ x.2.length ≤ x.1.2.2 ∧ x.1.2.2 ≤ maxLen) (fun x => l.length - x.1.1) ((0, (gn, cap)), L) ⟨Nat.zero_le _, rfl, fun i h => absurd h (Nat.not_lt_zero i), hL0, hnc, hcm⟩ aSx (fun w h => h.ent aEt) (fun ⟨⟨k, gn1, cap1⟩, L1⟩ hx => ?_)
 dsimp only
 obtain ⟨hk1, hk2, hk3, hk4, hk5, hk6⟩ := hx
 simp only [] at hk1 hk2 hk3 hk4 hk5 hk6
 have hbo := bld_ok (l := l) hz (show k ≤ 119 by omega) hk3
 have hel := bldEs_len (co := (j : Int)) (mo := mo) (rm := rm) (l := l)
 iterate 5 refine aS ?_
 refine s_cond rfl (fun h1 => ?_) fun h1 => ?_
 ·try simp only [decide_eq_true_eq] at h1
  iterate 6 refine aS ?_
  refine o_p (p_indexAddr rfl rfl rfl sl_77 (k) (by omega) (by omega) (Rw.some hs (by omega))) rfl ?_
  refine o_q (q_load_oldn _ rfl rfl sz_26 rfl (Rw.rd hs (by omega))) rfl ?_
  refine oAl (fun b2 _ => ?_) zr_26
  refine aS ?_
  refine oSt ?_
  iterate 6 refine aS ?_
  refine o_h (h_callvF (Cs := [.blk bt 112 6 (tbV (j : Int) mo rm (some ⟨gn1, 0, none⟩) (L1).length cap1), .blk gn1 102 (cap1 * 3) ((L1).flatMap LNd.vals), .star ((L1).map (subN 26))]) rfl rfl fn_90 rfl aPs (fun w1 h1 hf => c90 w1 bt j mo rm gn1 cap1 L1 (nth l k) (k : Int) c4 c13 hf hk5 hk6 hj (by have h9 := hbo.pos; rw [← hk4, pln_len] at h9; exact h9) (by rw [hk4]; exact hbo.bd hz (by omega)) (by rw [hk4]; exact hbo.tok) (hlk _ (mem_nth (by omega))) (by rw [hk4]; exact fun hx hf => (hbo.ins hz (by omega) hx hf).1) ((h1.keep hc4).mono (fps_pick aPs)) ((h1.keep hc13).mono (fps_pick aPs)))) rfl (fun ⟨⟨g5, c5⟩, L5⟩ hF5 => ?_)
  refine o_slot (show _ = Value.int .i64 (bldE (j : Int) mo rm l k) from by unfold bldE; rw [hk4]) ?_
  iterate 7 refine aS ?_
  refine s_cond rfl (fun h3 => ?_) fun h3 => ?_
  ·try simp only [Bool.not_eq_true', decide_eq_false_iff_not] at h3
   have hb0 : ¬ bldE (j : Int) mo rm l k = 0 := by have hq := h3; exact hq
   iterate 7 refine aS ?_
   exact s_retv (rs := [.tmp 4, .tmp 5]) rfl (.tmp rfl (.tmp rfl (.nil))) (fun w' h' => ⟨((g5, c5), L5), by simp only [retV]; rw [hk2, eachF_drop (by omega), bldEs_get (by omega), if_neg hb0], ⟨fun h9 => by rw [hk2, eachF_drop (by omega), bldEs_get (by omega), if_neg hb0] at h9; exact absurd h9 hb0, hF5.2.1, hF5.2.2⟩, h'.ent aEt⟩)
  try simp only [Bool.not_eq_false', decide_eq_true_eq] at h3
  have hb0 : bldE (j : Int) mo rm l k = 0 := by have hq := h3; exact hq
  iterate 4 refine aS ?_
  try refine oWr ?_
  iterate 2 refine aS ?_
  exact s_backI ((k + 1, (g5, c5)), L5) (by (try simp only []); omega) ⟨by (try simp only []); omega, by simp only []; rw [hk2, eachF_drop (by omega), if_pos (by rw [bldEs_get (by omega)]; exact hb0)], fun i hi => (Nat.lt_or_ge i k).elim (hk3 i) (fun h => by have hi9 : i < k + 1 := hi; obtain rfl : i = k := (by omega); exact hb0), by simp only []; rw [hF5.1, if_pos (bldE_0 hb0).1, hk4]; rfl, hF5.2.1, hF5.2.2⟩ aSx (fun w h => h.ent aEt)
 try simp only [decide_eq_false_iff_not] at h1
 refine s_exit_to rfl ?_
 iterate 5 refine aS ?_
 exact s_retv (rs := [.tmp 4, .tmp 5]) rfl (.tmp rfl (.tmp rfl (.nil))) (fun w' h' => ⟨((gn1, cap1), L1), by simp only [retV]; rw [hk2, eachF_end (by omega)], ⟨fun _ => by simp only []; rw [hk4]; congr 1; omega, hk5, hk6⟩, h'.ent aEt⟩)
theorem c44e (w : World) (co mo rm : Int) (al : Option Addr) (ca : Nat) (l : List TEnt) (hs : Rw TEnt.vals 2 w [] al l) (hl9 : l.length ≤ 1000) (he : ¬ (if (if colE12 co = 0 then sizE mo rm else colE12 co) = 0 then (if 200 < l.length then 8 else 0) else (if colE12 co = 0 then sizE mo rm else colE12 co)) = 0) : Calls Tryz.prog 44 #[.int .i64 co, .int .i64 mo, .int .i64 rm, .slice al l.length ca] w fun en w' => en = .returned (.tuple #[.agg #[.int .i64 0, .int .i64 0, .int .i64 0, .slice none 0 0], .int .i64 0, .int .i64 (if (if colE12 co = 0 then sizE mo rm else colE12 co) = 0 then (if 200 < l.length then 8 else 0) else (if colE12 co = 0 then sizE mo rm else colE12 co))]) ∧ Below w.heap.size w w' := by
 refine enter (args := [_, _, _, _]) Tryz.func44 Tryz.ntmps44 rfl rfl (HS.refl w []) ?_
 iterate 2 refine aS ?_
 refine oBx fun b1 _ => ?_
 refine oAl (fun b2 _ => ?_) zr_24
 iterate 8 refine aS ?_
 refine o_h (h_call rfl fn_29 rfl (fun w1 h1 => c29 w1 co mo rm)) rfl (fun ⟨⟨ae, ce⟩, LE⟩ hLE => ?_)
 iterate 3 refine aS ?_
 refine oAl (fun b3 _ => ?_) zr_24
 refine oSt ?_
 iterate 9 refine aS ?_
 refine o_q (q_call rfl fn_81 rfl (fun w1 h1 => c81 w1 _ _)) rfl ?_
 refine o_h (h_buildSlice (cs := [_, _]) rfl rfl sl_165 zr_31 rfl rfl rfl) rfl (fun b4 _ => ?_)
 refine o_q (q_call rfl fn_75 rfl (fun w1 h1 => f75 h1 aPk (by rfl) (by rfl) (by decide))) rfl ?_
 refine o_slot (show _ = Value.int .i64 (if (if colE12 co = 0 then sizE mo rm else colE12 co) = 0 then (if 200 < l.length then 8 else 0) else (if colE12 co = 0 then sizE mo rm else colE12 co)) from by rw [bld_d]) ?_
 iterate 7 refine aS ?_
 refine s_cond rfl (fun h5 => ?_) fun h5 => ?_
 ·try simp only [Bool.not_eq_true', decide_eq_false_iff_not] at h5
  iterate 2 refine aS ?_
  refine o_p (p_build (cs := [_, _, _, _]) rfl rfl pl_24 zr_24 rfl) rfl ?_
  refine aS ?_
  refine oSt ?_
  iterate 3 refine aS ?_
  exact s_retv (rs := [.cell 8 24, .tmp 9, .tmp 10]) rfl (.cell rfl sz_24 aPk rfl (.tmp rfl (.tmp rfl (.nil)))) (fun w' h' => ⟨rfl, h'.below⟩)
 try simp only [Bool.not_eq_false', decide_eq_true_eq] at h5
 exfalso; first | omega | (simp at h5; done) | (simp_all; done)
theorem c29k (w : World) (j : Nat) (mo rm : Int) (hj : j ≤ 3) (hs0 : sizE mo rm = 0) : Calls Tryz.prog 29 #[.int .i64 (j : Int), .int .i64 mo, .int .i64 rm] w fun en w' => ∃ g : (Option Addr × Nat) × List LNd, en = .returned (.tuple #[.agg #[.int .i64 (j : Int), .int .i64 mo, .int .i64 rm, .slice g.1.1 g.2.length g.1.2], .int .i64 0]) ∧ pln g.2 = [⟨true, [], []⟩] ∧ HS w [] [.nodes 26 102 g.1.1 g.1.2 g.2] w' := by
  have hcE : colE12 (j : Int) = 0 := by unfold colE12; rw [if_pos (by omega)]
  have hEE : (if colE12 (j : Int) = 0 then sizE mo rm else colE12 (j : Int)) = 0 := by rw [if_pos hcE]; exact hs0
  have hemp : empT (j : Int) mo rm = ⟨(j : Int), mo, rm, [⟨true, [], []⟩]⟩ := by unfold empT; rw [if_pos hEE]
  have h9 := c29 w (j : Int) mo rm
  simp only [hemp, hEE] at h9
  exact h9
theorem c44x (w : World) (j : Nat) (mo rm : Int) (al : Option Addr) (ca : Nat) (l : List TEnt) (hs : Rw TEnt.vals 2 w [] al l) (hl9 : l.length ≤ 1000) (hl : l.length ≤ 118) (hj : j ≤ 3) (hs0 : sizE mo rm = 0) (hlk : ∀ x ∈ l, x.key.length ≤ 1000000) (hx : ¬ (eachF (bldEs (j : Int) mo rm l) 0).2 = 0) : Calls Tryz.prog 44 #[.int .i64 (j : Int), .int .i64 mo, .int .i64 rm, .slice al l.length ca] w fun en w' => en = .returned (.tuple #[.agg #[.int .i64 0, .int .i64 0, .int .i64 0, .slice none 0 0], .int .i64 (eachF (bldEs (j : Int) mo rm l) 0).1, .int .i64 (eachF (bldEs (j : Int) mo rm l) 0).2]) ∧ Below w.heap.size w w' := by
 have hz := sz_of hs0
 have hb1 := bld_one (co := (j : Int)) hz
 refine enter (args := [_, _, _, _]) Tryz.func44 Tryz.ntmps44 rfl rfl (HS.refl w []) ?_
 iterate 2 refine aS ?_
 refine oBx fun b1 _ => ?_
 refine oAl (fun b2 _ => ?_) zr_24
 iterate 8 refine aS ?_
 refine o_h (h_call rfl fn_29 rfl (fun w1 h1 => c29k w1 j mo rm hj hs0)) rfl (fun ⟨⟨ae, ce⟩, LE⟩ hLE => ?_)
 dsimp only
 have hLE2 : pln LE = [⟨true, [], []⟩] := hLE
 have hLEn : LE.length = 1 := by rw [← pln_len, hLE2]; rfl
 iterate 3 refine aS ?_
 refine oAl (fun b3 _ => ?_) zr_24
 refine oSt ?_
 iterate 9 refine aS ?_
 refine o_q (q_call rfl fn_81 rfl (fun w1 h1 => c81 w1 _ _)) rfl ?_
 refine o_h (h_buildSlice (cs := [_, _]) rfl rfl sl_165 zr_31 rfl rfl rfl) rfl (fun b4 _ => ?_)
 refine o_q (q_call rfl fn_75 rfl (fun w1 h1 => f75 h1 aPk (by rfl) (by rfl) (by decide))) rfl ?_
 refine o_slot (show _ = Value.int .i64 0 from by rw [bld_d, if_pos rfl, if_neg (by omega)]) ?_
 iterate 7 refine aS ?_
 refine s_cond rfl (fun h5 => ?_) fun h5 => ?_
 ·try simp only [Bool.not_eq_true', decide_eq_false_iff_not] at h5
  exfalso; first | omega | (simp at h5; done) | (simp_all; done)
 try simp only [Bool.not_eq_false', decide_eq_true_eq] at h5
 iterate 4 refine aS ?_
 refine o_h (h_call rfl fn_88 rfl (fun w1 h1 => c88 w1 j mo rm ae ce LE (HS.nt h1 aPk) (by rw [hLE2]; exact hb1.bd hz (by omega)) hj (by omega))) rfl (fun ⟨b9, ⟨a9, c9⟩, L9⟩ hF9 => ?_)
 dsimp only
 have hF92 : pln L9 = pln LE := hF9
 refine o_ex (fun w h => nodes_split (by rw [← pln_len, hF92, pln_len]; omega) h aPk) fun g9 => ?_
 refine o_fact (fun w h => h.1) fun hg9 => ?_
 refine o_fact (fun w h => h.2.1) fun hn9 => ?_
 refine o_fact (fun w h => h.2.2.1) fun hm9 => ?_
 refine o_class (fun w h => h.2.2.2) ?_
 subst hg9
 refine oAl (fun b6 _ => ?_) zr_103
 refine oSt ?_
 iterate 6 refine aS ?_
 refine o_h (h_callF (Cs := [.blk b9 112 6 (tbV (j : Int) mo rm (some ⟨g9, 0, none⟩) (L9).length c9), .blk g9 102 (c9 * 3) ((L9).flatMap LNd.vals), .star ((L9).map (subN 26))]) rfl fn_89 rfl aPs (fun w1 h1 hf => c89B w1 b9 j mo rm g9 c9 L9 al ca l b1 b6 _ _ _ hf hn9 hm9 hj hz hl hlk ((hs.keep h1).mono (fps_pick aPs)) (by rw [hF9, hLE2]; rfl) (h1.rd_blkF aPs (b := b1) aPk rfl) (h1.rd_blkF aPs (b := b6) aPk rfl))) rfl (fun ⟨⟨g5, c5⟩, L5⟩ hF5 => ?_)
 iterate 7 refine aS ?_
 refine s_weaken (L' := [(3, _), (8, _), (9, _), (10, _), (13, _), (14, _), (15, _)]) aSx (fun _ h => h) ?_
 iterate 4 refine aS ?_
 refine s_cond rfl (fun h7 => ?_) fun h7 => ?_
 ·try simp only [Bool.not_eq_true', decide_eq_false_iff_not] at h7
  iterate 2 refine aS ?_
  refine o_p (p_build (cs := [_, _, _, _]) rfl rfl pl_24 zr_24 rfl) rfl ?_
  iterate 2 refine aS ?_
  refine oSt ?_
  iterate 3 refine aS ?_
  exact s_retv (rs := [.cell 8 24, .tmp 9, .tmp 10]) rfl (.cell rfl sz_24 aPk rfl (.tmp rfl (.tmp rfl (.nil)))) (fun w' h' => ⟨rfl, h'.below⟩)
 try simp only [Bool.not_eq_false', decide_eq_true_eq] at h7
 exfalso; first | omega | (simp at h7; done) | (simp_all; done)
theorem c44o (w : World) (j : Nat) (mo rm : Int) (al : Option Addr) (ca : Nat) (l : List TEnt) (hs : Rw TEnt.vals 2 w [] al l) (hl9 : l.length ≤ 1000) (hl : l.length ≤ 118) (hj : j ≤ 3) (hs0 : sizE mo rm = 0) (hlk : ∀ x ∈ l, x.key.length ≤ 1000000) (hx : (eachF (bldEs (j : Int) mo rm l) 0).2 = 0) : Calls Tryz.prog 44 #[.int .i64 (j : Int), .int .i64 mo, .int .i64 rm, .slice al l.length ca] w fun en w' => ∃ g : (Nat × Nat) × List LNd, en = .returned (.tuple #[.agg #[.int .i64 (j : Int), .int .i64 mo, .int .i64 rm, .slice (some ⟨g.1.1, 0, none⟩) g.2.length g.1.2], .int .i64 (l.length : Int), .int .i64 0]) ∧ pln g.2 = (bldN (j : Int) mo rm l l.length) ∧ HS w [] [.nodes 26 102 (some ⟨g.1.1, 0, none⟩) g.1.2 g.2] w' := by
 have hz := sz_of hs0
 have hb1 := bld_one (co := (j : Int)) hz
 refine enter (args := [_, _, _, _]) Tryz.func44 Tryz.ntmps44 rfl rfl (HS.refl w []) ?_
 iterate 2 refine aS ?_
 refine oBx fun b1 _ => ?_
 refine oAl (fun b2 _ => ?_) zr_24
 iterate 8 refine aS ?_
 refine o_h (h_call rfl fn_29 rfl (fun w1 h1 => c29k w1 j mo rm hj hs0)) rfl (fun ⟨⟨ae, ce⟩, LE⟩ hLE => ?_)
 dsimp only
 have hLE2 : pln LE = [⟨true, [], []⟩] := hLE
 have hLEn : LE.length = 1 := by rw [← pln_len, hLE2]; rfl
 iterate 3 refine aS ?_
 refine oAl (fun b3 _ => ?_) zr_24
 refine oSt ?_
 iterate 9 refine aS ?_
 refine o_q (q_call rfl fn_81 rfl (fun w1 h1 => c81 w1 _ _)) rfl ?_
 refine o_h (h_buildSlice (cs := [_, _]) rfl rfl sl_165 zr_31 rfl rfl rfl) rfl (fun b4 _ => ?_)
 refine o_q (q_call rfl fn_75 rfl (fun w1 h1 => f75 h1 aPk (by rfl) (by rfl) (by decide))) rfl ?_
 refine o_slot (show _ = Value.int .i64 0 from by rw [bld_d, if_pos rfl, if_neg (by omega)]) ?_
 iterate 7 refine aS ?_
 refine s_cond rfl (fun h5 => ?_) fun h5 => ?_
 ·try simp only [Bool.not_eq_true', decide_eq_false_iff_not] at h5
  exfalso; first | omega | (simp at h5; done) | (simp_all; done)
 try simp only [Bool.not_eq_false', decide_eq_true_eq] at h5
 iterate 4 refine aS ?_
 refine o_h (h_call rfl fn_88 rfl (fun w1 h1 => c88 w1 j mo rm ae ce LE (HS.nt h1 aPk) (by rw [hLE2]; exact hb1.bd hz (by omega)) hj (by omega))) rfl (fun ⟨b9, ⟨a9, c9⟩, L9⟩ hF9 => ?_)
 dsimp only
 have hF92 : pln L9 = pln LE := hF9
 refine o_ex (fun w h => nodes_split (by rw [← pln_len, hF92, pln_len]; omega) h aPk) fun g9 => ?_
 refine o_fact (fun w h => h.1) fun hg9 => ?_
 refine o_fact (fun w h => h.2.1) fun hn9 => ?_
 refine o_fact (fun w h => h.2.2.1) fun hm9 => ?_
 refine o_class (fun w h => h.2.2.2) ?_
 subst hg9
 refine oAl (fun b6 _ => ?_) zr_103
 refine oSt ?_
 iterate 6 refine aS ?_
 refine o_h (h_callF (Cs := [.blk b9 112 6 (tbV (j : Int) mo rm (some ⟨g9, 0, none⟩) (L9).length c9), .blk g9 102 (c9 * 3) ((L9).flatMap LNd.vals), .star ((L9).map (subN 26))]) rfl fn_89 rfl aPs (fun w1 h1 hf => c89B w1 b9 j mo rm g9 c9 L9 al ca l b1 b6 _ _ _ hf hn9 hm9 hj hz hl hlk ((hs.keep h1).mono (fps_pick aPs)) (by rw [hF9, hLE2]; rfl) (h1.rd_blkF aPs (b := b1) aPk rfl) (h1.rd_blkF aPs (b := b6) aPk rfl))) rfl (fun ⟨⟨g5, c5⟩, L5⟩ hF5 => ?_)
 iterate 7 refine aS ?_
 refine s_weaken (L' := [(3, _), (8, _), (9, _), (10, _), (13, _), (14, _), (15, _)]) aSx (fun _ h => h) ?_
 iterate 4 refine aS ?_
 refine s_cond rfl (fun h7 => ?_) fun h7 => ?_
 ·try simp only [Bool.not_eq_true', decide_eq_false_iff_not] at h7
  exfalso; first | omega | (simp at h7; done) | (simp_all; done)
 try simp only [Bool.not_eq_false', decide_eq_true_eq] at h7
 iterate 9 refine aS ?_
 refine oSt ?_
 iterate 3 refine aS ?_
 exact s_retv (rs := [.cell 8 24, .tmp 9, .tmp 10]) rfl (.cell rfl sz_24 aPk rfl (.tmp rfl (.tmp rfl (.nil)))) (fun w' h' => ⟨((g5, c5), L5), rfl, hF5.1 hx, (nodes_join (h'.ent (Bs := [.blk g5 102 (c5 * 3) (L5.flatMap LNd.vals), .star (L5.map (subN 26))]) aEt) hF5.2.1 hF5.2.2)⟩)
theorem fn_44 : isFn Tryz.prog 44 = true := by kernel_rfl
theorem bld_d2 (E : Int) (n : Nat) (h : ¬ (E = 0 ∧ 200 < n)) : (if E = 0 then (if 200 < n then 8 else 0) else E) = E := by
  by_cases h1 : E = 0
  · rw [if_pos h1, if_neg fun h2 => h ⟨h1, h2⟩, h1]
  · rw [if_neg h1]
set_option maxHeartbeats 400000 in
theorem c9z (w : World) (co mo rm : Int) (al : Option Addr) (ca : Nat) (l : List TEnt) (hs : Rw TEnt.vals 2 w [] al l) (hz : ¬ ((¬ (60 < l.length ∧ l.length ≤ 200) ∧ l.length ≤ 202) ∧ tshortB l = true)) : Calls Tryz.prog 9 #[.int .i64 co, .agg #[.int .i64 mo, .int .i64 rm], .slice al l.length ca] w fun en w' => en = .returned (.bool true) ∧ Below w.heap.size w w' := by
 refine enter (args := [_, _, _]) Tryz.func9 Tryz.ntmps9 rfl rfl (HS.refl w []) ?_
 iterate 2 refine aS ?_
 refine oBx fun b1 _ => ?_
 iterate 5 refine aS ?_
 refine o_q (q_call rfl fn_13 rfl (fun w1 h1 => c13 w1)) rfl ?_
 iterate 2 refine aS ?_
 refine s_cond rfl (fun h2 => ?_) fun h2 => ?_
 ·try simp only [Bool.not_true] at h2
  exfalso; simp at h2
 try simp only [Bool.not_true] at h2
 iterate 8 refine aS ?_
 refine o_and 4 20 24 _ _ rfl
  (by
   intro hg3
   have hs4 := hg3; try simp only [decide_eq_true_eq] at hs4
   refine oOn 20 hg3 ?_
   refine aS ?_
   refine oOn 20 hg3 ?_
   refine aS ?_
   refine oOn 20 hg3 ?_
   refine aS ?_
   refine o_p (p_pickt rfl rfl hg3 rfl) rfl ?_
   refine aS ?_
   exact oJn 4 24)
  (by
   intro hg5
   have hs6 := hg5; try simp only [decide_eq_false_iff_not] at hs6
   refine oOf 20 hg5 ?_
   refine oOf 20 hg5 ?_
   refine oOf 20 hg5 ?_
   refine o_p (p_pickf rfl rfl hg5 rfl) rfl ?_
   refine aS ?_
   exact oJn 4 24) ?_
 refine aS ?_
 refine o_or 4 25 29 _ _ rfl
  (by
   intro hg7
   have hs8 := hg7; try simp only [Bool.and_eq_false_iff, decide_eq_false_iff_not] at hs8
   refine oOn 25 hg7 ?_
   refine aS ?_
   refine oOn 25 hg7 ?_
   refine aS ?_
   refine oOn 25 hg7 ?_
   refine aS ?_
   refine o_p (p_pickf rfl rfl hg7 rfl) rfl ?_
   refine aS ?_
   exact oJn 4 29)
  (by
   intro hg9
   have hs10 := hg9; try simp only [Bool.and_eq_true, decide_eq_true_eq] at hs10
   refine oOf 25 hg9 ?_
   refine oOf 25 hg9 ?_
   refine oOf 25 hg9 ?_
   refine o_p (p_pickt rfl rfl hg9 rfl) rfl ?_
   refine aS ?_
   exact oJn 4 29) ?_
 refine aS ?_
 refine o_or 4 30 34 _ _ rfl
  (by
   intro hg11
   have hs12 := hg11; try simp only [Bool.or_eq_false_iff, Bool.and_eq_false_iff, decide_eq_false_iff_not] at hs12
   refine oOn 30 hg11 ?_
   refine aS ?_
   refine oOn 30 hg11 ?_
   refine o_q (q_call rfl fn_43 rfl (fun w1 h1 => c43 w1 al ca l (hs.later h1.nil) (by omega))) rfl ?_
   refine oOn 30 hg11 ?_
   refine aS ?_
   refine o_p (p_pickf rfl rfl hg11 rfl) rfl ?_
   refine aS ?_
   exact oJn 4 34)
  (by
   intro hg13
   have hs14 := hg13; try simp only [Bool.or_eq_true, Bool.and_eq_true, decide_eq_true_eq] at hs14
   refine oOf 30 hg13 ?_
   refine oOf 30 hg13 ?_
   refine oOf 30 hg13 ?_
   refine o_p (p_pickt rfl rfl hg13 rfl) rfl ?_
   refine aS ?_
   exact oJn 4 34) ?_
 refine aS ?_
 refine s_cond rfl (fun h15 => ?_) fun h15 => ?_
 ·try simp only [Bool.or_eq_true, Bool.and_eq_true, decide_eq_true_eq, Bool.not_eq_true'] at h15
  iterate 4 refine aS ?_
  exact s_retv (rs := [.tmp 6]) rfl (.tmp rfl (.nil)) (fun w' h' => ⟨by rfl, h'.below⟩)
 try simp only [Bool.or_eq_false_iff, Bool.and_eq_false_iff, decide_eq_false_iff_not, Bool.not_eq_false'] at h15
 exfalso; obtain ⟨⟨q1, q2⟩, q3⟩ := h15; exact hz ⟨⟨by omega, by omega⟩, q3⟩
set_option maxHeartbeats 400000 in
theorem c9e (w : World) (co mo rm : Int) (al : Option Addr) (ca : Nat) (l : List TEnt) (hs : Rw TEnt.vals 2 w [] al l) (h60 : ¬ (60 < l.length ∧ l.length ≤ 200)) (h202 : l.length ≤ 202) (hsh : tshortB l = true) (he : ¬ (if (if colE12 co = 0 then sizE mo rm else colE12 co) = 0 then (if 200 < l.length then 8 else 0) else (if colE12 co = 0 then sizE mo rm else colE12 co)) = 0) : Calls Tryz.prog 9 #[.int .i64 co, .agg #[.int .i64 mo, .int .i64 rm], .slice al l.length ca] w fun en w' => en = .returned (.bool true) ∧ Below w.heap.size w w' := by
 have hlk : ∀ x ∈ l, x.key.length ≤ 1000000 := fun x hx => by have h9 := List.all_eq_true.1 hsh x hx; rw [tslimB, decide_eq_true_eq] at h9; omega
 refine enter (args := [_, _, _]) Tryz.func9 Tryz.ntmps9 rfl rfl (HS.refl w []) ?_
 iterate 2 refine aS ?_
 refine oBx fun b1 _ => ?_
 iterate 5 refine aS ?_
 refine o_q (q_call rfl fn_13 rfl (fun w1 h1 => c13 w1)) rfl ?_
 iterate 2 refine aS ?_
 refine s_cond rfl (fun h2 => ?_) fun h2 => ?_
 ·try simp only [Bool.not_true] at h2
  exfalso; simp at h2
 try simp only [Bool.not_true] at h2
 iterate 8 refine aS ?_
 refine o_and 4 20 24 _ _ rfl
  (by
   intro hg3
   have hs4 := hg3; try simp only [decide_eq_true_eq] at hs4
   refine oOn 20 hg3 ?_
   refine aS ?_
   refine oOn 20 hg3 ?_
   refine aS ?_
   refine oOn 20 hg3 ?_
   refine aS ?_
   refine o_p (p_pickt rfl rfl hg3 rfl) rfl ?_
   refine aS ?_
   exact oJn 4 24)
  (by
   intro hg5
   have hs6 := hg5; try simp only [decide_eq_false_iff_not] at hs6
   refine oOf 20 hg5 ?_
   refine oOf 20 hg5 ?_
   refine oOf 20 hg5 ?_
   refine o_p (p_pickf rfl rfl hg5 rfl) rfl ?_
   refine aS ?_
   exact oJn 4 24) ?_
 refine aS ?_
 refine o_or 4 25 29 _ _ rfl
  (by
   intro hg7
   have hs8 := hg7; try simp only [Bool.and_eq_false_iff, decide_eq_false_iff_not] at hs8
   refine oOn 25 hg7 ?_
   refine aS ?_
   refine oOn 25 hg7 ?_
   refine aS ?_
   refine oOn 25 hg7 ?_
   refine aS ?_
   refine o_p (p_pickf rfl rfl hg7 rfl) rfl ?_
   refine aS ?_
   exact oJn 4 29)
  (by
   intro hg9
   have hs10 := hg9; try simp only [Bool.and_eq_true, decide_eq_true_eq] at hs10
   refine oOf 25 hg9 ?_
   refine oOf 25 hg9 ?_
   refine oOf 25 hg9 ?_
   refine o_p (p_pickt rfl rfl hg9 rfl) rfl ?_
   refine aS ?_
   exact oJn 4 29) ?_
 refine aS ?_
 refine o_or 4 30 34 _ _ rfl
  (by
   intro hg11
   have hs12 := hg11; try simp only [Bool.or_eq_false_iff, Bool.and_eq_false_iff, decide_eq_false_iff_not] at hs12
   refine oOn 30 hg11 ?_
   refine aS ?_
   refine oOn 30 hg11 ?_
   refine o_q (q_call rfl fn_43 rfl (fun w1 h1 => c43 w1 al ca l (hs.later h1.nil) (by omega))) rfl ?_
   refine oOn 30 hg11 ?_
   refine aS ?_
   refine o_p (p_pickf rfl rfl hg11 rfl) rfl ?_
   refine aS ?_
   exact oJn 4 34)
  (by
   intro hg13
   have hs14 := hg13; try simp only [Bool.or_eq_true, Bool.and_eq_true, decide_eq_true_eq] at hs14
   refine oOf 30 hg13 ?_
   refine oOf 30 hg13 ?_
   refine oOf 30 hg13 ?_
   refine o_p (p_pickt rfl rfl hg13 rfl) rfl ?_
   refine aS ?_
   exact oJn 4 34) ?_
 refine aS ?_
 refine s_cond rfl (fun h15 => ?_) fun h15 => ?_
 ·try simp only [Bool.or_eq_true, Bool.and_eq_true, decide_eq_true_eq, Bool.not_eq_true'] at h15
  exfalso; revert h15; simp [hsh]; omega
 try simp only [Bool.or_eq_false_iff, Bool.and_eq_false_iff, decide_eq_false_iff_not, Bool.not_eq_false'] at h15
 iterate 2 refine aS ?_
 refine s_weaken (L' := [(0, _), (2, _), (4, _), (6, _)]) aSx (fun _ h => h) ?_
 refine s_cutI (α := Nat) [7, 8, 9, 35, 36, 37, 38, 39, 40, 41, 42, 43, 44, 45, 46] (fun y => [(7, .pointer (some ⟨y, 0, none⟩)), (8, .int .i64 0), (9, .int .i64 (if (if colE12 co = 0 then sizE mo rm else colE12 co) = 0 then (if 200 < l.length then 8 else 0) else (if colE12 co = 0 then sizE mo rm else colE12 co)))]) (fun y => HS w [] [.blk y 24 4 [.int .i64 0, .int .i64 0, .int .i64 0, .slice none 0 0], .blk b1 49 2 [.int .i64 mo, .int .i64 rm]]) (fun _ => True) ?_ ?_
 ·skip
  refine s_draw [13] mixed ?_
  refine dP 0 ?_
  refine d_p 1 rfl (p_indexAddr_arr rfl rfl rfl ar_49 (Int.toNat _) (Int.toNat_of_nonneg (by omega)).symm (by omega)) (by kernel_rfl) rfl rfl ?_
  refine dLd 2 [[]] ?_
  refine d_p 3 rfl (p_indexAddr_arr rfl rfl rfl ar_49 (Int.toNat _) (Int.toNat_of_nonneg (by omega)).symm (by omega)) (by kernel_rfl) rfl rfl ?_
  refine dLd 4 [[]] ?_
  refine dP 5 ?_
  refine d_two 6 12 rfl rfl  (h_call rfl fn_45 rfl (fun w1 h1 => c45 w1 al ca l (hs.later h1.nil) (by omega))) (h_alloc rfl zr_24) (by kernel_rfl) (fun w h => h.ent aEt) rfl rfl  (fun ⟨ga, gc⟩ _ => ?_) (fun b16 _ => ?_)
  ·skip
   refine dBa ?_
   refine d_q 7 [[]] rfl (q_call rfl fn_44 rfl (fun w1 h1 => c44e w1 co mo rm ga gc l (HS.rw_own ev2 h1 aPk rfl) (by omega) he)) (by kernel_rfl) (by kernel_rfl) (by kernel_rfl) rfl ?_
   refine dP 8 ?_
   refine dP 9 ?_
   refine dP 10 ?_
   refine dP 11 ?_
   refine d_h 12 rfl (h_alloc rfl zr_24) (by kernel_rfl) (fun w h => h.ent aEt) rfl (fun b17 _ => ?_)
   refine dBa ?_
   refine dSt 13 ?_ (hl := (by simp only [setMany_length, List.length_set, List.length_cons, List.length_nil, List.length_map]; omega))
   refine dTu [] ?_
   refine dP 14 ?_
   refine dP 15 ?_
   refine dNi ?_
   exact s_joinI b17 trivial aSx (fun w h => h.ent aEt)
  skip
  refine dBa ?_
  refine d_h 6 rfl (h_call rfl fn_45 rfl (fun w1 h1 => c45 w1 al ca l (hs.later h1.nil) (by omega))) (by kernel_rfl) (fun w h => h.ent aEt) rfl (fun ⟨ga, gc⟩ _ => ?_)
  refine dBa ?_
  refine d_q 7 [[]] rfl (q_call rfl fn_44 rfl (fun w1 h1 => c44e w1 co mo rm ga gc l (HS.rw_own ev2 h1 aPk rfl) (by omega) he)) (by kernel_rfl) (by kernel_rfl) (by kernel_rfl) rfl ?_
  refine dP 8 ?_
  refine dP 9 ?_
  refine dP 10 ?_
  refine dP 11 ?_
  refine dSt 13 ?_ (hl := (by simp only [setMany_length, List.length_set, List.length_cons, List.length_nil, List.length_map]; omega))
  refine dTu [] ?_
  refine dP 14 ?_
  refine dP 15 ?_
  refine dNi ?_
  exact s_joinI b16 trivial aSx (fun w h => h.ent aEt)
 intro y _
 iterate 3 refine aS ?_
 refine o_q (q_call rfl fn_30 rfl (fun w1 h1 => c30 w1 co)) rfl ?_
 iterate 8 refine aS ?_
 refine s_cutI (α := Nat) [10, 51, 52, 53, 54, 55] (fun _ => [(10, .int .i64 (if colE12 co = 0 then sizE mo rm else colE12 co))]) (fun _ => HS w [] [.blk y 24 4 [.int .i64 0, .int .i64 0, .int .i64 0, .slice none 0 0], .blk b1 49 2 [.int .i64 mo, .int .i64 rm]]) (fun _ => True) ?_ ?_
 ·skip
  refine s_cond rfl (fun h18 => ?_) fun h18 => ?_
  ·try simp only [decide_eq_true_eq] at h18
   refine aS ?_
   refine o_p (p_indexAddr_arr rfl rfl rfl ar_49 (Int.toNat _) (Int.toNat_of_nonneg (by omega)).symm (by omega)) rfl ?_
   refine aS ?_
   refine o_p (p_indexAddr_arr rfl rfl rfl ar_49 (Int.toNat _) (Int.toNat_of_nonneg (by omega)).symm (by omega)) rfl ?_
   refine aS ?_
   refine o_q (q_call rfl fn_31 rfl (fun w1 h1 => c31 w1 mo rm)) rfl ?_
   iterate 2 refine aS ?_
   exact s_joinI 0 trivial (by have hD : (if colE12 co = 0 then sizE mo rm else colE12 co) = sizE mo rm := if_pos h18; rw [hD]; exact aSx) (fun w h => h.ent aEt)
  try simp only [decide_eq_false_iff_not] at h18
  refine aS ?_
  exact s_joinI 0 trivial (by have hD : (if colE12 co = 0 then sizE mo rm else colE12 co) = colE12 co := if_neg h18; rw [hD]; exact aSx) (fun w h => h.ent aEt)
 intro q1 _
 iterate 6 refine aS ?_
 refine o_and 4 58 62 _ _ rfl
  (by
   intro hg19
   have hs20 := hg19; try simp only [decide_eq_true_eq] at hs20
   refine oOn 58 hg19 ?_
   refine aS ?_
   refine oOn 58 hg19 ?_
   refine aS ?_
   refine oOn 58 hg19 ?_
   refine aS ?_
   refine o_p (p_pickt rfl rfl hg19 rfl) rfl ?_
   refine aS ?_
   exact oJn 4 62)
  (by
   intro hg21
   have hs22 := hg21; try simp only [decide_eq_false_iff_not] at hs22
   refine oOf 58 hg21 ?_
   refine oOf 58 hg21 ?_
   refine oOf 58 hg21 ?_
   refine o_p (p_pickf rfl rfl hg21 rfl) rfl ?_
   refine aS ?_
   exact oJn 4 62) ?_
 refine aS ?_
 refine s_cutI (α := Nat) [10] (fun _ => [(10, .int .i64 (if (if colE12 co = 0 then sizE mo rm else colE12 co) = 0 then (if 200 < l.length then 8 else 0) else (if colE12 co = 0 then sizE mo rm else colE12 co)))]) (fun _ => HS w [] [.blk y 24 4 [.int .i64 0, .int .i64 0, .int .i64 0, .slice none 0 0], .blk b1 49 2 [.int .i64 mo, .int .i64 rm]]) (fun _ => True) ?_ ?_
 ·skip
  refine s_cond rfl (fun h23 => ?_) fun h23 => ?_
  ·try simp only [Bool.and_eq_true, decide_eq_true_eq] at h23
   iterate 3 refine aS ?_
   exact s_joinI 0 trivial (by have hq := h23; have hD : (if (if colE12 co = 0 then sizE mo rm else colE12 co) = 0 then (if 200 < l.length then 8 else 0) else (if colE12 co = 0 then sizE mo rm else colE12 co)) = 8 := (by rw [if_pos hq.1, if_pos (by omega)]); rw [hD]; exact aSx) (fun w h => h.ent aEt)
  try simp only [Bool.and_eq_false_iff, decide_eq_false_iff_not] at h23
  refine aS ?_
  exact s_joinI 0 trivial (by have hq := h23; rw [bld_d2 (if colE12 co = 0 then sizE mo rm else colE12 co) l.length (fun h9 => hq.elim (fun h => h h9.1) (fun h => h (by omega)))]; exact aSx) (fun w h => h.ent aEt)
 intro q2 _
 iterate 6 refine aS ?_
 refine s_cond rfl (fun h24 => ?_) fun h24 => ?_
 ·try simp only [Bool.not_eq_true', decide_eq_false_iff_not] at h24
  iterate 6 refine aS ?_
  refine o_and 4 68 72 _ _ rfl
   (by
    intro hg25
    have hs26 := hg25; try simp only [decide_eq_true_eq] at hs26
    refine oOn 68 hg25 ?_
    refine aS ?_
    refine oOn 68 hg25 ?_
    refine o_p (p_build (cs := [_, _, _, _]) rfl rfl pl_24 zr_24 rfl) rfl ?_
    refine oOn 68 hg25 ?_
    refine o_q (q_call rfl fn_21 rfl (fun w1 h1 => c21 w1 0 0 0 none none 0 0 [] [] nt_nil nt_nil (by decide) (by decide) sm_nil sm_nil rfl)) rfl ?_
    refine o_p (p_pickt rfl rfl hg25 rfl) rfl ?_
    refine aS ?_
    exact oJn 4 72)
   (by
    intro hg27
    have hs28 := hg27; try simp only [decide_eq_false_iff_not] at hs28
    refine oOf 68 hg27 ?_
    refine oOf 68 hg27 ?_
    refine oOf 68 hg27 ?_
    refine o_p (p_pickf rfl rfl hg27 rfl) rfl ?_
    refine aS ?_
    exact oJn 4 72) ?_
  refine aS ?_
  refine o_and 3 73 76 _ _ rfl
   (by
    intro hg29
    have hs30 := hg29; try simp only [Bool.and_eq_true, decide_eq_true_eq] at hs30
    refine oOn 73 hg29 ?_
    refine aS ?_
    refine oOn 73 hg29 ?_
    refine aS ?_
    refine o_p (p_pickt rfl rfl hg29 rfl) rfl ?_
    refine aS ?_
    exact oJn 3 76)
   (by
    intro hg31
    have hs32 := hg31; try simp only [Bool.and_eq_false_iff, decide_eq_false_iff_not] at hs32
    refine oOf 73 hg31 ?_
    refine oOf 73 hg31 ?_
    refine o_p (p_pickf rfl rfl hg31 rfl) rfl ?_
    refine aS ?_
    exact oJn 3 76) ?_
  iterate 2 refine aS ?_
  exact s_retv (rs := [.tmp 6]) rfl (.tmp rfl (.nil)) (fun w' h' => ⟨by simp [retV], h'.below⟩)
 try simp only [Bool.not_eq_false', decide_eq_true_eq] at h24
 exfalso; first | exact he h24 | simp_all
set_option maxHeartbeats 400000 in
theorem c9x (w : World) (j : Nat) (mo rm : Int) (al : Option Addr) (ca : Nat) (l : List TEnt) (hs : Rw TEnt.vals 2 w [] al l) (hl : l.length ≤ 60) (hsh : tshortB l = true) (hj : j ≤ 3) (hs0 : sizE mo rm = 0) (hx : ¬ (eachF (bldEs (j : Int) mo rm l) 0).2 = 0) : Calls Tryz.prog 9 #[.int .i64 (j : Int), .agg #[.int .i64 mo, .int .i64 rm], .slice al l.length ca] w fun en w' => en = .returned (.bool true) ∧ Below w.heap.size w w' := by
 have hlk : ∀ x ∈ l, x.key.length ≤ 1000000 := fun x hx => by have h9 := List.all_eq_true.1 hsh x hx; rw [tslimB, decide_eq_true_eq] at h9; omega
 have hz := sz_of hs0
 have hcE : colE12 (j : Int) = 0 := by unfold colE12; rw [if_pos (by omega)]
 have hb1 := bld_one (co := (j : Int)) hz
 have hel := bldEs_len (co := (j : Int)) (mo := mo) (rm := rm) (l := l)
 refine enter (args := [_, _, _]) Tryz.func9 Tryz.ntmps9 rfl rfl (HS.refl w []) ?_
 iterate 2 refine aS ?_
 refine oBx fun b1 _ => ?_
 iterate 5 refine aS ?_
 refine o_q (q_call rfl fn_13 rfl (fun w1 h1 => c13 w1)) rfl ?_
 iterate 2 refine aS ?_
 refine s_cond rfl (fun h2 => ?_) fun h2 => ?_
 ·try simp only [Bool.not_true] at h2
  exfalso; simp at h2
 try simp only [Bool.not_true] at h2
 iterate 8 refine aS ?_
 refine o_and 4 20 24 _ _ rfl
  (by
   intro hg3
   have hs4 := hg3; try simp only [decide_eq_true_eq] at hs4
   refine oOn 20 hg3 ?_
   refine aS ?_
   refine oOn 20 hg3 ?_
   refine aS ?_
   refine oOn 20 hg3 ?_
   refine aS ?_
   refine o_p (p_pickt rfl rfl hg3 rfl) rfl ?_
   refine aS ?_
   exact oJn 4 24)
  (by
   intro hg5
   have hs6 := hg5; try simp only [decide_eq_false_iff_not] at hs6
   refine oOf 20 hg5 ?_
   refine oOf 20 hg5 ?_
   refine oOf 20 hg5 ?_
   refine o_p (p_pickf rfl rfl hg5 rfl) rfl ?_
   refine aS ?_
   exact oJn 4 24) ?_
 refine aS ?_
 refine o_or 4 25 29 _ _ rfl
  (by
   intro hg7
   have hs8 := hg7; try simp only [Bool.and_eq_false_iff, decide_eq_false_iff_not] at hs8
   refine oOn 25 hg7 ?_
   refine aS ?_
   refine oOn 25 hg7 ?_
   refine aS ?_
   refine oOn 25 hg7 ?_
   refine aS ?_
   refine o_p (p_pickf rfl rfl hg7 rfl) rfl ?_
   refine aS ?_
   exact oJn 4 29)
  (by
   intro hg9
   have hs10 := hg9; try simp only [Bool.and_eq_true, decide_eq_true_eq] at hs10
   refine oOf 25 hg9 ?_
   refine oOf 25 hg9 ?_
   refine oOf 25 hg9 ?_
   refine o_p (p_pickt rfl rfl hg9 rfl) rfl ?_
   refine aS ?_
   exact oJn 4 29) ?_
 refine aS ?_
 refine o_or 4 30 34 _ _ rfl
  (by
   intro hg11
   have hs12 := hg11; try simp only [Bool.or_eq_false_iff, Bool.and_eq_false_iff, decide_eq_false_iff_not] at hs12
   refine oOn 30 hg11 ?_
   refine aS ?_
   refine oOn 30 hg11 ?_
   refine o_q (q_call rfl fn_43 rfl (fun w1 h1 => c43 w1 al ca l (hs.later h1.nil) (by omega))) rfl ?_
   refine oOn 30 hg11 ?_
   refine aS ?_
   refine o_p (p_pickf rfl rfl hg11 rfl) rfl ?_
   refine aS ?_
   exact oJn 4 34)
  (by
   intro hg13
   have hs14 := hg13; try simp only [Bool.or_eq_true, Bool.and_eq_true, decide_eq_true_eq] at hs14
   refine oOf 30 hg13 ?_
   refine oOf 30 hg13 ?_
   refine oOf 30 hg13 ?_
   refine o_p (p_pickt rfl rfl hg13 rfl) rfl ?_
   refine aS ?_
   exact oJn 4 34) ?_
 refine aS ?_
 refine s_cond rfl (fun h15 => ?_) fun h15 => ?_
 ·try simp only [Bool.or_eq_true, Bool.and_eq_true, decide_eq_true_eq, Bool.not_eq_true'] at h15
  exfalso; revert h15; simp [hsh]; omega
 try simp only [Bool.or_eq_false_iff, Bool.and_eq_false_iff, decide_eq_false_iff_not, Bool.not_eq_false'] at h15
 iterate 2 refine aS ?_
 refine s_weaken (L' := [(0, _), (2, _), (4, _), (6, _)]) aSx (fun _ h => h) ?_
 refine s_cutI (α := Nat) [7, 8, 9, 35, 36, 37, 38, 39, 40, 41, 42, 43, 44, 45, 46] (fun y => [(7, .pointer (some ⟨y, 0, none⟩)), (8, .int .i64 (eachF (bldEs (j : Int) mo rm l) 0).1), (9, .int .i64 (eachF (bldEs (j : Int) mo rm l) 0).2)]) (fun y => HS w [] [.blk y 24 4 [.int .i64 0, .int .i64 0, .int .i64 0, .slice none 0 0], .blk b1 49 2 [.int .i64 mo, .int .i64 rm]]) (fun _ => True) ?_ ?_
 ·skip
  refine s_draw [13] mixed ?_
  refine dP 0 ?_
  refine d_p 1 rfl (p_indexAddr_arr rfl rfl rfl ar_49 (Int.toNat _) (Int.toNat_of_nonneg (by omega)).symm (by omega)) (by kernel_rfl) rfl rfl ?_
  refine dLd 2 [[]] ?_
  refine d_p 3 rfl (p_indexAddr_arr rfl rfl rfl ar_49 (Int.toNat _) (Int.toNat_of_nonneg (by omega)).symm (by omega)) (by kernel_rfl) rfl rfl ?_
  refine dLd 4 [[]] ?_
  refine dP 5 ?_
  refine d_two 6 12 rfl rfl  (h_call rfl fn_45 rfl (fun w1 h1 => c45 w1 al ca l (hs.later h1.nil) (by omega))) (h_alloc rfl zr_24) (by kernel_rfl) (fun w h => h.ent aEt) rfl rfl  (fun ⟨ga, gc⟩ _ => ?_) (fun b16 _ => ?_)
  ·skip
   refine dBa ?_
   refine d_q 7 [[]] rfl (q_call rfl fn_44 rfl (fun w1 h1 => c44x w1 j mo rm ga gc l (HS.rw_own ev2 h1 aPk rfl) (by omega) (by omega) hj hs0 hlk hx)) (by kernel_rfl) (by kernel_rfl) (by kernel_rfl) rfl ?_
   refine dP 8 ?_
   refine dP 9 ?_
   refine dP 10 ?_
   refine dP 11 ?_
   refine d_h 12 rfl (h_alloc rfl zr_24) (by kernel_rfl) (fun w h => h.ent aEt) rfl (fun b17 _ => ?_)
   refine dBa ?_
   refine dSt 13 ?_ (hl := (by simp only [setMany_length, List.length_set, List.length_cons, List.length_nil, List.length_map]; omega))
   refine dTu [] ?_
   refine dP 14 ?_
   refine dP 15 ?_
   refine dNi ?_
   exact s_joinI b17 trivial aSx (fun w h => h.ent aEt)
  skip
  refine dBa ?_
  refine d_h 6 rfl (h_call rfl fn_45 rfl (fun w1 h1 => c45 w1 al ca l (hs.later h1.nil) (by omega))) (by kernel_rfl) (fun w h => h.ent aEt) rfl (fun ⟨ga, gc⟩ _ => ?_)
  refine dBa ?_
  refine d_q 7 [[]] rfl (q_call rfl fn_44 rfl (fun w1 h1 => c44x w1 j mo rm ga gc l (HS.rw_own ev2 h1 aPk rfl) (by omega) (by omega) hj hs0 hlk hx)) (by kernel_rfl) (by kernel_rfl) (by kernel_rfl) rfl ?_
  refine dP 8 ?_
  refine dP 9 ?_
  refine dP 10 ?_
  refine dP 11 ?_
  refine dSt 13 ?_ (hl := (by simp only [setMany_length, List.length_set, List.length_cons, List.length_nil, List.length_map]; omega))
  refine dTu [] ?_
  refine dP 14 ?_
  refine dP 15 ?_
  refine dNi ?_
  exact s_joinI b16 trivial aSx (fun w h => h.ent aEt)
 intro y _
 iterate 3 refine aS ?_
 refine o_q (q_call rfl fn_30 rfl (fun w1 h1 => by have h9 := c30 w1 (j : Int); rw [hcE] at h9; exact h9)) rfl ?_
 iterate 8 refine aS ?_
 refine s_cond rfl (fun h18 => ?_) fun h18 => ?_
 ·try simp only [decide_eq_true_eq] at h18
  refine aS ?_
  refine o_p (p_indexAddr_arr rfl rfl rfl ar_49 (Int.toNat _) (Int.toNat_of_nonneg (by omega)).symm (by omega)) rfl ?_
  refine aS ?_
  refine o_p (p_indexAddr_arr rfl rfl rfl ar_49 (Int.toNat _) (Int.toNat_of_nonneg (by omega)).symm (by omega)) rfl ?_
  refine aS ?_
  refine o_q (q_call rfl fn_31 rfl (fun w1 h1 => by have h9 := c31 w1 mo rm; rw [hs0] at h9; exact h9)) rfl ?_
  iterate 8 refine aS ?_
  refine o_and 4 58 62 _ _ rfl
   (by
    intro hg19
    have hs20 := hg19; try simp only [decide_eq_true_eq] at hs20
    refine oOn 58 hg19 ?_
    refine aS ?_
    refine oOn 58 hg19 ?_
    refine aS ?_
    refine oOn 58 hg19 ?_
    refine aS ?_
    refine o_p (p_pickt rfl rfl hg19 rfl) rfl ?_
    refine aS ?_
    exact oJn 4 62)
   (by
    intro hg21
    have hs22 := hg21; try simp only [decide_eq_false_iff_not] at hs22
    refine oOf 58 hg21 ?_
    refine oOf 58 hg21 ?_
    refine oOf 58 hg21 ?_
    refine o_p (p_pickf rfl rfl hg21 rfl) rfl ?_
    refine aS ?_
    exact oJn 4 62) ?_
  refine aS ?_
  refine s_cond rfl (fun h23 => ?_) fun h23 => ?_
  ·try simp only [Bool.and_eq_true, decide_eq_true_eq] at h23
   exfalso; have hq := h23; simp at hq; omega
  try simp only [Bool.and_eq_false_iff, decide_eq_false_iff_not] at h23
  iterate 7 refine aS ?_
  refine s_cond rfl (fun h24 => ?_) fun h24 => ?_
  ·try simp only [Bool.not_eq_true', decide_eq_false_iff_not] at h24
   exfalso; simp at h24
  try simp only [Bool.not_eq_false', decide_eq_true_eq] at h24
  iterate 4 refine aS ?_
  refine o_p (p_indexAddr_arr rfl rfl rfl ar_49 (Int.toNat _) (Int.toNat_of_nonneg (by omega)).symm (by omega)) rfl ?_
  refine aS ?_
  refine o_p (p_indexAddr_arr rfl rfl rfl ar_49 (Int.toNat _) (Int.toNat_of_nonneg (by omega)).symm (by omega)) rfl ?_
  refine aS ?_
  refine o_h (h_call rfl fn_32 rfl (fun w1 h1 => c32 w1 (j : Int) mo rm)) rfl (fun ⟨ae, ce⟩ _ => ?_)
  dsimp only
  refine o_class (fun w h => nodes_one 26 (h.pick aPk)) ?_
  refine oAl (fun b25 _ => ?_) zr_24
  refine oSt ?_
  iterate 3 refine aS ?_
  refine s_weaken (L' := [(0, _), (2, _), (6, _), (7, _), (8, _), (9, _), (10, _), (11, _)]) aSx (fun _ h => h) ?_
  iterate 4 refine aS ?_
  refine s_loopI (α := (Nat × (Option Addr × Nat)) × List LNd) [6, 10, 12, 13, 14, 83, 84, 85, 86, 87, 88, 89, 90, 91, 92, 93, 94, 95, 96, 97, 98, 99, 100, 101, 102, 103, 104, 105, 106, 107, 108, 109, 110, 111, 112, 113, 114, 115, 116, 117, 118, 119, 120, 121, 122, 123, 124, 125, 126, 127, 128] (fun x => [(12, .int .i64 (x.1.1 : Int))]) (fun x => HS w [] [.blk b25 24 4 [.int .i64 (j : Int), .int .i64 mo, .int .i64 rm, .slice x.1.2.1 (x.2).length x.1.2.2], .nodes 26 102 x.1.2.1 x.1.2.2 x.2, .blk y 24 4 [.int .i64 0, .int .i64 0, .int .i64 0, .slice none 0 0], .blk b1 49 2 [.int .i64 mo, .int .i64 rm]]) (fun x => x.1.1 ≤ l.length ∧ (eachF (bldEs (j : Int) mo rm l) 0) = eachF ((bldEs (j : Int) mo rm l).drop x.1.1) x.1.1 ∧ (∀ i, i < x.1.1 → bldE (j : Int) mo rm l i = 0) ∧ pln x.2 = (bldN (j : Int) mo rm l x.1.1)) (fun x => l.length - x.1.1) ((0, (ae, ce)), [(⟨true, none, 0, [], none, 0, []⟩ : LNd)]) ⟨Nat.zero_le _, rfl, fun i h => absurd h (Nat.not_lt_zero i), rfl⟩ aSx (fun w h => h.ent aEt) (fun ⟨⟨k, gn1, cap1⟩, L1⟩ hx2 => ?_)
  dsimp only
  obtain ⟨hk1, hk2, hk3, hk4⟩ := hx2
  simp only [] at hk1 hk2 hk3 hk4
  have hbo := bld_ok (l := l) hz (show k ≤ 119 by omega) hk3
  have hp1 : 0 < L1.length := by have h9 := hbo.pos; rw [← hk4, pln_len] at h9; exact h9
  have hB1 : Bd (pln L1) := by rw [hk4]; exact hbo.bd hz (by omega)
  have hT1 : TOk (j : Int) (pln L1) := by rw [hk4]; exact hbo.tok
  have hbi := fun h : k < l.length => bld_ins (l := l) hz (show k < 119 by omega) hk3
  iterate 8 refine aS ?_
  refine s_cond rfl (fun h26 => ?_) fun h26 => ?_
  ·try simp only [decide_eq_true_eq] at h26
   iterate 8 refine aS ?_
   refine o_p (p_indexAddr rfl rfl rfl sl_77 _ rfl (by omega) (Rw.some hs (by omega))) rfl ?_
   refine o_q (q_load_oldn _ rfl rfl sz_26 rfl (Rw.rd hs (by omega))) rfl ?_
   refine o_q (q_call rfl fn_19 rfl (fun w1 h1 => c19 w1 j (nth l k) hj (hlk _ (mem_nth (by omega))))) rfl ?_
   iterate 8 refine aS ?_
   refine s_weaken (L' := [(0, _), (2, _), (7, _), (8, _), (9, _), (10, _), (11, _), (12, _), (96, _)]) aSx (fun _ h => h) ?_
   refine s_cutI (α := Nat) [10, 13, 14, 97, 98, 99, 100, 101, 102, 103, 104, 105, 106, 107] (fun _ => [(10, .int .i64 (bldE (j : Int) mo rm l k))]) (fun _ => HS w [] [.blk b25 24 4 [.int .i64 (j : Int), .int .i64 mo, .int .i64 rm, .slice ((k, (gn1, cap1)), L1).1.2.1 (((k, (gn1, cap1)), L1).2).length ((k, (gn1, cap1)), L1).1.2.2], .nodes 26 102 ((k, (gn1, cap1)), L1).1.2.1 ((k, (gn1, cap1)), L1).1.2.2 ((k, (gn1, cap1)), L1).2, .blk y 24 4 [.int .i64 0, .int .i64 0, .int .i64 0, .slice none 0 0], .blk b1 49 2 [.int .i64 mo, .int .i64 rm]]) (fun _ => True) ?_ ?_
   ·skip
    refine s_cond rfl (fun h27 => ?_) fun h27 => ?_
    ·try simp only [decide_eq_true_eq] at h27
     have hx0 : entE (j : Int) (nth l k) = 0 := by have hq := h27; exact hq
     refine aS ?_
     refine s_draw [] mixed ?_
     refine dLn 0 [] ?_
     refine dP 1 ?_
     refine dP 2 ?_
     refine d_p 3 rfl (p_indexAddr rfl rfl rfl sl_77 _ rfl (by omega) (Rw.some hs (by omega))) (by kernel_rfl) rfl rfl ?_
     refine dFa 4 ?_
     refine d_q 5 [] rfl (q_load_old rfl rfl sz_9 ((hs.rdj 0 (by omega) rfl))) (by kernel_rfl) (by kernel_rfl) (by kernel_rfl) rfl ?_
     refine d_h 6 rfl (h_call rfl fn_20 rfl (fun w1 h1 => c20 w1 j mo rm gn1 cap1 L1 (nth l k).key hj hp1 hB1 hT1 (HS.nt h1 aPk) (entE_key hx0) (hlk _ (mem_nth (by omega))))) (by kernel_rfl) (fun w h => h.ent aEt) rfl (fun ⟨pa, pc⟩ _ => ?_)
     refine dBa ?_
     refine dP 7 ?_
     refine dP 8 ?_
     refine dP 9 ?_
     refine dP 10 ?_
     refine dP 11 ?_
     refine dNi ?_
     iterate 4 refine aS ?_
     refine s_cond rfl (fun h28 => ?_) fun h28 => ?_
     ·skip
      have hf0 : (pathN (j : Int) (pln L1) (nth l k).key).2.2 = true := h28
      iterate 3 refine aS ?_
      exact s_joinI 0 trivial (by have hD : bldE (j : Int) mo rm l k = 5 := (by rw [hbi (by omega), if_pos hx0, ← hk4, if_pos hf0]); rw [hD]; exact aSx) (fun w h => h.ent aEt)
     skip
     have hf0 : ¬ (pathN (j : Int) (pln L1) (nth l k).key).2.2 = true := by have hq := h28; simp [hq]
     refine aS ?_
     exact s_joinI 0 trivial (by have hD : bldE (j : Int) mo rm l k = entE (j : Int) (nth l k) := (by rw [hbi (by omega), if_pos hx0, ← hk4, if_neg hf0, hx0]); rw [hD]; exact aSx) (fun w h => h.ent aEt)
    try simp only [decide_eq_false_iff_not] at h27
    have hx0 : ¬ entE (j : Int) (nth l k) = 0 := by have hq := h27; exact hq
    refine aS ?_
    exact s_joinI 0 trivial (by have hD : bldE (j : Int) mo rm l k = entE (j : Int) (nth l k) := (by rw [hbi (by omega), if_neg hx0]); rw [hD]; exact aSx) (fun w h => h.ent aEt)
   intro q6 _
   iterate 6 refine aS ?_
   refine s_cond rfl (fun h29 => ?_) fun h29 => ?_
   ·try simp only [Bool.not_eq_true', decide_eq_false_iff_not] at h29
    have hb0 : ¬ bldE (j : Int) mo rm l k = 0 := by have hq := h29; exact hq
    have heE : (eachF (bldEs (j : Int) mo rm l) 0) = ((k : Int), bldE (j : Int) mo rm l k) := by rw [hk2, eachF_drop (by omega), bldEs_get (by omega), if_neg hb0]
    iterate 6 refine aS ?_
    refine o_and 4 113 117 _ _ rfl
     (by
      intro hg30
      have hs31 := hg30; try simp only [decide_eq_true_eq] at hs31
      refine oOn 113 hg30 ?_
      refine aS ?_
      refine oOn 113 hg30 ?_
      refine o_p (p_build (cs := [_, _, _, _]) rfl rfl pl_24 zr_24 rfl) rfl ?_
      refine oOn 113 hg30 ?_
      refine o_q (q_call rfl fn_21 rfl (fun w1 h1 => c21 w1 0 0 0 none none 0 0 [] [] nt_nil nt_nil (by decide) (by decide) sm_nil sm_nil rfl)) rfl ?_
      refine o_p (p_pickt rfl rfl hg30 rfl) rfl ?_
      refine aS ?_
      exact oJn 4 117)
     (by
      intro hg32
      have hs33 := hg32; try simp only [decide_eq_false_iff_not] at hs33
      refine oOf 113 hg32 ?_
      refine oOf 113 hg32 ?_
      refine oOf 113 hg32 ?_
      refine o_p (p_pickf rfl rfl hg32 rfl) rfl ?_
      refine aS ?_
      exact oJn 4 117) ?_
    refine aS ?_
    refine o_and 4 118 122 _ _ rfl
     (by
      intro hg34
      have hs35 := hg34; try simp only [Bool.and_eq_true, decide_eq_true_eq] at hs35
      refine oOn 118 hg34 ?_
      refine aS ?_
      refine oOn 118 hg34 ?_
      refine aS ?_
      refine oOn 118 hg34 ?_
      refine aS ?_
      refine o_p (p_pickt rfl rfl hg34 rfl) rfl ?_
      refine aS ?_
      exact oJn 4 122)
     (by
      intro hg36
      have hs37 := hg36; try simp only [Bool.and_eq_false_iff, decide_eq_false_iff_not] at hs37
      refine oOf 118 hg36 ?_
      refine oOf 118 hg36 ?_
      refine oOf 118 hg36 ?_
      refine o_p (p_pickf rfl rfl hg36 rfl) rfl ?_
      refine aS ?_
      exact oJn 4 122) ?_
    iterate 2 refine aS ?_
    exact s_retv (rs := [.tmp 6]) rfl (.tmp rfl (.nil)) (fun w' h' => ⟨by simp [retV, heE], h'.below⟩)
   try simp only [Bool.not_eq_false', decide_eq_true_eq] at h29
   have hb0 : bldE (j : Int) mo rm l k = 0 := by have hq := h29; exact hq
   have hx0 := (bldE_0 hb0).1
   have hI9 := hbo.ins hz (by omega) hx0 (insE_0 (bldE_0 hb0).2).1
   refine aS ?_
   refine s_draw [6] mixed ?_
   refine dLn 0 [[]] ?_
   refine dP 1 ?_
   refine dP 2 ?_
   refine d_p 3 rfl (p_indexAddr rfl rfl rfl sl_77 _ rfl (by omega) (Rw.some hs (by omega))) (by kernel_rfl) rfl rfl ?_
   refine d_q 4 [[]] rfl (q_load_oldn _ rfl rfl sz_26 rfl (Rw.rd hs (by omega))) (by kernel_rfl) (by kernel_rfl) (by kernel_rfl) rfl ?_
   refine d_h 5 rfl (h_call rfl fn_22 rfl (fun w1 h1 => c22 w1 j mo rm gn1 cap1 L1 (nth l k) hj hp1 hB1 hT1 (HS.nt h1 aPk) (entE_key hx0) (hlk _ (mem_nth (by omega))) (by rw [hk4]; exact hI9.2.1))) (by kernel_rfl) (fun w h => h.ent aEt) rfl (fun ⟨⟨gr, cr⟩, LR⟩ hLR => ?_)
   refine dBa ?_
   refine dSt 6 ?_ (hl := (by simp only [setMany_length, List.length_set, List.length_cons, List.length_nil, List.length_map]; omega))
   refine dTu [] ?_
   refine dNi ?_
   iterate 4 refine aS ?_
   try refine oWr ?_
   iterate 2 refine aS ?_
   exact s_backI ((k + 1, (gr, cr)), LR) (by (try simp only []); omega) ⟨by (try simp only []); omega, by simp only []; rw [hk2, eachF_drop (by omega), if_pos (by rw [bldEs_get (by omega)]; exact hb0)], fun i hi => (Nat.lt_or_ge i k).elim (hk3 i) (fun h => by have hi9 : i < k + 1 := hi; obtain rfl : i = k := (by omega); exact hb0), by have hL9 : pln LR = insR (j : Int) mo rm (pln L1) (nth l k) := hLR; simp only []; rw [hL9, hk4, hI9.2.2.1]; rfl⟩ aSx (fun w h => h.ent aEt)
  try simp only [decide_eq_false_iff_not] at h26
  exfalso; refine hx ?_; rw [hk2, eachF_end (by omega)]
 try simp only [decide_eq_false_iff_not] at h18
 exfalso; simp at h18
set_option maxHeartbeats 400000 in
theorem c9o (w : World) (j : Nat) (mo rm : Int) (al : Option Addr) (ca : Nat) (l : List TEnt) (hs : Rw TEnt.vals 2 w [] al l) (hl : l.length ≤ 60) (hsh : tshortB l = true) (hj : j ≤ 3) (hs0 : sizE mo rm = 0) (hx : (eachF (bldEs (j : Int) mo rm l) 0).2 = 0) : Calls Tryz.prog 9 #[.int .i64 (j : Int), .agg #[.int .i64 mo, .int .i64 rm], .slice al l.length ca] w fun en w' => en = .returned (.bool true) ∧ Below w.heap.size w w' := by
 have hlk : ∀ x ∈ l, x.key.length ≤ 1000000 := fun x hx => by have h9 := List.all_eq_true.1 hsh x hx; rw [tslimB, decide_eq_true_eq] at h9; omega
 have hz := sz_of hs0
 have hcE : colE12 (j : Int) = 0 := by unfold colE12; rw [if_pos (by omega)]
 have hb1 := bld_one (co := (j : Int)) hz
 have hel := bldEs_len (co := (j : Int)) (mo := mo) (rm := rm) (l := l)
 refine enter (args := [_, _, _]) Tryz.func9 Tryz.ntmps9 rfl rfl (HS.refl w []) ?_
 iterate 2 refine aS ?_
 refine oBx fun b1 _ => ?_
 iterate 5 refine aS ?_
 refine o_q (q_call rfl fn_13 rfl (fun w1 h1 => c13 w1)) rfl ?_
 iterate 2 refine aS ?_
 refine s_cond rfl (fun h2 => ?_) fun h2 => ?_
 ·try simp only [Bool.not_true] at h2
  exfalso; simp at h2
 try simp only [Bool.not_true] at h2
 iterate 8 refine aS ?_
 refine o_and 4 20 24 _ _ rfl
  (by
   intro hg3
   have hs4 := hg3; try simp only [decide_eq_true_eq] at hs4
   refine oOn 20 hg3 ?_
   refine aS ?_
   refine oOn 20 hg3 ?_
   refine aS ?_
   refine oOn 20 hg3 ?_
   refine aS ?_
   refine o_p (p_pickt rfl rfl hg3 rfl) rfl ?_
   refine aS ?_
   exact oJn 4 24)
  (by
   intro hg5
   have hs6 := hg5; try simp only [decide_eq_false_iff_not] at hs6
   refine oOf 20 hg5 ?_
   refine oOf 20 hg5 ?_
   refine oOf 20 hg5 ?_
   refine o_p (p_pickf rfl rfl hg5 rfl) rfl ?_
   refine aS ?_
   exact oJn 4 24) ?_
 refine aS ?_
 refine o_or 4 25 29 _ _ rfl
  (by
   intro hg7
   have hs8 := hg7; try simp only [Bool.and_eq_false_iff, decide_eq_false_iff_not] at hs8
   refine oOn 25 hg7 ?_
   refine aS ?_
   refine oOn 25 hg7 ?_
   refine aS ?_
   refine oOn 25 hg7 ?_
   refine aS ?_
   refine o_p (p_pickf rfl rfl hg7 rfl) rfl ?_
   refine aS ?_
   exact oJn 4 29)
  (by
   intro hg9
   have hs10 := hg9; try simp only [Bool.and_eq_true, decide_eq_true_eq] at hs10
   refine oOf 25 hg9 ?_
   refine oOf 25 hg9 ?_
   refine oOf 25 hg9 ?_
   refine o_p (p_pickt rfl rfl hg9 rfl) rfl ?_
   refine aS ?_
   exact oJn 4 29) ?_
 refine aS ?_
 refine o_or 4 30 34 _ _ rfl
  (by
   intro hg11
   have hs12 := hg11; try simp only [Bool.or_eq_false_iff, Bool.and_eq_false_iff, decide_eq_false_iff_not] at hs12
   refine oOn 30 hg11 ?_
   refine aS ?_
   refine oOn 30 hg11 ?_
   refine o_q (q_call rfl fn_43 rfl (fun w1 h1 => c43 w1 al ca l (hs.later h1.nil) (by omega))) rfl ?_
   refine oOn 30 hg11 ?_
   refine aS ?_
   refine o_p (p_pickf rfl rfl hg11 rfl) rfl ?_
   refine aS ?_
   exact oJn 4 34)
  (by
   intro hg13
   have hs14 := hg13; try simp only [Bool.or_eq_true, Bool.and_eq_true, decide_eq_true_eq] at hs14
   refine oOf 30 hg13 ?_
   refine oOf 30 hg13 ?_
   refine oOf 30 hg13 ?_
   refine o_p (p_pickt rfl rfl hg13 rfl) rfl ?_
   refine aS ?_
   exact oJn 4 34) ?_
 refine aS ?_
 refine s_cond rfl (fun h15 => ?_) fun h15 => ?_
 ·try simp only [Bool.or_eq_true, Bool.and_eq_true, decide_eq_true_eq, Bool.not_eq_true'] at h15
  exfalso; revert h15; simp [hsh]; omega
 try simp only [Bool.or_eq_false_iff, Bool.and_eq_false_iff, decide_eq_false_iff_not, Bool.not_eq_false'] at h15
 iterate 2 refine aS ?_
 refine s_weaken (L' := [(0, _), (2, _), (4, _), (6, _)]) aSx (fun _ h => h) ?_
 refine s_cutI (α := Nat × ((Nat × Nat) × List LNd)) [7, 8, 9, 35, 36, 37, 38, 39, 40, 41, 42, 43, 44, 45, 46] (fun y => [(7, .pointer (some ⟨y.1, 0, none⟩)), (8, .int .i64 (l.length : Int)), (9, .int .i64 0)]) (fun y => HS w [] [.blk y.1 24 4 [.int .i64 (j : Int), .int .i64 mo, .int .i64 rm, .slice (some ⟨y.2.1.1, 0, none⟩) y.2.2.length y.2.1.2], .nodes 26 102 (some ⟨y.2.1.1, 0, none⟩) y.2.1.2 y.2.2, .blk b1 49 2 [.int .i64 mo, .int .i64 rm]]) (fun y => pln y.2.2 = (bldN (j : Int) mo rm l l.length)) ?_ ?_
 ·skip
  refine s_draw [13] mixed ?_
  refine dP 0 ?_
  refine d_p 1 rfl (p_indexAddr_arr rfl rfl rfl ar_49 (Int.toNat _) (Int.toNat_of_nonneg (by omega)).symm (by omega)) (by kernel_rfl) rfl rfl ?_
  refine dLd 2 [[]] ?_
  refine d_p 3 rfl (p_indexAddr_arr rfl rfl rfl ar_49 (Int.toNat _) (Int.toNat_of_nonneg (by omega)).symm (by omega)) (by kernel_rfl) rfl rfl ?_
  refine dLd 4 [[]] ?_
  refine dP 5 ?_
  refine d_two 6 12 rfl rfl  (h_call rfl fn_45 rfl (fun w1 h1 => c45 w1 al ca l (hs.later h1.nil) (by omega))) (h_alloc rfl zr_24) (by kernel_rfl) (fun w h => h.ent aEt) rfl rfl  (fun ⟨ga, gc⟩ _ => ?_) (fun b16 _ => ?_)
  ·skip
   refine dBa ?_
   refine d_two 7 12 rfl rfl  (h_call rfl fn_44 rfl (fun w1 h1 => c44o w1 j mo rm ga gc l (HS.rw_own ev2 h1 aPk rfl) (by omega) (by omega) hj hs0 hlk hx)) (h_alloc rfl zr_24) (by kernel_rfl) (fun w h => h.ent aEt) rfl rfl  (fun ⟨⟨gu, cu⟩, LU⟩ hLU => ?_) (fun b17 _ => ?_)
   ·skip
    refine dBa ?_
    refine dP 8 ?_
    refine dP 9 ?_
    refine dP 10 ?_
    refine dP 11 ?_
    refine d_h 12 rfl (h_alloc rfl zr_24) (by kernel_rfl) (fun w h => h.ent aEt) rfl (fun b18 _ => ?_)
    refine dBa ?_
    refine dSt 13 ?_ (hl := (by simp only [setMany_length, List.length_set, List.length_cons, List.length_nil, List.length_map]; omega))
    refine dTu [] ?_
    refine dP 14 ?_
    refine dP 15 ?_
    refine dNi ?_
    exact s_joinI (b18, (gu, cu), LU) hLU aSx (fun w h => h.ent aEt)
   skip
   refine dBa ?_
   refine d_h 7 rfl (h_call rfl fn_44 rfl (fun w1 h1 => c44o w1 j mo rm ga gc l (HS.rw_own ev2 h1 aPk rfl) (by omega) (by omega) hj hs0 hlk hx)) (by kernel_rfl) (fun w h => h.ent aEt) rfl (fun ⟨⟨gu, cu⟩, LU⟩ hLU => ?_)
   refine dBa ?_
   refine dP 8 ?_
   refine dP 9 ?_
   refine dP 10 ?_
   refine dP 11 ?_
   refine dSt 13 ?_ (hl := (by simp only [setMany_length, List.length_set, List.length_cons, List.length_nil, List.length_map]; omega))
   refine dTu [] ?_
   refine dP 14 ?_
   refine dP 15 ?_
   refine dNi ?_
   exact s_joinI (b17, (gu, cu), LU) hLU aSx (fun w h => h.ent aEt)
  skip
  refine dBa ?_
  refine d_h 6 rfl (h_call rfl fn_45 rfl (fun w1 h1 => c45 w1 al ca l (hs.later h1.nil) (by omega))) (by kernel_rfl) (fun w h => h.ent aEt) rfl (fun ⟨ga, gc⟩ _ => ?_)
  refine dBa ?_
  refine d_h 7 rfl (h_call rfl fn_44 rfl (fun w1 h1 => c44o w1 j mo rm ga gc l (HS.rw_own ev2 h1 aPk rfl) (by omega) (by omega) hj hs0 hlk hx)) (by kernel_rfl) (fun w h => h.ent aEt) rfl (fun ⟨⟨gu, cu⟩, LU⟩ hLU => ?_)
  refine dBa ?_
  refine dP 8 ?_
  refine dP 9 ?_
  refine dP 10 ?_
  refine dP 11 ?_
  refine dSt 13 ?_ (hl := (by simp only [setMany_length, List.length_set, List.length_cons, List.length_nil, List.length_map]; omega))
  refine dTu [] ?_
  refine dP 14 ?_
  refine dP 15 ?_
  refine dNi ?_
  exact s_joinI (b16, (gu, cu), LU) hLU aSx (fun w h => h.ent aEt)
 intro ⟨y, ⟨gv, cv⟩, LV⟩ hV
 dsimp only
 have hV2 : pln LV = (bldN (j : Int) mo rm l l.length) := hV
 iterate 3 refine aS ?_
 refine o_q (q_call rfl fn_30 rfl (fun w1 h1 => by have h9 := c30 w1 (j : Int); rw [hcE] at h9; exact h9)) rfl ?_
 iterate 8 refine aS ?_
 refine s_cond rfl (fun h19 => ?_) fun h19 => ?_
 ·try simp only [decide_eq_true_eq] at h19
  refine aS ?_
  refine o_p (p_indexAddr_arr rfl rfl rfl ar_49 (Int.toNat _) (Int.toNat_of_nonneg (by omega)).symm (by omega)) rfl ?_
  refine aS ?_
  refine o_p (p_indexAddr_arr rfl rfl rfl ar_49 (Int.toNat _) (Int.toNat_of_nonneg (by omega)).symm (by omega)) rfl ?_
  refine aS ?_
  refine o_q (q_call rfl fn_31 rfl (fun w1 h1 => by have h9 := c31 w1 mo rm; rw [hs0] at h9; exact h9)) rfl ?_
  iterate 8 refine aS ?_
  refine o_and 4 58 62 _ _ rfl
   (by
    intro hg20
    have hs21 := hg20; try simp only [decide_eq_true_eq] at hs21
    refine oOn 58 hg20 ?_
    refine aS ?_
    refine oOn 58 hg20 ?_
    refine aS ?_
    refine oOn 58 hg20 ?_
    refine aS ?_
    refine o_p (p_pickt rfl rfl hg20 rfl) rfl ?_
    refine aS ?_
    exact oJn 4 62)
   (by
    intro hg22
    have hs23 := hg22; try simp only [decide_eq_false_iff_not] at hs23
    refine oOf 58 hg22 ?_
    refine oOf 58 hg22 ?_
    refine oOf 58 hg22 ?_
    refine o_p (p_pickf rfl rfl hg22 rfl) rfl ?_
    refine aS ?_
    exact oJn 4 62) ?_
  refine aS ?_
  refine s_cond rfl (fun h24 => ?_) fun h24 => ?_
  ·try simp only [Bool.and_eq_true, decide_eq_true_eq] at h24
   exfalso; have hq := h24; simp at hq; omega
  try simp only [Bool.and_eq_false_iff, decide_eq_false_iff_not] at h24
  iterate 7 refine aS ?_
  refine s_cond rfl (fun h25 => ?_) fun h25 => ?_
  ·try simp only [Bool.not_eq_true', decide_eq_false_iff_not] at h25
   exfalso; simp at h25
  try simp only [Bool.not_eq_false', decide_eq_true_eq] at h25
  iterate 4 refine aS ?_
  refine o_p (p_indexAddr_arr rfl rfl rfl ar_49 (Int.toNat _) (Int.toNat_of_nonneg (by omega)).symm (by omega)) rfl ?_
  refine aS ?_
  refine o_p (p_indexAddr_arr rfl rfl rfl ar_49 (Int.toNat _) (Int.toNat_of_nonneg (by omega)).symm (by omega)) rfl ?_
  refine aS ?_
  refine o_h (h_call rfl fn_32 rfl (fun w1 h1 => c32 w1 (j : Int) mo rm)) rfl (fun ⟨ae, ce⟩ _ => ?_)
  dsimp only
  refine o_class (fun w h => nodes_one 26 (h.pick aPk)) ?_
  refine oAl (fun b26 _ => ?_) zr_24
  refine oSt ?_
  iterate 3 refine aS ?_
  refine s_weaken (L' := [(0, _), (2, _), (6, _), (7, _), (8, _), (9, _), (10, _), (11, _)]) aSx (fun _ h => h) ?_
  iterate 4 refine aS ?_
  refine s_loopI (α := (Nat × (Option Addr × Nat)) × List LNd) [6, 10, 12, 13, 14, 83, 84, 85, 86, 87, 88, 89, 90, 91, 92, 93, 94, 95, 96, 97, 98, 99, 100, 101, 102, 103, 104, 105, 106, 107, 108, 109, 110, 111, 112, 113, 114, 115, 116, 117, 118, 119, 120, 121, 122, 123, 124, 125, 126, 127, 128] (fun x => [(12, .int .i64 (x.1.1 : Int))]) (fun x => HS w [] [.blk b26 24 4 [.int .i64 (j : Int), .int .i64 mo, .int .i64 rm, .slice x.1.2.1 (x.2).length x.1.2.2], .nodes 26 102 x.1.2.1 x.1.2.2 x.2, .blk y 24 4 [.int .i64 (j : Int), .int .i64 mo, .int .i64 rm, .slice (some ⟨gv, 0, none⟩) LV.length cv], .nodes 26 102 (some ⟨gv, 0, none⟩) cv LV, .blk b1 49 2 [.int .i64 mo, .int .i64 rm]]) (fun x => x.1.1 ≤ l.length ∧ (eachF (bldEs (j : Int) mo rm l) 0) = eachF ((bldEs (j : Int) mo rm l).drop x.1.1) x.1.1 ∧ (∀ i, i < x.1.1 → bldE (j : Int) mo rm l i = 0) ∧ pln x.2 = (bldN (j : Int) mo rm l x.1.1)) (fun x => l.length - x.1.1) ((0, (ae, ce)), [(⟨true, none, 0, [], none, 0, []⟩ : LNd)]) ⟨Nat.zero_le _, rfl, fun i h => absurd h (Nat.not_lt_zero i), rfl⟩ aSx (fun w h => h.ent aEt) (fun ⟨⟨k, gn1, cap1⟩, L1⟩ hx2 => ?_)
  dsimp only
  obtain ⟨hk1, hk2, hk3, hk4⟩ := hx2
  simp only [] at hk1 hk2 hk3 hk4
  have hbo := bld_ok (l := l) hz (show k ≤ 119 by omega) hk3
  have hp1 : 0 < L1.length := by have h9 := hbo.pos; rw [← hk4, pln_len] at h9; exact h9
  have hB1 : Bd (pln L1) := by rw [hk4]; exact hbo.bd hz (by omega)
  have hT1 : TOk (j : Int) (pln L1) := by rw [hk4]; exact hbo.tok
  have hbi := fun h : k < l.length => bld_ins (l := l) hz (show k < 119 by omega) hk3
  iterate 8 refine aS ?_
  refine s_cond rfl (fun h27 => ?_) fun h27 => ?_
  ·try simp only [decide_eq_true_eq] at h27
   iterate 8 refine aS ?_
   refine o_p (p_indexAddr rfl rfl rfl sl_77 _ rfl (by omega) (Rw.some hs (by omega))) rfl ?_
   refine o_q (q_load_oldn _ rfl rfl sz_26 rfl (Rw.rd hs (by omega))) rfl ?_
   refine o_q (q_call rfl fn_19 rfl (fun w1 h1 => c19 w1 j (nth l k) hj (hlk _ (mem_nth (by omega))))) rfl ?_
   iterate 8 refine aS ?_
   refine s_weaken (L' := [(0, _), (2, _), (7, _), (8, _), (9, _), (10, _), (11, _), (12, _), (96, _)]) aSx (fun _ h => h) ?_
   refine s_cutI (α := Nat) [10, 13, 14, 97, 98, 99, 100, 101, 102, 103, 104, 105, 106, 107] (fun _ => [(10, .int .i64 (bldE (j : Int) mo rm l k))]) (fun _ => HS w [] [.blk b26 24 4 [.int .i64 (j : Int), .int .i64 mo, .int .i64 rm, .slice ((k, (gn1, cap1)), L1).1.2.1 (((k, (gn1, cap1)), L1).2).length ((k, (gn1, cap1)), L1).1.2.2], .nodes 26 102 ((k, (gn1, cap1)), L1).1.2.1 ((k, (gn1, cap1)), L1).1.2.2 ((k, (gn1, cap1)), L1).2, .blk y 24 4 [.int .i64 (j : Int), .int .i64 mo, .int .i64 rm, .slice (some ⟨gv, 0, none⟩) LV.length cv], .nodes 26 102 (some ⟨gv, 0, none⟩) cv LV, .blk b1 49 2 [.int .i64 mo, .int .i64 rm]]) (fun _ => True) ?_ ?_
   ·skip
    refine s_cond rfl (fun h28 => ?_) fun h28 => ?_
    ·try simp only [decide_eq_true_eq] at h28
     have hx0 : entE (j : Int) (nth l k) = 0 := by have hq := h28; exact hq
     refine aS ?_
     refine s_draw [] mixed ?_
     refine dLn 0 [] ?_
     refine dP 1 ?_
     refine dP 2 ?_
     refine d_p 3 rfl (p_indexAddr rfl rfl rfl sl_77 _ rfl (by omega) (Rw.some hs (by omega))) (by kernel_rfl) rfl rfl ?_
     refine dFa 4 ?_
     refine d_q 5 [] rfl (q_load_old rfl rfl sz_9 ((hs.rdj 0 (by omega) rfl))) (by kernel_rfl) (by kernel_rfl) (by kernel_rfl) rfl ?_
     refine d_h 6 rfl (h_call rfl fn_20 rfl (fun w1 h1 => c20 w1 j mo rm gn1 cap1 L1 (nth l k).key hj hp1 hB1 hT1 (HS.nt h1 aPk) (entE_key hx0) (hlk _ (mem_nth (by omega))))) (by kernel_rfl) (fun w h => h.ent aEt) rfl (fun ⟨pa, pc⟩ _ => ?_)
     refine dBa ?_
     refine dP 7 ?_
     refine dP 8 ?_
     refine dP 9 ?_
     refine dP 10 ?_
     refine dP 11 ?_
     refine dNi ?_
     iterate 4 refine aS ?_
     refine s_cond rfl (fun h29 => ?_) fun h29 => ?_
     ·skip
      have hf0 : (pathN (j : Int) (pln L1) (nth l k).key).2.2 = true := h29
      iterate 3 refine aS ?_
      exact s_joinI 0 trivial (by have hD : bldE (j : Int) mo rm l k = 5 := (by rw [hbi (by omega), if_pos hx0, ← hk4, if_pos hf0]); rw [hD]; exact aSx) (fun w h => h.ent aEt)
     skip
     have hf0 : ¬ (pathN (j : Int) (pln L1) (nth l k).key).2.2 = true := by have hq := h29; simp [hq]
     refine aS ?_
     exact s_joinI 0 trivial (by have hD : bldE (j : Int) mo rm l k = entE (j : Int) (nth l k) := (by rw [hbi (by omega), if_pos hx0, ← hk4, if_neg hf0, hx0]); rw [hD]; exact aSx) (fun w h => h.ent aEt)
    try simp only [decide_eq_false_iff_not] at h28
    have hx0 : ¬ entE (j : Int) (nth l k) = 0 := by have hq := h28; exact hq
    refine aS ?_
    exact s_joinI 0 trivial (by have hD : bldE (j : Int) mo rm l k = entE (j : Int) (nth l k) := (by rw [hbi (by omega), if_neg hx0]); rw [hD]; exact aSx) (fun w h => h.ent aEt)
   intro q6 _
   iterate 6 refine aS ?_
   refine s_cond rfl (fun h30 => ?_) fun h30 => ?_
   ·try simp only [Bool.not_eq_true', decide_eq_false_iff_not] at h30
    have hb0 : ¬ bldE (j : Int) mo rm l k = 0 := by have hq := h30; exact hq
    have heE : (eachF (bldEs (j : Int) mo rm l) 0) = ((k : Int), bldE (j : Int) mo rm l k) := by rw [hk2, eachF_drop (by omega), bldEs_get (by omega), if_neg hb0]
    exfalso; have hb0 : ¬ bldE (j : Int) mo rm l k = 0 := h30; rw [hk2, eachF_drop (by omega), bldEs_get (by omega), if_neg hb0] at hx; exact hb0 hx
   try simp only [Bool.not_eq_false', decide_eq_true_eq] at h30
   have hb0 : bldE (j : Int) mo rm l k = 0 := by have hq := h30; exact hq
   have hx0 := (bldE_0 hb0).1
   have hI9 := hbo.ins hz (by omega) hx0 (insE_0 (bldE_0 hb0).2).1
   refine aS ?_
   refine s_draw [6] mixed ?_
   refine dLn 0 [[]] ?_
   refine dP 1 ?_
   refine dP 2 ?_
   refine d_p 3 rfl (p_indexAddr rfl rfl rfl sl_77 _ rfl (by omega) (Rw.some hs (by omega))) (by kernel_rfl) rfl rfl ?_
   refine d_q 4 [[]] rfl (q_load_oldn _ rfl rfl sz_26 rfl (Rw.rd hs (by omega))) (by kernel_rfl) (by kernel_rfl) (by kernel_rfl) rfl ?_
   refine d_h 5 rfl (h_call rfl fn_22 rfl (fun w1 h1 => c22 w1 j mo rm gn1 cap1 L1 (nth l k) hj hp1 hB1 hT1 (HS.nt h1 aPk) (entE_key hx0) (hlk _ (mem_nth (by omega))) (by rw [hk4]; exact hI9.2.1))) (by kernel_rfl) (fun w h => h.ent aEt) rfl (fun ⟨⟨gr, cr⟩, LR⟩ hLR => ?_)
   refine dBa ?_
   refine dSt 6 ?_ (hl := (by simp only [setMany_length, List.length_set, List.length_cons, List.length_nil, List.length_map]; omega))
   refine dTu [] ?_
   refine dNi ?_
   iterate 4 refine aS ?_
   try refine oWr ?_
   iterate 2 refine aS ?_
   exact s_backI ((k + 1, (gr, cr)), LR) (by (try simp only []); omega) ⟨by (try simp only []); omega, by simp only []; rw [hk2, eachF_drop (by omega), if_pos (by rw [bldEs_get (by omega)]; exact hb0)], fun i hi => (Nat.lt_or_ge i k).elim (hk3 i) (fun h => by have hi9 : i < k + 1 := hi; obtain rfl : i = k := (by omega); exact hb0), by have hL9 : pln LR = insR (j : Int) mo rm (pln L1) (nth l k) := hLR; simp only []; rw [hL9, hk4, hI9.2.2.1]; rfl⟩ aSx (fun w h => h.ent aEt)
  try simp only [decide_eq_false_iff_not] at h27
  refine s_exit_to rfl ?_
  iterate 5 refine aS ?_
  refine o_and 4 131 135 _ _ rfl
   (by
    intro hg31
    have hs32 := hg31; try simp only [decide_eq_true_eq] at hs32
    refine oOn 131 hg31 ?_
    refine aS ?_
    refine oOn 131 hg31 ?_
    refine aS ?_
    refine oOn 131 hg31 ?_
    refine o_q (q_call rfl fn_21 rfl (fun w1 h1 => by have hke : k = l.length := (by omega); have hLL : pln LV = pln L1 := (by rw [hk4, hke]; exact hV2); have hl1 : L1.length ≤ 61 := (by have h9 := hbo.len; rw [← hk4, pln_len] at h9; omega); have hlv : LV.length = L1.length := (by rw [← pln_len, hLL, pln_len]); exact c21 w1 (j : Int) mo rm (some ⟨gv, 0, none⟩) gn1 cv cap1 LV L1 (HS.nt h1 aPk) (HS.nt h1 aPk) (by omega) (by omega) (by rw [hLL, hk4]; exact (hbo.sm hz).mono (by decide)) (by rw [hk4]; exact (hbo.sm hz).mono (by decide)) hLL)) rfl ?_
    refine o_p (p_pickt rfl rfl hg31 rfl) rfl ?_
    refine aS ?_
    exact oJn 4 135)
   (by
    intro hg33
    have hs34 := hg33; try simp only [decide_eq_false_iff_not] at hs34
    refine oOf 131 hg33 ?_
    refine oOf 131 hg33 ?_
    refine oOf 131 hg33 ?_
    refine o_p (p_pickf rfl rfl hg33 rfl) rfl ?_
    refine aS ?_
    exact oJn 4 135) ?_
  refine aS ?_
  refine o_and 5 136 141 _ _ rfl
   (by
    intro hg35
    have hs36 := hg35; try simp only [Bool.and_eq_true, decide_eq_true_eq] at hs36
    refine oOn 136 hg35 ?_
    refine aS ?_
    refine oOn 136 hg35 ?_
    refine aS ?_
    refine oOn 136 hg35 ?_
    refine aS ?_
    refine oOn 136 hg35 ?_
    refine aS ?_
    refine o_p (p_pickt rfl rfl hg35 rfl) rfl ?_
    refine aS ?_
    exact oJn 5 141)
   (by
    intro hg37
    have hs38 := hg37; try simp only [Bool.and_eq_false_iff, decide_eq_false_iff_not] at hs38
    refine oOf 136 hg37 ?_
    refine oOf 136 hg37 ?_
    refine oOf 136 hg37 ?_
    refine oOf 136 hg37 ?_
    refine o_p (p_pickf rfl rfl hg37 rfl) rfl ?_
    refine aS ?_
    exact oJn 5 141) ?_
  iterate 2 refine aS ?_
  exact s_retv (rs := [.tmp 6]) rfl (.tmp rfl (.nil)) (fun w' h' => ⟨by simp [retV], h'.below⟩)
 try simp only [decide_eq_false_iff_not] at h19
 exfalso; simp at h19
theorem c9 (w : World) (co mo rm : Int) (al : Option Addr) (ca : Nat) (l : List TEnt) (hs : Rw TEnt.vals 2 w [] al l) : Calls Tryz.prog 9 #[.int .i64 co, .agg #[.int .i64 mo, .int .i64 rm], .slice al l.length ca] w fun en w' => en = .returned (.bool true) ∧ Below w.heap.size w w' := by
  by_cases hz : (¬ (60 < l.length ∧ l.length ≤ 200) ∧ l.length ≤ 202) ∧ tshortB l = true
  · by_cases he : (if (if colE12 co = 0 then sizE mo rm else colE12 co) = 0 then (if 200 < l.length then 8 else 0) else (if colE12 co = 0 then sizE mo rm else colE12 co)) = 0
    · have hE : (if colE12 co = 0 then sizE mo rm else colE12 co) = 0 := by
        by_cases h9 : (if colE12 co = 0 then sizE mo rm else colE12 co) = 0
        · exact h9
        · rw [if_neg h9] at he
          exact absurd he h9
      have hl : l.length ≤ 60 := by
        rw [if_pos hE] at he
        split at he
        · cases he
        · omega
      have hc : colE12 co = 0 := by
        by_cases h9 : colE12 co = 0
        · exact h9
        · rw [if_neg h9] at hE
          exact absurd hE h9
      obtain ⟨j, rfl, hj⟩ := col_ok hc
      rw [if_pos hc] at hE
      by_cases hx : (eachF (bldEs (j : Int) mo rm l) 0).2 = 0
      · exact c9o w j mo rm al ca l hs hl hz.2 hj hE hx
      · exact c9x w j mo rm al ca l hs hl hz.2 hj hE hx
    · exact c9e w co mo rm al ca l hs hz.1.1 hz.1.2 hz.2 he
  · exact c9z w co mo rm al ca l hs hz
end Go.Proofs
