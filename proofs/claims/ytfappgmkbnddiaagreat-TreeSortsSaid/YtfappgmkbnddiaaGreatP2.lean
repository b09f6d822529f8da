/- Contracts of the program's functions, proved by walking them with the rules of the Gx texts; without conditions beyond those that each contract names. -/
import Derived.WalkKit
import Derived.Deep.Draws
import Derived.TacticsIn
import Derived.OrdersIn
import Derived.RangeFuncLeaves
import Derived.Lib.Strings
import Derived.Laws.BytesArg
import Derived.Laws.IdiomStrings
import Derived.Deep.Quiet
import Derived.ProofKit
import Derived.OpenShut
import Derived.Laws.StructEq
import Derived.ChangeKeysEq
import Derived.Laws.Externs
import Derived.Lib.Overlaps
import Derived.Carry
import Derived.Laws.Small
import Derived.Lib.Bytealg
import Derived.Test.YtfappgmkbnddiaaGreatProg
import Derived.KernelRfl
import Derived.Lib.Builder
import Derived.Laws.Pointers
import Derived.RangeFuncRecord
import Derived.Test.YtfappgmkbnddiaaGreatP1
namespace Gx
set_option linter.unusedSimpArgs false
set_option linter.unusedVariables false
set_option linter.unusedSectionVars false
open Go Go.RowKit
def Srt (co : Int) (l : List TEnt) : Prop := l.Pairwise fun a b => cmpK co a.key b.key < 0
theorem cmpK_anti {co : Int} {a b : List UInt8} (h : ¬ cmpK co a b < 0) (h2 : cmpK co a b ≠ 0) : cmpK co b a < 0 := by
  have := cmpK_swap co a b
  omega
theorem Srt.asc {co : Int} {l : List TEnt} (h : Srt co l) : Asc co l := fun k hk => by
  have := List.pairwise_iff_getElem.1 h k (k + 1) (by omega) hk (by omega)
  rw [show nth l k = l[k] from nth_eq (List.getElem?_eq_getElem (by omega)), show nth l (k + 1) = l[k + 1] from nth_eq (List.getElem?_eq_getElem hk)]
  exact this
theorem plc_app1 {co : Int} {key : List UInt8} : ∀ {A l : List TEnt}, (∀ x ∈ A, cmpK co x.key key < 0) → plc co (A ++ l) key = A.length + plc co l key
  | [], l, _ => by simp
  | a :: A, l, h => by
    rw [List.cons_append, plc, if_pos (h a (List.mem_cons_self ..)), plc_app1 fun x hx => h x (List.mem_cons_of_mem _ hx), List.length_cons]
    omega
theorem plc_app2 {co : Int} {key : List UInt8} : ∀ {l B : List TEnt}, (∀ x ∈ B, cmpK co key x.key < 0) → plc co (l ++ B) key = plc co l key
  | [], [], _ => rfl
  | [], b :: B, h => by
    have h1 := h b (List.mem_cons_self ..)
    have h2 := cmpK_swap co b.key key
    show plc co (b :: B) key = 0
    rw [plc, if_neg (by omega)]
  | a :: l, B, h => by
    rw [List.cons_append, plc, plc, plc_app2 h]
theorem insAt_app {α : Type} {A l B : List α} {p : Nat} {x : α} (hp : p ≤ l.length) : insAt (A ++ (l ++ B)) (A.length + p) x = A ++ (insAt l p x ++ B) := by
  unfold insAt
  rw [List.take_length_add_append, List.drop_length_add_append, List.take_append_of_le_length hp, List.drop_append_of_le_length hp]
  simp only [List.append_assoc, List.cons_append]
def HasK (co : Int) (l : List TEnt) (key : List UInt8) : Prop := ∃ y ∈ l, cmpK co y.key key = 0
theorem hasK_fnd {co : Int} {key : List UInt8} : ∀ {l : List TEnt}, Srt co l → (HasK co l key ↔ fnd co l key = true)
  | [], _ => by simp [HasK, fnd]
  | y :: l, h => by
    have hp := List.pairwise_cons.1 h
    have ih := hasK_fnd (key := key) hp.2
    unfold fnd at ih ⊢
    rw [plc]
    by_cases h1 : cmpK co y.key key < 0
    · rw [if_pos h1]
      have e : nth (y :: l) (plc co l key + 1) = nth l (plc co l key) := rfl
      rw [e, List.length_cons]
      have hh : HasK co (y :: l) key ↔ HasK co l key := by
        constructor
        · rintro ⟨z, hz, h2⟩
          rcases List.mem_cons.1 hz with rfl | hz
          · omega
          · exact ⟨z, hz, h2⟩
        · rintro ⟨z, hz, h2⟩
          exact ⟨z, List.mem_cons_of_mem _ hz, h2⟩
      rw [hh, ih]
      simp
    · rw [if_neg h1]
      have e : nth (y :: l) 0 = y := rfl
      rw [e]
      simp only [List.length_cons, Nat.zero_lt_succ, decide_true, Bool.true_and, decide_eq_true_eq]
      constructor
      · rintro ⟨z, hz, h2⟩
        rcases List.mem_cons.1 hz with rfl | hz
        · exact h2
        · exfalso
          have h3 := hp.1 z hz
          by_cases h4 : cmpK co y.key key = 0
          · have h5 := cmpK_eq.1 h4
            have h6 := cmpK_eq.1 h2
            have h7 := cmpK_eq.2 (h5.trans h6.symm)
            omega
          · have h5 := cmpK_anti h1 h4
            have h6 := cmpK_trans h5 h3
            have h7 := cmpK_swap co z.key key
            omega
      · intro h2
        exact ⟨y, List.mem_cons_self .., h2⟩
theorem srt_ins {co : Int} {x : TEnt} : ∀ {l : List TEnt}, Srt co l → ¬ HasK co l x.key → Srt co (insAt l (plc co l x.key) x)
  | [], _, _ => by
    show Srt co [x]
    simp [Srt]
  | y :: l, h, hn => by
    have hp := List.pairwise_cons.1 h
    have ih := srt_ins (x := x) hp.2 fun ⟨z, hz, h2⟩ => hn ⟨z, List.mem_cons_of_mem _ hz, h2⟩
    rw [plc]
    by_cases h1 : cmpK co y.key x.key < 0
    · rw [if_pos h1]
      show Srt co (y :: insAt l (plc co l x.key) x)
      refine List.pairwise_cons.2 ⟨fun z hz => ?_, ih⟩
      unfold insAt at hz
      rcases List.mem_append.1 hz with hz | hz
      · exact hp.1 z (List.mem_of_mem_take hz)
      · rcases List.mem_cons.1 hz with rfl | hz
        · exact h1
        · exact hp.1 z (List.mem_of_mem_drop hz)
    · rw [if_neg h1]
      show Srt co (x :: y :: l)
      have h2 := cmpK_anti h1 fun h2 => hn ⟨y, List.mem_cons_self .., h2⟩
      refine List.pairwise_cons.2 ⟨fun z hz => ?_, h⟩
      rcases List.mem_cons.1 hz with rfl | hz
      · exact h2
      · exact cmpK_trans h2 (hp.1 z hz)
theorem flatA_lt {co : Int} {key : List UInt8} : ∀ {es : List TEnt} {l : List BT}, Srt co (flatA es l) → l.length ≤ es.length → (∀ j, j < l.length → cmpK co (nth es j).key key < 0) → ∀ x ∈ flatA es l, cmpK co x.key key < 0
  | es, [], _, _, _, x, hx => by
    have e : flatA es [] = [] := by cases es <;> rfl
    rw [e] at hx
    cases hx
  | [], k :: l, _, h, _, x, hx => absurd h (by simp)
  | e :: es, k :: l, hs, hl, h, x, hx => by
    rw [flatA] at hs hx
    have h1 := List.pairwise_append.1 hs
    have he : cmpK co e.key key < 0 := h 0 (by simp)
    rcases List.mem_append.1 hx with hx | hx
    · exact cmpK_trans (h1.2.2 x hx e (List.mem_cons_self ..)) he
    · rcases List.mem_cons.1 hx with rfl | hx
      · exact he
      · exact flatA_lt (List.pairwise_cons.1 h1.2.1).2 (by simpa using hl) (fun j hj => h (j + 1) (by simpa using hj)) x hx
theorem pre_lt {co : Int} {key : List UInt8} {lo hi rt : Nat} : ∀ {D : List Fr} {d : Nat}, CtxOk lo hi rt d D → Leads co key D → Srt co (preC D) → ∀ x ∈ preC D, cmpK co x.key key < 0
  | [], _, _, _, _, x, hx => (nomatch hx)
  | f :: D, d, hC, hL, hs, x, hx => by
    rw [preC] at hs hx
    have h1 := List.pairwise_append.1 hs
    have hf := hL f (List.mem_cons_self ..)
    have hlen := hC.2.1
    rcases List.mem_append.1 hx with hx | hx
    · exact pre_lt hC.2.2.2 (fun g hg => hL g (List.mem_cons_of_mem _ hg)) h1.1 x hx
    · exact flatA_lt h1.2.1 (by omega) (fun j hj => plc_before co key f.es j (by omega)) x hx
theorem suf_gt {co : Int} {key : List UInt8} {lo hi rt : Nat} : ∀ {D : List Fr} {d : Nat}, CtxOk lo hi rt d D → Leads co key D → Srt co (sufC D) → ∀ x ∈ sufC D, cmpK co key x.key < 0
  | [], _, _, _, _, x, hx => (nomatch hx)
  | f :: D, d, hC, hL, hs, x, hx => by
    rw [sufC] at hs hx
    have h1 := List.pairwise_append.1 hs
    have hf := hL f (List.mem_cons_self ..)
    rcases List.mem_append.1 hx with hx | hx
    · rcases Nat.lt_or_ge f.l.length f.es.length with h2 | h2
      · have e : f.es.drop f.l.length = nth f.es f.l.length :: f.es.drop (f.l.length + 1) := by
          rw [List.drop_eq_getElem_cons h2, show nth f.es f.l.length = f.es[f.l.length] from nth_eq (List.getElem?_eq_getElem h2)]
        have hgt : cmpK co key (nth f.es f.l.length).key < 0 := by
          refine cmpK_anti ?_ fun h3 => ?_
          · rw [hf.1] at h2 ⊢
            exact plc_at co key f.es h2
          · refine hf.2 ?_
            unfold fnd
            rw [← hf.1, decide_eq_true h2, decide_eq_true h3]
            rfl
        rw [e] at hx h1
        cases hr : f.r with
        | nil =>
          rw [hr] at hx
          cases hx
        | cons k r =>
          rw [hr] at hx h1
          rw [flatZ] at hx h1
          rcases List.mem_cons.1 hx with rfl | hx
          · exact hgt
          · exact cmpK_trans hgt ((List.pairwise_cons.1 h1.1).1 x hx)
      · rw [List.drop_of_length_le h2] at hx
        cases hx
    · exact suf_gt hC.2.2.2 (fun g hg => hL g (List.mem_cons_of_mem _ hg)) h1.2.1 x hx
structure Sz (mo rm : Int) (lo hi rt : Nat) : Prop where
  emo : mo = (hi : Int)
  erm : rm = (rt : Int)
  elo : lo = hi / 2
  hi3 : 3 ≤ hi
  hi8 : hi ≤ 8
  lr : lo ≤ rt
  rh : rt ≤ hi
theorem sz_of {mo rm : Int} (h : sizE mo rm = 0) : Sz mo rm (mo.toNat / 2) mo.toNat rm.toNat := by
  have h1 := sizE_0 h
  constructor <;> omega
structure VT (co : Int) (lo hi rt d : Nat) (T : BT) : Prop where
  idx : T.idx = 0
  bel : Bel lo hi d T
  root : T.es.length ≤ rt
  gap : NoGap rt T
  srt : Srt co T.flat
  ents : ∀ x ∈ T.flat, entE co x = 0
theorem nodesL_in {k : BT} {p : Nat × Nd} : ∀ {ks : List BT}, p ∈ nodesL ks → ∃ k ∈ ks, p ∈ k.nodes
  | [], h => by
    rw [nodesL] at h
    cases h
  | x :: ks, h => by
    rw [nodesL] at h
    rcases List.mem_append.1 h with h | h
    · exact ⟨x, List.mem_cons_self .., h⟩
    · obtain ⟨k, hk, h2⟩ := nodesL_in (k := k) h
      exact ⟨k, List.mem_cons_of_mem _ hk, h2⟩
theorem nodes_sm {lo hi : Nat} : ∀ {d : Nat} {T : BT}, Bel lo hi d T → ∀ {n : Nat}, hi ≤ n → T.es.length ≤ n → ∀ p ∈ T.nodes, p.2.es.length ≤ n + 1 ∧ p.2.cs.length ≤ n + 1
  | 0, .nd i es ks, h, n, hn, hl, p, hp => by
    have e : ks = [] := h
    rw [e, BT.nodes, nodesL] at hp
    rcases List.mem_cons.1 hp with rfl | hp
    · exact ⟨Nat.le_succ_of_le hl, by show 0 ≤ _; omega⟩
    · cases hp
  | d + 1, .nd i es ks, h, n, hn, hl, p, hp => by
    rw [BT.nodes] at hp
    have hl' : es.length ≤ n := hl
    have h1 : ks.length = es.length + 1 := h.1
    rcases List.mem_cons.1 hp with rfl | hp
    · refine ⟨Nat.le_succ_of_le hl, ?_⟩
      show (idxs ks).length ≤ _
      rw [idxs_len]
      omega
    · obtain ⟨k, hk, hp⟩ := nodesL_in (k := default) hp
      have h2 := bal_iff.1 (h.2 k hk)
      exact nodes_sm h2.1 hn (by omega) p hp
theorem RepT.sm {ns : List Nd} {T : BT} {lo hi d n : Nat} (h : RepT ns T) (hB : Bel lo hi d T) (hn : hi ≤ n) (hl : T.es.length ≤ n) : Sm (n + 1) ns := fun k => by
  rcases Nat.lt_or_ge k ns.length with hk | hk
  · by_cases hm : k ∈ T.nodes.map Prod.fst
    · obtain ⟨p, hp, rfl⟩ := List.mem_map.1 hm
      have h1 := RepN.at_ (i := p.1) (x := p.2) h hp
      rw [h1.2]
      exact nodes_sm hB hn hl p hp
    · rw [h.rest k hk hm]
      exact ⟨Nat.zero_le _, Nat.zero_le _⟩
  · rw [nth_out hk]
    exact ⟨Nat.zero_le _, Nat.zero_le _⟩
theorem lowR_low {ns : List Nd} {T : BT} (h : RepT ns T) (h0 : T.idx = 0) : lowR ns = lowN ns := by
  have hr := h.root
  rw [h0] at hr
  unfold lowR lowN
  rw [h.frs h0, freN_nth hr.1 (by rw [hr.2])]
structure RootGrown (mo rm : Int) (lo hi rt m : Nat) (ns : List Nd) (fl : List TEnt) : Prop where
  ok : RootOk mo rm ns
  okR : RootROk mo rm ns
  same : grwRR mo rm ns = grwR mo rm ns
  tree : ∃ T d, RepT (grwR mo rm ns) T ∧ T.idx = 0 ∧ Bel lo hi d T ∧ T.es.length ≤ rt ∧ NoGap rt T ∧ T.flat = fl
  len : ns.length ≤ (grwR mo rm ns).length ∧ (grwR mo rm ns).length ≤ ns.length + 2
  last : LastU (grwR mo rm ns)
theorem grow_root {mo rm : Int} {lo hi rt d m : Nat} {ns : List Nd} {T : BT} (hz : Sz mo rm lo hi rt) (hR : RepT ns T) (h0 : T.idx = 0) (hB : Bel lo hi d T) (hb : T.es.length ≤ rt + 1) (hg : NoGap rt T) (hs : Sm m ns) (hm : 1 ≤ m ∧ m ≤ 880) (hl : ns.length ≤ 880) (hu : LastU ns) : RootGrown mo rm lo hi rt m ns T.flat := by
  cases T with
  | nd i es ks =>
  have hi0 : i = 0 := h0
  subst hi0
  have hmo := hz.emo; have hrm := hz.erm; have hlo := hz.elo; have hi3 := hz.hi3; have hi8 := hz.hi8; have hlr := hz.lr; have hrh := hz.rh
  have hat : 0 < ns.length ∧ nth ns 0 = ⟨true, es, idxs ks⟩ := RepT.root hR
  have hb' : es.length ≤ rt + 1 := hb
  have hlow := lowR_low hR h0
  have hrl := (rep_low hR).2
  have hrl2 : RepT (lowN ns).2 (plug [⟨0, [], [], []⟩] (.nd (freN ns).1 es ks)) := hrl
  have hown : (lowN ns).1 < (lowN ns).2.length ∧ nth (lowN ns).2 (lowN ns).1 = ⟨true, es, idxs ks⟩ := RepT.at_ hrl2
  have hC : CtxOk lo hi rt d [⟨0, [], [], []⟩] := ⟨⟨fun k hk => (nomatch hk), fun k hk => (nomatch hk)⟩, rfl, ⟨fun _ => Nat.zero_le _, fun h => absurd rfl h⟩, trivial⟩
  have hll := lowN_len ns
  have hsl : Sm 900 (lowN ns).2 := (hs.low hm.1).mono (by omega)
  have hspl : splM mo < es.length → SpOk mo (lowN ns).2 (lowN ns).1 := fun h => spl_ok hrl2 hC (show Bel lo hi d (.nd (freN ns).1 es ks) by cases d <;> exact hB) (by omega) (by omega) hsl h
  have hsplR : SpOk mo (lowN ns).2 (lowN ns).1 → SpROk mo (lowN ns).2 0 (lowN ns).1 := fun h => spr_ok hrl2 rfl h
  have hspE : splR mo (lowN ns).2 0 (lowN ns).1 = splN mo (lowN ns).2 (lowN ns).1 := splR_eq (mo := mo) hrl2 rfl
  have hbig : mo < ((nth (lowN ns).2 (lowN ns).1).es.length : Int) → splM mo < es.length := fun h => by
    rw [hown.2] at h
    simp only [] at h
    unfold splM
    omega
  have hnB : Bel lo hi d (.nd (freN ns).1 es ks) := by cases d <;> exact hB
  refine ⟨⟨hat.1, by omega, by rw [hat.2], fun _ h => hspl (hbig h)⟩, ⟨hat.1, by omega, by rw [hat.2], fun _ h => by rw [hlow] at h ⊢; exact hsplR (hspl (hbig h))⟩, ?_, ?_, ?_, ?_⟩
  · unfold grwRR grwR
    rw [hlow, hspE]
  · unfold grwR
    rw [hat.2, hown.2]
    simp only []
    by_cases h1 : rm < (es.length : Int)
    · rw [if_pos h1]
      by_cases h2 : mo < (es.length : Int)
      · rw [if_pos h2]
        have hsp := (rep_split (mo := mo) hrl2).2.2
        have hE : splM mo < es.length := by unfold splM; omega
        have hle : es.length = hi + 1 := by omega
        refine ⟨_, d + 1, hsp, rfl, bel_split hmo hlo hC hnB hle, ?_, fun e => ?_, ?_⟩
        · show (insAt ([] : List TEnt) 0 _).length ≤ rt
          rw [ins_len (Nat.zero_le _)]
          simp only [List.length_nil]
          omega
        · exfalso
          have e2 : (insAt ([] : List TEnt) 0 (nth es (splM mo))).length = 0 := congrArg List.length e
          rw [ins_len (Nat.zero_le _)] at e2
          simp at e2
        · have hf := flat_split (mo := mo) (o := (freN (lowN ns).2).1) hC hnB hE
          refine hf.trans ?_
          show (BT.nd 0 [] [BT.nd (freN ns).1 es ks]).flat = _
          rw [BT.flat, flatL, flatL, List.append_nil, BT.flat, BT.flat]
      · rw [if_neg h2]
        refine ⟨_, d + 1, hrl, rfl, ⟨rfl, fun k hk => ?_⟩, Nat.zero_le _, fun _ k hk => ?_, ?_⟩
        · rcases List.mem_singleton.1 hk
          exact bal_iff.2 ⟨hnB, by show lo ≤ es.length ∧ es.length ≤ hi; omega⟩
        · have : BT.nd (freN ns).1 es ks = k := (List.cons.inj hk).1
          rw [← this]
          show rt < es.length
          omega
        · rw [BT.flat, flatL, flatL, List.append_nil, BT.flat, BT.flat]
    · rw [if_neg h1]
      exact ⟨_, d, hR, rfl, hB, by show es.length ≤ rt; omega, hg, rfl⟩
  · unfold grwR
    split
    · split
      · have := splN_len mo (lowN ns).2 (lowN ns).1
        omega
      · omega
    · omega
  · unfold grwR
    split
    · split
      · exact hu.low.spl _ _
      · exact hu.low
    · exact hu
theorem vt_desc {co : Int} {lo hi rt d : Nat} {ns : List Nd} {T : BT} (hR : RepT ns T) (hV : VT co lo hi rt d T) (key : List UInt8) : ∃ D T' d', plug D T' = T ∧ CtxOk lo hi rt d' D ∧ Bel lo hi d' T' ∧ ((D = [] → T'.es.length ≤ rt) ∧ (D ≠ [] → lo ≤ T'.es.length ∧ T'.es.length ≤ hi)) ∧ d' + D.length = d ∧ d < ns.length ∧
    (pathN co ns key).1 = (D.map Fr.i).reverse ++ [T'.idx] ∧ (pathN co ns key).2 = (plc co T'.es key, fnd co T'.es key) ∧ (fnd co T'.es key = true ∨ T'.ks = []) ∧ Leads co key D := by
  have h1 := bel_deep hV.bel
  have h2 := hR.nlen
  obtain ⟨D, T', d', e1, e2, e3, e4, e5, e6, e7, e8, e9⟩ := desc (key := key) (rt := rt) (co := co) ns.length d [] T hR trivial hV.bel ⟨fun _ => hV.root, fun h => absurd rfl h⟩ (by omega)
  rw [hV.idx] at e6 e7
  simp only [List.append_nil] at e2 e4
  exact ⟨D, T', d', e1, e2, e3, e4, e5, by omega, e6, e7, e8, e9⟩
theorem last_app (A : List Nat) (i : Nat) : lastN (A ++ [i]) = i := by
  unfold lastN
  rw [List.length_append, List.length_singleton, Nat.add_sub_cancel]
  exact nth_mid' A i []
structure Inserted (co mo rm : Int) (lo hi rt : Nat) (ns : List Nd) (x : TEnt) (fl : List TEnt) : Prop where
  ok : InsOk co mo rm ns x
  okR : InsROk co mo rm ns x
  same : insR co mo rm ns x = insT co mo rm ns x
  tree : ∃ T d, RepT (insT co mo rm ns x) T ∧ VT co lo hi rt d T ∧ T.flat = insAt fl (plc co fl x.key) x
  len : ns.length ≤ (insT co mo rm ns x).length ∧ (insT co mo rm ns x).length ≤ 2 * ns.length + 2
  last : LastU (insT co mo rm ns x)
theorem es_sub : ∀ (es : List TEnt) (ks : List BT), es.Sublist (flatL es ks)
  | es, [] => by rw [flatL_nil]; exact List.Sublist.refl _
  | [], k :: ks => List.nil_sublist _
  | e :: es, k :: ks => by
    rw [flatL]
    exact ((es_sub es ks).cons_cons e).trans (List.sublist_append_right _ _)
theorem path_has {co : Int} {lo hi rt d : Nat} {ns : List Nd} {T : BT} (hR : RepT ns T) (hV : VT co lo hi rt d T) (key : List UInt8) : (pathN co ns key).2.2 = true ↔ HasK co T.flat key := by
  obtain ⟨D, T', d', e1, e2, e3, e4, e5, e6, e7, e8, e9, e10⟩ := vt_desc hR hV key
  have hfl : T.flat = preC D ++ (T'.flat ++ sufC D) := by rw [← e1]; exact plug_flat e2
  have hs := hV.srt
  rw [hfl] at hs
  have h1 := List.pairwise_append.1 hs
  have h2 := List.pairwise_append.1 h1.2.1
  rw [e8, hfl]
  simp only []
  cases T' with
  | nd i es ks =>
  constructor
  · intro h
    have hsub := es_sub es ks
    have hses : Srt co es := h2.1.sublist (by rw [BT.flat]; exact hsub)
    obtain ⟨y, hy, hc⟩ := (hasK_fnd hses).2 h
    exact ⟨y, List.mem_append_right _ (List.mem_append_left _ (by rw [BT.flat]; exact hsub.subset hy)), hc⟩
  · intro h
    rcases e9 with h9 | h9
    · exact h9
    · have hk : ks = [] := h9
      subst hk
      obtain ⟨y, hy, hc⟩ := h
      rw [flat_leaf] at hy h2
      refine (hasK_fnd (show Srt co es from h2.1)).1 ?_
      rcases List.mem_append.1 hy with hy | hy
      · have := pre_lt e2 e10 h1.1 y hy
        omega
      · rcases List.mem_append.1 hy with hy | hy
        · exact ⟨y, hy, hc⟩
        · have := suf_gt e2 e10 h2.2.1 y hy
          have := cmpK_swap co y.key key
          omega
theorem ins_all {co mo rm : Int} {lo hi rt d : Nat} {ns : List Nd} {T : BT} {x : TEnt} (hz : Sz mo rm lo hi rt) (hR : RepT ns T) (hV : VT co lo hi rt d T) (hl : ns.length ≤ 400) (hu : LastU ns) (hx : entE co x = 0) (hnf : ¬ (pathN co ns x.key).2.2 = true) : Inserted co mo rm lo hi rt ns x T.flat := by
  have hnk : ¬ HasK co T.flat x.key := fun h => hnf ((path_has hR hV x.key).2 h)
  have hsmT := hR.sm hV.bel (Nat.le_refl hi) (Nat.le_trans hV.root hz.rh)
  obtain ⟨D, T', d', e1, e2, e3, e4, e5, e6, e7, e8, e9, e10⟩ := vt_desc hR hV x.key
  rw [e8] at hnf
  have hks : T'.ks = [] := e9.resolve_left hnf
  cases T' with
  | nd i es ks =>
  have hk0 : ks = [] := hks
  subst hk0
  have hi8 := hz.hi8; have hi3 := hz.hi3; have hrh := hz.rh
  have hR1 : RepT ns (plug D (.nd i es [])) := by rw [e1]; exact hR
  have hat : i < ns.length ∧ nth ns i = ⟨true, es, []⟩ := RepT.at_ hR1
  have hfl : T.flat = preC D ++ (es ++ sufC D) := by rw [← e1, plug_flat e2, flat_leaf]
  have hsr := hV.srt
  rw [hfl] at hsr
  have hs1 := List.pairwise_append.1 hsr
  have hs2 := List.pairwise_append.1 hs1.2.1
  have hple := plc_le co x.key es
  have hb4 : es.length ≤ hi := by
    by_cases hD : D = []
    · have : es.length ≤ rt := e4.1 hD
      omega
    · exact (e4.2 hD).2
  have hlf : lastN (pathN co ns x.key).1 = i := by rw [e7]; exact last_app _ _
  have hlf2 : leafN co ns x.key = i := hlf
  have hpl : (pathN co ns x.key).2.1 = plc co es x.key := by rw [e8]; rfl
  have hinsB : insB co ns x = esN ns i (insAt es (plc co es x.key) x) := by
    unfold insB
    rw [hlf2, hpl, hat.2]
  have hPl : (pathN co ns x.key).1.length = D.length + 1 := by rw [e7]; simp
  have hPr : (pathN co ns x.key).1.reverse = i :: D.map Fr.i := by
    rw [e7]
    simp
    rfl
  have hidx : (plug D (.nd i (insAt es (plc co es x.key) x) [])).idx = 0 := by
    rw [plug_idx D (.nd i (insAt es (plc co es x.key) x) []) (.nd i es []) rfl, e1]
    exact hV.idx
  have hgc : GapC rt D es.length := gapC_of (T := .nd i es []) e2 (by rw [e1]; exact hV.gap)
  have hil : (insAt es (plc co es x.key) x).length = es.length + 1 := ins_len hple
  have hG := grow_up (lo := lo) (hi := hi) (rt := rt) hz.emo hz.elo (by omega) hz.rh (pathN co ns x.key).1 D d' (hi + 2) (esN ns i (insAt es (plc co es x.key) x)) (.nd i (insAt es (plc co es x.key) x) []) (rep_es hR1 _) hidx e2 (show Bel lo hi d' (.nd i _ []) by
      have := e3.leaf rfl
      subst this
      rfl) ⟨fun h => by show (insAt es _ x).length ≤ _; rw [hil]; have := e4.1 h; exact Nat.succ_le_succ this, fun h => by show lo ≤ (insAt es _ x).length ∧ (insAt es _ x).length ≤ _; rw [hil]; have h9 := e4.2 h; exact ⟨Nat.le_succ_of_le h9.1, Nat.succ_le_succ h9.2⟩⟩ (hgc.mono (by show es.length ≤ (insAt es _ x).length; omega)) (fun _ e => by
        intro k hk
        cases hk) ((hsmT.mono (by omega)).es i (by rw [hil]; omega)) (by omega) (by rw [esN_len]; omega) (hu.es _ _) (by
        show (pathN co ns x.key).1.take (D.length + 1) = (i :: D.map Fr.i).reverse
        rw [← hPl, List.take_length, ← hPr, List.reverse_reverse])
  have hfl2 : (plug D (.nd i (insAt es (plc co es x.key) x) [])).flat = insAt T.flat (plc co T.flat x.key) x := by
    rw [plug_flat e2, flat_leaf, hfl, plc_app1 (pre_lt e2 e10 hs1.1), plc_app2 (suf_gt e2 e10 hs2.2.1), insAt_app hple]
  rw [hfl2] at hG
  have hsrt := srt_ins (x := x) hV.srt hnk
  obtain ⟨T1, d1, g1, g2, g3, g4, g5, g6⟩ := hG.tree
  have hglen := hG.len
  rw [esN_len] at hglen
  have hRt := grow_root hz g1 g2 g3 g4 g5 hG.sm (by omega) (by omega) hG.last
  rw [g6] at hRt
  have hiT : insT co mo rm ns x = grwR mo rm (grwW mo (esN ns i (insAt es (plc co es x.key) x)) (i :: D.map Fr.i)) := by
    unfold insT
    rw [if_neg (by rw [e8]; exact hnf), hinsB, hPr]
    rfl
  have hesR : esN ns (lastN (pathN co ns x.key).1) (insAt (nth ns (lastN (pathN co ns x.key).1)).es (plc co (nth ns (lastN (pathN co ns x.key).1)).es x.key) x) = esN ns i (insAt es (plc co es x.key) x) := by
    rw [hlf, hat.2]
  have hsub : (pathN co ns x.key).1.length - 1 = D.length := by omega
  refine ⟨⟨by omega, by omega, by rw [hlf2]; exact hat.1, by rw [hlf2, hat.2]; show es.length ≤ 900; omega, by rw [hlf2, hat.2, hpl]; exact hple, by rw [hinsB, hPr]; exact hG.ok, by rw [hinsB, hPr]; exact hRt.ok⟩, ⟨by omega, by omega, by rw [hlf]; exact hat.1, by rw [hesR, hsub]; exact hG.okR, by rw [hesR, hsub, hG.same]; exact hRt.okR⟩, ?_, ?_, ?_, ?_⟩
  · unfold insR
    simp only []
    rw [hesR, hsub, hG.same, hiT]
    exact hRt.same
  · rw [hiT]
    obtain ⟨T2, d2, t1, t2, t3, t4, t5, t6⟩ := hRt.tree
    refine ⟨T2, d2, t1, ⟨t2, t3, t4, t5, by rw [t6]; exact hsrt, fun y hy => ?_⟩, t6⟩
    rw [t6] at hy
    unfold insAt at hy
    rcases List.mem_append.1 hy with hy | hy
    · exact hV.ents y (List.mem_of_mem_take hy)
    · rcases List.mem_cons.1 hy with rfl | hy
      · exact hx
      · exact hV.ents y (List.mem_of_mem_drop hy)
  · rw [hiT]
    have h9 : ns.length ≤ (grwW mo (esN ns i (insAt es (plc co es x.key) x)) (i :: D.map Fr.i)).length ∧ (grwW mo (esN ns i (insAt es (plc co es x.key) x)) (i :: D.map Fr.i)).length ≤ ns.length + D.length := hglen
    have h8 := hRt.len
    simp only [BT.idx] at h8
    omega
  · rw [hiT]
    exact hRt.last
section
variable {ns : List Nd} {N : List (Nat × Nd)} {a b c : Nat × Nd} {i : Nat} {x : Nd}
theorem RepN.es2 (h : RepN ns (a :: (i, x) :: N)) (es : List TEnt) : RepN (esN ns i es) (a :: (i, { x with es := es }) :: N) := ((h.perm (List.Perm.swap ..)).es es).perm (List.Perm.swap ..)
theorem RepN.cs2 (h : RepN ns (a :: (i, x) :: N)) (cs : List Int) : RepN (csN ns i cs) (a :: (i, { x with cs := cs }) :: N) := ((h.perm (List.Perm.swap ..)).cs cs).perm (List.Perm.swap ..)
theorem perm3 {a b c : Nat × Nd} {N : List (Nat × Nd)} : (a :: b :: c :: N).Perm (c :: a :: b :: N) := (List.Perm.cons a (List.Perm.swap ..)).trans (List.Perm.swap ..)
theorem RepN.es3 (h : RepN ns (a :: b :: (i, x) :: N)) (es : List TEnt) : RepN (esN ns i es) (a :: b :: (i, { x with es := es }) :: N) := ((h.perm perm3).es es).perm perm3.symm
theorem RepN.cs3 (h : RepN ns (a :: b :: (i, x) :: N)) (cs : List Int) : RepN (csN ns i cs) (a :: b :: (i, { x with cs := cs }) :: N) := ((h.perm perm3).cs cs).perm perm3.symm
theorem RepN.gone2 (h : RepN ns (a :: (i, x) :: N)) : RepN (ns.set i ⟨false, [], []⟩) (a :: N) := (h.perm (List.Perm.swap ..)).gone
theorem RepN.gone3 (h : RepN ns (a :: b :: (i, x) :: N)) : RepN (ns.set i ⟨false, [], []⟩) (a :: b :: N) := (h.perm perm3).gone
theorem RepN.at1 (h : RepN ns ((i, x) :: N)) : nth ns i = x := h.head.2
theorem RepN.at2 (h : RepN ns (a :: (i, x) :: N)) : nth ns i = x := (h.at_ (List.mem_cons_of_mem _ (List.mem_cons_self ..))).2
theorem RepN.at3 (h : RepN ns (a :: b :: (i, x) :: N)) : nth ns i = x := (h.at_ (List.mem_cons_of_mem _ (List.mem_cons_of_mem _ (List.mem_cons_self ..)))).2
end
section
variable {ns : List Nd} {C : List Fr} {p a b : Nat} {es Ae Be : List TEnt} {l r Ak Bk : List BT}
theorem two_perm : (plug C (.nd p es (l ++ .nd a Ae Ak :: .nd b Be Bk :: r))).nodes.Perm ((p, ⟨true, es, idxs l ++ (a : Int) :: (b : Int) :: idxs r⟩) :: (a, ⟨true, Ae, idxs Ak⟩) :: (b, ⟨true, Be, idxs Bk⟩) :: (ctxNodes C p ++ (nodesL l ++ (nodesL Ak ++ (nodesL Bk ++ nodesL r))))) := by
  refine (plug_nodes C _).trans ?_
  show (ctxNodes C p ++ (BT.nd p es _).nodes).Perm _
  rw [BT.nodes, nodesL_app, nodesL, nodesL, BT.nodes, BT.nodes, idxs_app, idxs_cons, idxs_cons]
  refine perm_ct fun x => ?_
  simp only [List.count_append, List.count_cons, List.cons_append, BT.idx]
  omega
theorem two_of (h : RepT ns (plug C (.nd p es (l ++ .nd a Ae Ak :: .nd b Be Bk :: r)))) : RepN ns ((p, ⟨true, es, idxs l ++ (a : Int) :: (b : Int) :: idxs r⟩) :: (a, ⟨true, Ae, idxs Ak⟩) :: (b, ⟨true, Be, idxs Bk⟩) :: (ctxNodes C p ++ (nodesL l ++ (nodesL Ak ++ (nodesL Bk ++ nodesL r))))) := RepN.perm h two_perm
theorem of_two {Ak' Bk' : List BT} (h : RepN ns ((p, ⟨true, es, idxs l ++ (a : Int) :: (b : Int) :: idxs r⟩) :: (a, ⟨true, Ae, idxs Ak'⟩) :: (b, ⟨true, Be, idxs Bk'⟩) :: (ctxNodes C p ++ (nodesL l ++ (nodesL Ak ++ (nodesL Bk ++ nodesL r)))))) (hp : (nodesL Ak ++ nodesL Bk).Perm (nodesL Ak' ++ nodesL Bk')) : RepT ns (plug C (.nd p es (l ++ .nd a Ae Ak' :: .nd b Be Bk' :: r))) := by
  refine RepN.perm (h.perm ?_) two_perm.symm
  refine List.Perm.cons _ (List.Perm.cons _ (List.Perm.cons _ (List.Perm.append_left _ (List.Perm.append_left _ ?_))))
  rw [← List.append_assoc, ← List.append_assoc]
  exact hp.append_right _
theorem rep_givF (h : RepT ns (plug C (.nd p es (l ++ .nd a Ae Ak :: .nd b Be Bk :: r)))) :
    RepT (givF ns p l.length a b) (plug C (.nd p (es.set l.length (nth Ae (Ae.length - 1))) (l ++ .nd a (Ae.take (Ae.length - 1)) (Ak.take (Ak.length - 1)) :: .nd b (insAt Be 0 (nth es l.length)) (Ak.drop (Ak.length - 1) ++ Bk) :: r))) := by
  have h0 := two_of h
  have hp := h0.at1; have ha := h0.at2; have hb := h0.at3
  have h1 := ((h0.es3 (insAt Be 0 (nth es l.length))).es (es.set l.length (nth Ae (Ae.length - 1)))).es2 (Ae.take (Ae.length - 1))
  have hnp : (nodesL Ak ++ nodesL Bk).Perm (nodesL (Ak.take (Ak.length - 1)) ++ nodesL (Ak.drop (Ak.length - 1) ++ Bk)) := by
    rw [nodesL_app, ← List.append_assoc, ← nodesL_split Ak (Ak.length - 1)]
  unfold givF
  rw [hp, ha, hb]
  simp only [idxs_len]
  split
  · rename_i hz
    have hk : Ak = [] := List.eq_nil_of_length_eq_zero hz
    subst hk
    exact of_two h1 hnp
  · rename_i hz
    have h2 := (h1.cs3 (insAt (idxs Bk) 0 ((idxs Ak).getD (Ak.length - 1) 0))).cs2 ((idxs Ak).take (Ak.length - 1))
    refine of_two (Ak' := Ak.take (Ak.length - 1)) (Bk' := Ak.drop (Ak.length - 1) ++ Bk) ?_ hnp
    have e1 : idxs (Ak.take (Ak.length - 1)) = (idxs Ak).take (Ak.length - 1) := idxs_take _ _
    have e2 : idxs (Ak.drop (Ak.length - 1) ++ Bk) = insAt (idxs Bk) 0 ((idxs Ak).getD (Ak.length - 1) 0) := by
      rw [idxs_app, idxs_drop]
      show _ = (idxs Ak).getD (Ak.length - 1) 0 :: idxs Bk
      have hlt : Ak.length - 1 < (idxs Ak).length := by rw [idxs_len]; omega
      rw [List.drop_eq_getElem_cons hlt, List.drop_of_length_le (by rw [idxs_len]; omega), List.getD_eq_getElem?_getD, List.getElem?_eq_getElem hlt]
      rfl
    rw [e1, e2]
    exact h2
theorem rep_givB (h : RepT ns (plug C (.nd p es (l ++ .nd a Ae Ak :: .nd b Be Bk :: r)))) :
    RepT (givB ns p l.length b a) (plug C (.nd p (es.set l.length (nth Be 0)) (l ++ .nd a (Ae ++ [nth es l.length]) (Ak ++ Bk.take 1) :: .nd b (others Be 0) (Bk.drop 1) :: r))) := by
  have h0 := two_of h
  have hp := h0.at1; have ha := h0.at2; have hb := h0.at3
  have h1 := ((h0.es2 (Ae ++ [nth es l.length])).es (es.set l.length (nth Be 0))).es3 (others Be 0)
  have hnp : (nodesL Ak ++ nodesL Bk).Perm (nodesL (Ak ++ Bk.take 1) ++ nodesL (Bk.drop 1)) := by
    rw [nodesL_app, List.append_assoc, ← nodesL_split Bk 1]
  unfold givB
  rw [hp, ha, hb]
  simp only [idxs_len]
  split
  · rename_i hz
    have hk : Bk = [] := List.eq_nil_of_length_eq_zero hz
    subst hk
    refine of_two (Ak' := Ak ++ [].take 1) (Bk' := [].drop 1) ?_ hnp
    rw [List.take_nil, List.append_nil]
    exact h1
  · rename_i hz
    have h2 := (h1.cs2 (idxs Ak ++ [(idxs Bk).getD 0 0])).cs3 (others (idxs Bk) 0)
    refine of_two (Ak' := Ak ++ Bk.take 1) (Bk' := Bk.drop 1) ?_ hnp
    cases Bk with
    | nil => exact absurd rfl hz
    | cons z Bk =>
      rw [idxs_app]
      exact h2
theorem rep_mrg (h : RepT ns (plug C (.nd p es (l ++ .nd a Ae Ak :: .nd b Be Bk :: r)))) :
    RepT (mrgN ns p l.length a b) (plug C (.nd p (others es l.length) (l ++ .nd a (Ae ++ nth es l.length :: Be) (Ak ++ Bk) :: r))) := by
  have h0 := two_of h
  have hp := h0.at1; have ha := h0.at2; have hb := h0.at3
  have h1 := ((((h0.es2 (Ae ++ nth es l.length :: Be)).cs2 (idxs Ak ++ idxs Bk)).es (others es l.length)).cs (others (idxs l ++ (a : Int) :: (b : Int) :: idxs r) (l.length + 1))).gone3
  unfold mrgN
  rw [hp, ha, hb]
  have e : others (idxs l ++ (a : Int) :: (b : Int) :: idxs r) (l.length + 1) = idxs l ++ (a : Int) :: idxs r := by
    unfold others
    rw [List.take_append, List.drop_append, idxs_len, List.take_of_length_le (by rw [idxs_len]; omega), List.drop_of_length_le (by rw [idxs_len]; omega), show l.length + 1 - l.length = 1 by omega, show l.length + 1 + 1 - l.length = 2 by omega]
    simp
  rw [e] at h1 ⊢
  refine RepN.perm h1 ?_
  refine List.Perm.trans ?_ (plug_nodes C _).symm
  show List.Perm _ (ctxNodes C p ++ (BT.nd p _ _).nodes)
  rw [BT.nodes, nodesL_app, nodesL, BT.nodes, nodesL_app, idxs_app, idxs_app, idxs_cons]
  refine perm_ct fun x => ?_
  simp only [List.count_append, List.count_cons, List.cons_append, BT.idx]
  omega
end
theorem flatL_two {l r : List BT} {es : List TEnt} {A B : BT} (h : l.length + r.length + 1 = es.length) : flatL es (l ++ A :: B :: r) = flatA es l ++ ((A.flat ++ nth es l.length :: B.flat) ++ flatZ (es.drop (l.length + 1)) r) := by
  rw [flatL_mid l es A (B :: r) (by rw [List.length_cons]; omega)]
  have hlt : l.length < es.length := by omega
  have e : es.drop l.length = nth es l.length :: es.drop (l.length + 1) := by
    rw [List.drop_eq_getElem_cons hlt, show nth es l.length = es[l.length] from nth_eq (List.getElem?_eq_getElem hlt)]
  rw [e, flatZ]
  simp only [List.append_assoc, List.cons_append]
def Fit (es : List TEnt) (ks : List BT) : Prop := ks = [] ∨ ks.length = es.length + 1
theorem flatL_cat {e : TEnt} {Be : List TEnt} {Bk : List BT} : ∀ {Ae : List TEnt} {Ak : List BT}, (Ak = [] ∧ Bk = []) ∨ (Ak.length = Ae.length + 1 ∧ Bk.length = Be.length + 1) → flatL (Ae ++ e :: Be) (Ak ++ Bk) = flatL Ae Ak ++ e :: flatL Be Bk
  | Ae, [], h => by
    rcases h with ⟨_, h⟩ | ⟨h, _⟩
    · subst h
      rw [List.append_nil, flatL_nil, flatL_nil, flatL_nil]
    · simp at h
  | [], [k], h => by
    rw [List.nil_append, List.singleton_append, flatL, flatL, flatL, List.append_nil]
  | [], k :: k' :: ks, h => by
    rcases h with ⟨h, _⟩ | ⟨h, _⟩
    · cases h
    · simp at h
  | a :: Ae, k :: ks, h => by
    rcases h with ⟨h, _⟩ | ⟨h, h2⟩
    · cases h
    · rw [List.cons_append, List.cons_append, flatL, flatL, flatL_cat (Ae := Ae) (Ak := ks) (.inr ⟨by simpa using h, h2⟩)]
      simp only [List.append_assoc, List.cons_append]
theorem flat_givF {Ae Be : List TEnt} {Ak Bk : List BT} {e : TEnt} (hA : 0 < Ae.length) (h : (Ak = [] ∧ Bk = []) ∨ (Ak.length = Ae.length + 1 ∧ Bk.length = Be.length + 1)) :
    flatL (Ae.take (Ae.length - 1)) (Ak.take (Ak.length - 1)) ++ nth Ae (Ae.length - 1) :: flatL (insAt Be 0 e) (Ak.drop (Ak.length - 1) ++ Bk) = flatL Ae Ak ++ e :: flatL Be Bk := by
  show _ ++ _ :: flatL (e :: Be) _ = _
  have hsp := flatL_split (Ae.length - 1) Ae Ak (by omega) (h.imp (·.1) (·.1))
  rcases h with ⟨h1, h2⟩ | ⟨h1, h2⟩
  · subst h1 h2
    rw [List.take_nil, List.drop_nil, List.nil_append, flatL_nil, flatL_nil, flatL_nil, flatL_nil]
    rw [List.take_nil, List.drop_nil, flatL_nil, flatL_nil, flatL_nil, List.drop_of_length_le (by omega)] at hsp
    conv => rhs; rw [← hsp]
    simp only [List.append_assoc, List.cons_append, List.nil_append]
  · have e1 : Ae.length - 1 + 1 = Ak.length - 1 := by omega
    rw [e1, List.drop_of_length_le (by omega : Ae.length ≤ Ak.length - 1)] at hsp
    have hd : Ak.drop (Ak.length - 1) = [Ak[Ak.length - 1]'(by omega)] := by
      rw [List.drop_eq_getElem_cons (by omega), List.drop_of_length_le (by omega)]
    rw [hd] at hsp ⊢
    rw [flatL, flatL_nil, List.append_nil] at hsp
    rw [List.singleton_append, flatL, ← hsp]
    simp only [List.append_assoc, List.cons_append]
theorem flat_givB {Ae Be : List TEnt} {Ak Bk : List BT} {e : TEnt} (hB : 0 < Be.length) (h : (Ak = [] ∧ Bk = []) ∨ (Ak.length = Ae.length + 1 ∧ Bk.length = Be.length + 1)) :
    flatL (Ae ++ [e]) (Ak ++ Bk.take 1) ++ nth Be 0 :: flatL (others Be 0) (Bk.drop 1) = flatL Ae Ak ++ e :: flatL Be Bk := by
  cases Be with
  | nil => exact absurd hB (by simp)
  | cons x Be =>
    show _ ++ x :: flatL Be _ = _
    rcases h with ⟨h1, h2⟩ | ⟨h1, h2⟩
    · subst h1 h2
      rw [List.take_nil, List.drop_nil, List.append_nil, flatL_nil, flatL_nil, flatL_nil, flatL_nil]
      simp only [List.append_assoc, List.cons_append, List.nil_append]
    · cases Bk with
      | nil => simp at h2
      | cons z Bk =>
        rw [List.take_succ_cons, List.take_zero, List.drop_succ_cons, List.drop_zero, flatL_cat (e := e) (Be := []) (Bk := [z]) (.inr ⟨h1, rfl⟩), flatL, flatL_nil, List.append_nil, flatL]
        simp only [List.append_assoc, List.cons_append]
theorem Bal.mono {lo lo' hi : Nat} (hl : lo' ≤ lo) : ∀ {d : Nat} {T : BT}, Bal lo hi d T → Bal lo' hi d T
  | 0, T, h => ⟨h.1, Nat.le_trans hl h.2.1, h.2.2⟩
  | d + 1, T, h => ⟨⟨h.1.1, fun k hk => (h.1.2 k hk).mono hl⟩, Nat.le_trans hl h.2.1, h.2.2⟩
theorem Bel.mono {lo lo' hi : Nat} (hl : lo' ≤ lo) : ∀ {d : Nat} {T : BT}, Bel lo hi d T → Bel lo' hi d T
  | 0, T, h => h
  | d + 1, T, h => ⟨h.1, fun k hk => (h.2 k hk).mono hl⟩
theorem CtxOk.mono {lo lo' hi rt : Nat} (hl : lo' ≤ lo) : ∀ {C : List Fr} {d : Nat}, CtxOk lo hi rt d C → CtxOk lo' hi rt d C
  | [], _, _ => trivial
  | f :: C, d, h => ⟨⟨fun k hk => (h.1.1 k hk).mono hl, fun k hk => (h.1.2 k hk).mono hl⟩, h.2.1, ⟨h.2.2.1.1, fun hne => ⟨Nat.le_trans hl (h.2.2.1.2 hne).1, (h.2.2.1.2 hne).2⟩⟩, CtxOk.mono hl h.2.2.2⟩
theorem BT.fit {lo hi d : Nat} {i j : Nat} {es es' : List TEnt} {ks ks' : List BT} (h : Bel lo hi d (.nd i es ks)) (h' : Bel lo hi d (.nd j es' ks')) : (ks = [] ∧ ks' = []) ∨ (ks.length = es.length + 1 ∧ ks'.length = es'.length + 1) := by
  cases d with
  | zero => exact .inl ⟨h, h'⟩
  | succ d => exact .inr ⟨h.1, h'.1⟩
theorem Bel.kid {lo hi d d' i : Nat} {es : List TEnt} {ks : List BT} (h : Bel lo hi d (.nd i es ks)) (e : d = d' + 1) : ∀ k ∈ ks, Bal lo hi d' k := by
  subst e
  exact h.2
def filRW (mo : Int) (P : List Nat) : Nat → List Nd → List Nd
  | 0, ns => ns
  | k + 1, ns => filRW mo P k (if ((nth ns (nth P (k + 1))).es.length : Int) < mo / 2 then filP mo ns (nth P k) (ixR (nth ns (nth P k)).cs ((nth P (k + 1) : Nat) : Int)) else ns)
structure FilR1 (mo : Int) (ns : List Nd) (p i : Nat) : Prop where
  ok : FilOk mo ns p (ixR (nth ns p).cs (i : Int))
  kd : kdN ns p (ixR (nth ns p).cs (i : Int)) = i
def FilROk (mo : Int) (P : List Nat) : Nat → List Nd → Prop
  | 0, _ => True
  | k + 1, ns => (nth P (k + 1) < ns.length ∧ (((nth ns (nth P (k + 1))).es.length : Int) < mo / 2 → FilR1 mo ns (nth P k) (nth P (k + 1)))) ∧
      FilROk mo P k (if ((nth ns (nth P (k + 1))).es.length : Int) < mo / 2 then filP mo ns (nth P k) (ixR (nth ns (nth P k)).cs ((nth P (k + 1) : Nat) : Int)) else ns)
section
variable {ns : List Nd} {C : List Fr} {p : Nat} {es : List TEnt} {ks : List BT} {mo : Int}
theorem idxs_getD {ks : List BT} {x : Nat} (h : x < ks.length) : (idxs ks).getD x 0 = ((nth ks x).idx : Int) := by
  unfold idxs
  rw [getD_map (d := default) h]
  rfl
theorem kid_ok (h : RepT ns (plug C (.nd p es ks))) : (∀ x, x < ks.length → (nth ks x).idx < ns.length ∧ p ≠ (nth ks x).idx) ∧ (idxs ks).Nodup := by
  constructor
  · intro x hx
    have hs := split_at hx
    generalize nth ks x = K at hs ⊢
    rw [hs] at h
    have h2 : RepT ns (plug (⟨p, es, ks.take x, ks.drop (x + 1)⟩ :: C) K) := h
    refine ⟨(RepT.at_ h2).1, fun e => ?_⟩
    have h1 := h2.plug.nd
    rw [List.map_append] at h1
    refine (List.nodup_append.1 h1).2.2 p ?_ K.idx K.idx_mem e
    rw [ctxNodes, Fr.nodes]
    exact List.mem_cons_self ..
  · have hk := rep_kids h
    have hm : (p, (⟨true, es, idxs ks⟩ : Nd)) ∈ (plug C (.nd p es ks)).nodes := (plug_nodes C (.nd p es ks)).mem_iff.2 (List.mem_append_right _ (by rw [BT.nodes]; exact List.mem_cons_self ..))
    exact (List.pairwise_flatMap.1 hk).1 _ hm
theorem nodup_getD {l : List Int} (h : l.Nodup) {x y : Nat} (hx : x < l.length) (hy : y < l.length) (hne : x ≠ y) : l.getD x 0 ≠ l.getD y 0 := fun e => by
  rw [List.getD_eq_getElem?_getD, List.getElem?_eq_getElem hx, List.getD_eq_getElem?_getD, List.getElem?_eq_getElem hy] at e
  exact hne ((List.getElem_inj h).1 e)
theorem fil_ok {k : Nat} (h : RepT ns (plug C (.nd p es ks))) (hk : k < ks.length) (hl : ks.length = es.length + 1) (hmo : 0 ≤ mo ∧ mo ≤ 1000) (hlen : ns.length ≤ 900) (hsm : Sm 900 ns) : FilOk mo ns p k := by
  have hat : p < ns.length ∧ nth ns p = ⟨true, es, idxs ks⟩ := RepT.at_ (T := .nd p es ks) h
  have hkd := kid_ok h
  have hcs : (nth ns p).cs = idxs ks := by rw [hat.2]
  have hkdN : ∀ x, x < ks.length → kdN ns p x = (nth ks x).idx := fun x hx => by
    unfold kdN
    rw [hcs, idxs_getD hx]
    rfl
  refine ⟨hmo, hat.1, by rw [hcs, idxs_len]; exact hk, by rw [hat.2]; show (idxs ks).length = _; rw [idxs_len]; exact hl, fun x hx => ?_, fun x y hx hy hne => ?_, hlen, hsm⟩
  · rw [hcs, idxs_len] at hx
    rw [hcs, idxs_getD hx, hkdN x hx]
    exact ⟨by omega, (hkd.1 x hx).1, (hkd.1 x hx).2⟩
  · rw [hcs, idxs_len] at hx hy
    have h1 := nodup_getD hkd.2 (by rw [idxs_len]; exact hx) (by rw [idxs_len]; exact hy) hne
    rw [idxs_getD hx, idxs_getD hy] at h1
    rw [hkdN x hx, hkdN y hy]
    omega
end
section
variable {ns : List Nd} {f : Fr} {C : List Fr} {T : BT}
theorem fr_at (h : RepT ns (plug (f :: C) T)) : f.i < ns.length ∧ nth ns f.i = ⟨true, f.es, idxs (f.l ++ T :: f.r)⟩ := RepT.at_ (C := C) (T := f.fill T) h
theorem fr_ix (h : RepT ns (plug (f :: C) T)) : ixR (nth ns f.i).cs (T.idx : Int) = f.l.length := by
  have h2 : RepT ns (plug C (.nd f.i f.es (f.l ++ T :: f.r))) := h
  have hnd := (kid_ok h2).2
  rw [idxs_app, idxs_cons] at hnd
  have hn : (T.idx : Int) ∉ idxs f.l := fun hm => (List.nodup_append.1 hnd).2.2 _ hm _ (List.mem_cons_self ..) rfl
  rw [(fr_at h).2]
  show ixR (idxs (f.l ++ T :: f.r)) (T.idx : Int) = _
  rw [idxs_app, idxs_cons]
  have h3 := ixB_app (B := idxs f.r) hn
  unfold ixR
  rw [h3, if_pos (by simp), idxs_len]
theorem fr_kd (h : RepT ns (plug (f :: C) T)) {x : Nat} (hx : x < (f.l ++ T :: f.r).length) : kdN ns f.i x = (nth (f.l ++ T :: f.r) x).idx := by
  unfold kdN
  rw [(fr_at h).2]
  show ((idxs (f.l ++ T :: f.r)).getD x 0).toNat = _
  rw [idxs_getD hx]
  rfl
theorem kid_es (h : RepT ns (plug (f :: C) T)) {x : Nat} (hx : x < (f.l ++ T :: f.r).length) : (nth ns (nth (f.l ++ T :: f.r) x).idx).es = (nth (f.l ++ T :: f.r) x).es := by
  have hs := split_at hx
  generalize nth (f.l ++ T :: f.r) x = K at hs ⊢
  have h2 : RepT ns (plug C (.nd f.i f.es (f.l ++ T :: f.r))) := h
  rw [hs] at h2
  have h3 : RepT ns (plug (⟨f.i, f.es, (f.l ++ T :: f.r).take x, (f.l ++ T :: f.r).drop (x + 1)⟩ :: C) K) := h2
  rw [(RepT.at_ h3).2]
theorem rich_at {mo : Int} (h : RepT ns (plug (f :: C) T)) {x : Nat} (hx : x < (f.l ++ T :: f.r).length) : richN mo ns f.i (x : Int) = decide (mo / 2 < ((nth (f.l ++ T :: f.r) x).es.length : Int)) := by
  have h1 := (fr_at h).2
  rw [rich_t h1 ⟨by omega, by show (x : Int) ≤ ((idxs (f.l ++ T :: f.r)).length : Int) - 1; rw [idxs_len]; omega⟩]
  rw [show ((x : Int)).toNat = x from rfl, fr_kd h hx, kid_es h hx]
theorem rich_no {mo : Int} (h : RepT ns (plug (f :: C) T)) {x : Int} (hx : x < 0 ∨ ((f.l ++ T :: f.r).length : Int) ≤ x) : richN mo ns f.i x = false := by
  refine rich_f (fr_at h).2 ?_
  show (decide (0 ≤ x) && decide (x ≤ ((idxs (f.l ++ T :: f.r)).length : Int) - 1)) = false
  rw [idxs_len]
  rcases hx with hx | hx
  · rw [decide_eq_false (by omega)]
    rfl
  · rw [decide_eq_false (by omega : ¬ x ≤ ((f.l ++ T :: f.r).length : Int) - 1), Bool.and_false]
end
theorem nth_app2 {α : Type} [Inhabited α] {l r : List α} {x : Nat} (h : l.length ≤ x) : nth (l ++ r) x = nth r (x - l.length) := by
  unfold nth
  rw [List.getD_eq_getElem?_getD, List.getElem?_append_right h, ← List.getD_eq_getElem?_getD]
theorem fill_step {mo : Int} {lo hi rt d : Nat} {ns : List Nd} {f : Fr} {C : List Fr} {T : BT} (hmo : mo = (hi : Int)) (hlo : lo = hi / 2) (h3 : 3 ≤ hi) (hR : RepT ns (plug (f :: C) T)) (hC : CtxOk lo hi rt d (f :: C)) (hB : Bel lo hi d T) (hT : T.es.length + 1 = lo) (hg : C = [] → f.es ≠ []) :
    ∃ es' ks', RepT (filP mo ns f.i f.l.length) (plug C (.nd f.i es' ks')) ∧ Bel lo hi (d + 1) (.nd f.i es' ks') ∧ f.es.length ≤ es'.length + 1 ∧ es'.length ≤ f.es.length ∧ flatL es' ks' = (f.fill T).flat := by
  obtain ⟨p, es, l, r⟩ := f
  obtain ⟨t, Te, Tk⟩ := T
  have hTl : Te.length + 1 = lo := hT
  have hlen : l.length + r.length = es.length := hC.2.1
  have hlb : ∀ k ∈ l, Bal lo hi d k := hC.1.1
  have hrb : ∀ k ∈ r, Bal lo hi d k := hC.1.2
  have hne : es ≠ [] := fun e => by
    by_cases hc : C = []
    · exact hg hc e
    · have h9 : lo ≤ es.length := (hC.2.2.1.2 hc).1
      rw [e] at h9
      simp only [List.length_nil] at h9
      omega
  have hpos : 0 < es.length := List.length_pos_iff.2 hne
  have hfl : (Fr.fill ⟨p, es, l, r⟩ (.nd t Te Tk)).flat = flatL es (l ++ .nd t Te Tk :: r) := rfl
  rw [hfl]
  show ∃ es' ks', RepT (filP mo ns p l.length) (plug C (.nd p es' ks')) ∧ Bel lo hi (d + 1) (.nd p es' ks') ∧ es.length ≤ es'.length + 1 ∧ es'.length ≤ es.length ∧ flatL es' ks' = flatL es (l ++ .nd t Te Tk :: r)
  have hT0 : nth (l ++ BT.nd t Te Tk :: r) l.length = .nd t Te Tk := nth_mid' l _ r
  have hkT : kdN ns p l.length = t := by
    have := fr_kd hR (x := l.length) (by simp)
    rw [this]
    show (nth (l ++ BT.nd t Te Tk :: r) l.length).idx = t
    rw [hT0]
    rfl
  -- the neighbour in front
  rcases List.eq_nil_or_concat l with hl0 | ⟨l', A, hlA⟩
  · -- none
    subst hl0
    have hr1 : richN mo ns p (((([] : List BT).length : Nat) : Int) - 1) = false := rich_no hR (.inl (by simp))
    cases r with
    | nil =>
      simp only [List.length_nil] at hlen
      omega
    | cons G r =>
      obtain ⟨g, Ge, Gk⟩ := G
      have hG := hrb (.nd g Ge Gk) (List.mem_cons_self ..)
      have hGb := bal_iff.1 hG
      have hGl : lo ≤ Ge.length ∧ Ge.length ≤ hi := hGb.2
      have hkG : kdN ns p 1 = g := by
        have := fr_kd hR (x := 1) (by simp)
        rw [this]
        rfl
      have hr2 : richN mo ns p ((([] : List BT).length : Nat) + 1 : Int) = decide (mo / 2 < (Ge.length : Int)) := by
        have := rich_at (mo := mo) hR (x := 1) (by simp)
        exact this
      have hfit := BT.fit hB hGb.1
      unfold filP
      rw [hr1, if_neg (by decide), hr2]
      by_cases hrich : mo / 2 < (Ge.length : Int)
      · rw [if_pos (decide_eq_true hrich)]
        have hrep := rep_givB (l := []) (r := r) (es := es) (a := t) (b := g) hR
        have e1 : givB ns p ([] : List BT).length (kdN ns p (([] : List BT).length + 1)) (kdN ns p ([] : List BT).length) = givB ns p 0 g t := by rw [hkT]; show givB ns p 0 (kdN ns p 1) t = _; rw [hkG]
        rw [e1]
        refine ⟨_, _, hrep, ⟨by show (_ :: _ :: r).length = (es.set _ _).length + 1; simp only [List.length_cons, List.length_set]; have h9 : 0 + (r.length + 1) = es.length := hlen; omega, fun k hk => ?_⟩, by rw [List.length_set]; omega, by rw [List.length_set]; exact Nat.le_refl _, ?_⟩
        · have hk' : k = .nd t (Te ++ [nth es 0]) (Tk ++ Gk.take 1) ∨ k = .nd g (others Ge 0) (Gk.drop 1) ∨ k ∈ r := by
            rcases List.mem_cons.1 hk with h | hk
            · exact .inl h
            · rcases List.mem_cons.1 hk with h | hk
              · exact .inr (.inl h)
              · exact .inr (.inr hk)
          rcases hk' with rfl | rfl | hk'
          · refine bal_iff.2 ⟨?_, by show lo ≤ (Te ++ [_]).length ∧ (Te ++ [_]).length ≤ hi; simp only [List.length_append, List.length_singleton]; omega⟩
            cases d with
            | zero =>
              have e1 : Tk = [] := hB
              have e2 : Gk = [] := hGb.1
              subst e1 e2
              rfl
            | succ d =>
              have e1 : Tk.length = Te.length + 1 := hB.1
              have e2 : Gk.length = Ge.length + 1 := hGb.1.1
              refine ⟨by show (Tk ++ Gk.take 1).length = (Te ++ [_]).length + 1; simp only [List.length_append, List.length_take, List.length_singleton]; omega, fun k hk => ?_⟩
              rcases List.mem_append.1 hk with hk | hk
              · exact hB.2 k hk
              · exact hGb.1.2 k (List.mem_of_mem_take hk)
          · refine bal_iff.2 ⟨?_, by show lo ≤ (Ge.drop 1).length ∧ (Ge.drop 1).length ≤ hi; rw [List.length_drop]; omega⟩
            cases d with
            | zero =>
              have e2 : Gk = [] := hGb.1
              subst e2
              rfl
            | succ d =>
              have e2 : Gk.length = Ge.length + 1 := hGb.1.1
              refine ⟨by show (Gk.drop 1).length = (Ge.drop 1).length + 1; simp only [List.length_drop]; omega, fun k hk => hGb.1.2 k (List.mem_of_mem_drop hk)⟩
          · exact hrb k (List.mem_cons_of_mem _ hk')
        · have hln : ([] : List BT).length + r.length + 1 = es.length := by simp only [List.length_cons, List.length_nil] at hlen ⊢; omega
          have hs : ([] : List BT).length + r.length + 1 = (es.set ([] : List BT).length (nth Ge 0)).length := by rw [List.length_set]; exact hln
          have h1 := flatL_two (l := []) (r := r) (A := .nd t (Te ++ [nth es 0]) (Tk ++ Gk.take 1)) (B := .nd g (others Ge 0) (Gk.drop 1)) hs
          have h2 := flatL_two (l := []) (r := r) (A := .nd t Te Tk) (B := .nd g Ge Gk) hln
          rw [h2]
          refine h1.trans ?_
          have e0 : nth (es.set ([] : List BT).length (nth Ge 0)) ([] : List BT).length = nth Ge 0 := nth_eq (List.getElem?_set_self hpos)
          have e2 : (es.set ([] : List BT).length (nth Ge 0)).drop (([] : List BT).length + 1) = es.drop (([] : List BT).length + 1) := List.drop_set_of_lt (by simp)
          rw [e0, e2]
          have e3 : ∀ x : List TEnt, flatA x ([] : List BT) = [] := fun x => by cases x <;> rfl
          rw [e3, e3, BT.flat, BT.flat, BT.flat, BT.flat]
          rw [flat_givB (by omega) hfit]
          rfl
      · rw [if_neg (by rw [decide_eq_false hrich]; decide), if_neg (by simp), if_pos (by rw [(fr_at hR).2]; show 1 < (idxs ([] ++ BT.nd t Te Tk :: BT.nd g Ge Gk :: r)).length; rw [idxs_len]; simp)]
        have hrep := rep_mrg (l := []) (r := r) (es := es) (a := t) (b := g) hR
        have e1 : mrgN ns p ([] : List BT).length (kdN ns p ([] : List BT).length) (kdN ns p (([] : List BT).length + 1)) = mrgN ns p 0 t g := by rw [hkT]; show mrgN ns p 0 t (kdN ns p 1) = _; rw [hkG]
        rw [e1]
        have hol : (others es 0).length = es.length - 1 := oth_len hpos
        refine ⟨_, _, hrep, ⟨by show (_ :: r).length = (others es 0).length + 1; rw [hol]; simp only [List.length_cons, List.length_nil] at hlen ⊢; omega, fun k hk => ?_⟩, by show es.length ≤ (others es 0).length + 1; rw [hol]; omega, by show (others es 0).length ≤ _; rw [hol]; omega, ?_⟩
        · rcases List.mem_cons.1 (show k ∈ BT.nd t (Te ++ nth es 0 :: Ge) (Tk ++ Gk) :: r from hk) with rfl | hk'
          · refine bal_iff.2 ⟨?_, by show lo ≤ (Te ++ _ :: Ge).length ∧ (Te ++ _ :: Ge).length ≤ hi; simp only [List.length_append, List.length_cons]; omega⟩
            cases d with
            | zero =>
              have e1 : Tk = [] := hB
              have e2 : Gk = [] := hGb.1
              subst e1 e2
              rfl
            | succ d =>
              have e1 : Tk.length = Te.length + 1 := hB.1
              have e2 : Gk.length = Ge.length + 1 := hGb.1.1
              refine ⟨by show (Tk ++ Gk).length = (Te ++ _ :: Ge).length + 1; simp only [List.length_append, List.length_cons]; omega, fun k hk => ?_⟩
              rcases List.mem_append.1 hk with hk | hk
              · exact hB.2 k hk
              · exact hGb.1.2 k hk
          · exact hrb k (List.mem_cons_of_mem _ hk')
        · have hln : ([] : List BT).length + r.length + 1 = es.length := by simp only [List.length_cons, List.length_nil] at hlen ⊢; omega
          have h2 := flatL_two (l := []) (r := r) (A := .nd t Te Tk) (B := .nd g Ge Gk) hln
          rw [h2]
          have h1 := flatL_mid [] (others es 0) (.nd t (Te ++ nth es 0 :: Ge) (Tk ++ Gk)) r (by rw [hol]; simp only [List.length_nil] at hln ⊢; omega)
          refine h1.trans ?_
          have e3 : ∀ x : List TEnt, flatA x ([] : List BT) = [] := fun x => by cases x <;> rfl
          rw [e3, e3, BT.flat, BT.flat, BT.flat, flatL_cat hfit]
          rfl
  · -- one in front
    rw [List.concat_eq_append] at hlA
    subst hlA
    obtain ⟨a, Ae, Ak⟩ := A
    have hA := hlb (.nd a Ae Ak) (by simp)
    have hAb := bal_iff.1 hA
    have hAl : lo ≤ Ae.length ∧ Ae.length ≤ hi := hAb.2
    have hll : (l' ++ [BT.nd a Ae Ak]).length = l'.length + 1 := by simp
    have hkA : kdN ns p l'.length = a := by
      have := fr_kd hR (x := l'.length) (by simp only [List.length_append, List.length_cons]; omega)
      rw [this]
      show (nth ((l' ++ [BT.nd a Ae Ak]) ++ BT.nd t Te Tk :: r) l'.length).idx = a
      rw [List.append_assoc, List.singleton_append, nth_mid']
      rfl
    have hr1 : richN mo ns p (((l' ++ [BT.nd a Ae Ak]).length : Nat) - 1 : Int) = decide (mo / 2 < (Ae.length : Int)) := by
      have := rich_at (mo := mo) hR (x := l'.length) (by simp only [List.length_append, List.length_cons]; omega)
      have e : nth ((l' ++ [BT.nd a Ae Ak]) ++ BT.nd t Te Tk :: r) l'.length = .nd a Ae Ak := by rw [List.append_assoc, List.singleton_append, nth_mid']
      rw [hll, show ((l'.length + 1 : Nat) : Int) - 1 = (l'.length : Int) by omega]
      refine this.trans ?_
      show decide (mo / 2 < ((nth ((l' ++ [BT.nd a Ae Ak]) ++ BT.nd t Te Tk :: r) l'.length).es.length : Int)) = _
      rw [e]
      rfl
    have hfit := BT.fit hAb.1 hB
    have hR2 : RepT ns (plug C (.nd p es (l' ++ .nd a Ae Ak :: .nd t Te Tk :: r))) := by
      have : RepT ns (plug C (.nd p es ((l' ++ [BT.nd a Ae Ak]) ++ BT.nd t Te Tk :: r))) := hR
      rw [List.append_assoc, List.singleton_append] at this
      exact this
    have hln : l'.length + r.length + 1 = es.length := by rw [hll] at hlen; omega
    have hassoc : (l' ++ [BT.nd a Ae Ak]) ++ BT.nd t Te Tk :: r = l' ++ BT.nd a Ae Ak :: BT.nd t Te Tk :: r := by rw [List.append_assoc, List.singleton_append]
    have hl'b : ∀ k ∈ l', Bal lo hi d k := fun k hk => hlb k (List.mem_append_left _ hk)
    have hlt' : l'.length < es.length := by omega
    rw [hassoc]
    unfold filP
    rw [hr1]
    by_cases hrich : mo / 2 < (Ae.length : Int)
    · rw [if_pos (decide_eq_true hrich), hkT, show (l' ++ [BT.nd a Ae Ak]).length - 1 = l'.length by simp, hkA]
      refine ⟨_, _, rep_givF hR2, ⟨by show (l' ++ _ :: _ :: r).length = (es.set _ _).length + 1; simp only [List.length_append, List.length_cons, List.length_set]; omega, fun k hk => ?_⟩, by rw [List.length_set]; omega, by rw [List.length_set]; exact Nat.le_refl _, ?_⟩
      · rcases List.mem_append.1 hk with hk | hk
        · exact hl'b k hk
        · rcases List.mem_cons.1 hk with rfl | hk
          · refine bal_iff.2 ⟨?_, by show lo ≤ (Ae.take _).length ∧ (Ae.take _).length ≤ hi; rw [List.length_take]; omega⟩
            cases d with
            | zero =>
              have e2 : Ak = [] := hAb.1
              subst e2
              rfl
            | succ d =>
              have e2 : Ak.length = Ae.length + 1 := hAb.1.1
              exact ⟨by show (Ak.take _).length = (Ae.take _).length + 1; simp only [List.length_take]; omega, fun k hk => hAb.1.2 k (List.mem_of_mem_take hk)⟩
          · rcases List.mem_cons.1 hk with rfl | hk
            · refine bal_iff.2 ⟨?_, by show lo ≤ (_ :: Te).length ∧ (_ :: Te).length ≤ hi; simp only [List.length_cons]; omega⟩
              cases d with
              | zero =>
                have e1 : Tk = [] := hB
                have e2 : Ak = [] := hAb.1
                subst e1 e2
                rfl
              | succ d =>
                have e1 : Tk.length = Te.length + 1 := hB.1
                have e2 : Ak.length = Ae.length + 1 := hAb.1.1
                refine ⟨by show (Ak.drop _ ++ Tk).length = (_ :: Te).length + 1; simp only [List.length_append, List.length_drop, List.length_cons]; omega, fun k hk => ?_⟩
                rcases List.mem_append.1 hk with hk | hk
                · exact hAb.1.2 k (List.mem_of_mem_drop hk)
                · exact hB.2 k hk
            · exact hrb k hk
      · rw [flatL_two (l := l') (by rw [List.length_set]; exact hln), flatL_two (l := l') hln, BT.flat, BT.flat, BT.flat, BT.flat]
        have e0 : nth (es.set l'.length (nth Ae (Ae.length - 1))) l'.length = nth Ae (Ae.length - 1) := nth_eq (by rw [List.getElem?_set_self hlt'])
        have e2 : (es.set l'.length (nth Ae (Ae.length - 1))).drop (l'.length + 1) = es.drop (l'.length + 1) := List.drop_set_of_lt (by omega)
        have e3 : flatA (es.set l'.length (nth Ae (Ae.length - 1))) l' = flatA es l' := by
          rw [← flatA_take (es := es.set _ _) (l := l') (by rw [List.length_set]; omega), ← flatA_take (es := es) (l := l') (by omega), List.take_set_of_le (Nat.le_refl _)]
        rw [e0, e2, e3, flat_givF (by omega) hfit]
    · rw [if_neg (by rw [decide_eq_false hrich]; decide)]
      -- the neighbour behind
      have key : richN mo ns p (((l' ++ [BT.nd a Ae Ak]).length : Nat) + 1 : Int) = true → ∃ g Ge Gk r', r = .nd g Ge Gk :: r' ∧ lo < Ge.length ∧ kdN ns p ((l' ++ [BT.nd a Ae Ak]).length + 1) = g := fun h => by
        cases r with
        | nil =>
          have := rich_no (mo := mo) hR (x := (((l' ++ [BT.nd a Ae Ak]).length : Nat) + 1 : Int)) (.inr (by simp only [List.length_append, List.length_cons, List.length_nil]; omega))
          rw [show richN mo ns p _ = false from this] at h
          cases h
        | cons G r =>
          obtain ⟨g, Ge, Gk⟩ := G
          have hx : (l' ++ [BT.nd a Ae Ak]).length + 1 < ((l' ++ [BT.nd a Ae Ak]) ++ BT.nd t Te Tk :: .nd g Ge Gk :: r).length := by simp only [List.length_append, List.length_cons, List.length_nil]; omega
          have e : nth ((l' ++ [BT.nd a Ae Ak]) ++ BT.nd t Te Tk :: .nd g Ge Gk :: r) ((l' ++ [BT.nd a Ae Ak]).length + 1) = .nd g Ge Gk := by
            rw [nth_app2 (by omega), Nat.add_sub_cancel_left]
            rfl
          have h1 := rich_at (mo := mo) hR hx
          have h2 : richN mo ns p (((l' ++ [BT.nd a Ae Ak]).length + 1 : Nat) : Int) = true := h
          rw [show richN mo ns p _ = _ from h1] at h2
          have h3 : mo / 2 < ((nth ((l' ++ [BT.nd a Ae Ak]) ++ BT.nd t Te Tk :: .nd g Ge Gk :: r) ((l' ++ [BT.nd a Ae Ak]).length + 1)).es.length : Int) := of_decide_eq_true h2
          rw [e] at h3
          have h3' : mo / 2 < (Ge.length : Int) := h3
          refine ⟨g, Ge, Gk, r, rfl, by omega, ?_⟩
          have h4 := fr_kd hR hx
          refine h4.trans ?_
          show (nth ((l' ++ [BT.nd a Ae Ak]) ++ BT.nd t Te Tk :: .nd g Ge Gk :: r) ((l' ++ [BT.nd a Ae Ak]).length + 1)).idx = g
          rw [e]
          rfl
      by_cases hrr : richN mo ns p (((l' ++ [BT.nd a Ae Ak]).length : Nat) + 1 : Int) = true
      · rw [if_pos hrr]
        obtain ⟨g, Ge, Gk, r', hr, hGr, hkG⟩ := key hrr
        subst hr
        rw [hkG, hkT]
        have hG := hrb (.nd g Ge Gk) (List.mem_cons_self ..)
        have hGb := bal_iff.1 hG
        have hGl : lo ≤ Ge.length ∧ Ge.length ≤ hi := hGb.2
        have hfit2 := BT.fit hB hGb.1
        have hln2 : (l' ++ [BT.nd a Ae Ak]).length + r'.length + 1 = es.length := by simp only [List.length_cons] at hlen; omega
        have hlt2 : (l' ++ [BT.nd a Ae Ak]).length < es.length := by omega
        refine ⟨_, _, rep_givB (l := l' ++ [BT.nd a Ae Ak]) (r := r') (es := es) (a := t) (b := g) hR, ⟨by show ((l' ++ [BT.nd a Ae Ak]) ++ _ :: _ :: r').length = (es.set _ _).length + 1; rw [List.length_append, List.length_set]; simp only [List.length_cons]; omega, fun k hk => ?_⟩, by rw [List.length_set]; omega, by rw [List.length_set]; exact Nat.le_refl _, ?_⟩
        · rcases List.mem_append.1 hk with hk | hk
          · exact hlb k hk
          · rcases List.mem_cons.1 hk with rfl | hk
            · refine bal_iff.2 ⟨?_, by show lo ≤ (Te ++ [_]).length ∧ (Te ++ [_]).length ≤ hi; simp only [List.length_append, List.length_singleton]; omega⟩
              cases d with
              | zero =>
                have e1 : Tk = [] := hB
                have e2 : Gk = [] := hGb.1
                subst e1 e2
                rfl
              | succ d =>
                have e1 : Tk.length = Te.length + 1 := hB.1
                have e2 : Gk.length = Ge.length + 1 := hGb.1.1
                refine ⟨by show (Tk ++ Gk.take 1).length = (Te ++ [_]).length + 1; simp only [List.length_append, List.length_take, List.length_singleton]; omega, fun k hk => ?_⟩
                rcases List.mem_append.1 hk with hk | hk
                · exact hB.2 k hk
                · exact hGb.1.2 k (List.mem_of_mem_take hk)
            · rcases List.mem_cons.1 hk with rfl | hk
              · refine bal_iff.2 ⟨?_, by show lo ≤ (Ge.drop 1).length ∧ (Ge.drop 1).length ≤ hi; rw [List.length_drop]; omega⟩
                cases d with
                | zero =>
                  have e2 : Gk = [] := hGb.1
                  subst e2
                  rfl
                | succ d =>
                  have e2 : Gk.length = Ge.length + 1 := hGb.1.1
                  exact ⟨by show (Gk.drop 1).length = (Ge.drop 1).length + 1; simp only [List.length_drop]; omega, fun k hk => hGb.1.2 k (List.mem_of_mem_drop hk)⟩
              · exact hrb k (List.mem_cons_of_mem _ hk)
        · rw [← hassoc, flatL_two (l := l' ++ [BT.nd a Ae Ak]) (by rw [List.length_set]; exact hln2), flatL_two (l := l' ++ [BT.nd a Ae Ak]) hln2, BT.flat, BT.flat, BT.flat, BT.flat]
          have e0 : nth (es.set (l' ++ [BT.nd a Ae Ak]).length (nth Ge 0)) (l' ++ [BT.nd a Ae Ak]).length = nth Ge 0 := nth_eq (by rw [List.getElem?_set_self hlt2])
          have e2 : (es.set (l' ++ [BT.nd a Ae Ak]).length (nth Ge 0)).drop ((l' ++ [BT.nd a Ae Ak]).length + 1) = es.drop ((l' ++ [BT.nd a Ae Ak]).length + 1) := List.drop_set_of_lt (by omega)
          have e3 : flatA (es.set (l' ++ [BT.nd a Ae Ak]).length (nth Ge 0)) (l' ++ [BT.nd a Ae Ak]) = flatA es (l' ++ [BT.nd a Ae Ak]) := by
            rw [← flatA_take (es := es.set _ _) (l := l' ++ [BT.nd a Ae Ak]) (by rw [List.length_set]; omega), ← flatA_take (es := es) (l := l' ++ [BT.nd a Ae Ak]) (by omega), List.take_set_of_le (Nat.le_refl _)]
          rw [e0, e2, e3, flat_givB (by omega) hfit2]
      · rw [if_neg hrr, if_pos (by simp), hkT, show (l' ++ [BT.nd a Ae Ak]).length - 1 = l'.length by simp, hkA]
        have hol : (others es l'.length).length = es.length - 1 := oth_len hlt'
        refine ⟨_, _, rep_mrg hR2, ⟨by show (l' ++ _ :: r).length = (others es l'.length).length + 1; rw [hol]; simp only [List.length_append, List.length_cons]; omega, fun k hk => ?_⟩, by rw [hol]; omega, by rw [hol]; omega, ?_⟩
        · rcases List.mem_append.1 hk with hk | hk
          · exact hl'b k hk
          · rcases List.mem_cons.1 hk with rfl | hk
            · refine bal_iff.2 ⟨?_, by show lo ≤ (Ae ++ _ :: Te).length ∧ (Ae ++ _ :: Te).length ≤ hi; simp only [List.length_append, List.length_cons]; omega⟩
              cases d with
              | zero =>
                have e1 : Tk = [] := hB
                have e2 : Ak = [] := hAb.1
                subst e1 e2
                rfl
              | succ d =>
                have e1 : Tk.length = Te.length + 1 := hB.1
                have e2 : Ak.length = Ae.length + 1 := hAb.1.1
                refine ⟨by show (Ak ++ Tk).length = (Ae ++ _ :: Te).length + 1; simp only [List.length_append, List.length_cons]; omega, fun k hk => ?_⟩
                rcases List.mem_append.1 hk with hk | hk
                · exact hAb.1.2 k hk
                · exact hB.2 k hk
            · exact hrb k hk
        · rw [flatL_mid l' (others es l'.length) _ r (by rw [hol]; omega), flatL_two (l := l') hln, BT.flat, BT.flat, BT.flat, flatL_cat hfit]
          have e3 : flatA (others es l'.length) l' = flatA es l' := by
            unfold others
            rw [flatA_app _ _ _ (by rw [List.length_take]; omega), flatA_take (by omega)]
          have e4 : (others es l'.length).drop l'.length = es.drop (l'.length + 1) := by
            unfold others
            rw [List.drop_append, List.drop_of_length_le (by rw [List.length_take]; omega), List.length_take, Nat.min_eq_left (by omega), Nat.sub_self, List.drop_zero, List.nil_append]
          rw [e3, e4]
theorem givF_len (ns : List Nd) (p k f t : Nat) : (givF ns p k f t).length = ns.length := by
  unfold givF
  simp only []
  split <;> simp [esN_len, csN_len]
theorem givB_len (ns : List Nd) (p k f t : Nat) : (givB ns p k f t).length = ns.length := by
  unfold givB
  simp only []
  split <;> simp [esN_len, csN_len]
theorem mrgN_len (ns : List Nd) (p k t f : Nat) : (mrgN ns p k t f).length = ns.length := by
  unfold mrgN
  simp [esN_len, csN_len]
theorem filP_len (mo : Int) (ns : List Nd) (p k : Nat) : (filP mo ns p k).length = ns.length := by
  unfold filP
  split
  · exact givF_len ..
  · split
    · exact givB_len ..
    · split
      · exact mrgN_len ..
      · split
        · exact mrgN_len ..
        · rfl
def GapS (rt : Nat) : List Fr → Prop
  | f :: g :: C => GapC rt (g :: C) f.es.length
  | _ => True
theorem GapC.s {rt n : Nat} : ∀ {C : List Fr}, GapC rt C n → GapS rt C
  | [], _ => trivial
  | [f], _ => trivial
  | f :: g :: C, h => h
theorem plug_root {lo hi rt : Nat} : ∀ {C : List Fr} {d : Nat} (T : BT), CtxOk lo hi rt d C → C ≠ [] → (plug C T).es.length ≤ rt
  | [], _, _, _, h => absurd rfl h
  | [f], d, T, hC, _ => hC.2.2.1.1 rfl
  | f :: g :: C, d, T, hC, _ => plug_root (C := g :: C) (f.fill T) hC.2.2.2 (by simp)
structure Filled (mo : Int) (lo hi rt : Nat) (P : List Nat) (k : Nat) (ns : List Nd) (W : List Nat) (fl : List TEnt) : Prop where
  ok : FilsOk mo ns W
  okR : FilROk mo P k ns
  same : filRW mo P k ns = filW mo ns W
  tree : ∃ T d, RepT (filW mo ns W) T ∧ T.idx = 0 ∧ Bel lo hi d T ∧ T.es.length ≤ rt ∧ T.flat = fl
  len : (filW mo ns W).length = ns.length
theorem fill_up {mo : Int} {lo hi rt : Nat} (hmo : mo = (hi : Int)) (hlo : lo = hi / 2) (h3 : 3 ≤ hi) (h8 : hi ≤ 800) (hrt : rt ≤ hi) (hlr : lo ≤ rt) (P : List Nat) : ∀ (C : List Fr) (d : Nat) (ns : List Nd) (T : BT), RepT ns (plug C T) → (plug C T).idx = 0 → CtxOk lo hi rt d C → Bel lo hi d T →
    ((C = [] → T.es.length ≤ rt) ∧ (C ≠ [] → lo ≤ T.es.length + 1 ∧ T.es.length ≤ hi)) → (∀ f, C = [f] → f.es = [] → rt ≤ T.es.length) → GapS rt C → ns.length ≤ 800 → P.take (C.length + 1) = (T.idx :: C.map Fr.i).reverse →
    Filled mo lo hi rt P C.length ns (T.idx :: C.map Fr.i) (plug C T).flat
  | [], d, ns, T, hR, h0, hC, hB, hb, hg, hs, hl, hP => by
    have h1 : T.idx = 0 := h0
    have hat := RepT.at_ (C := []) hR
    have e : filW mo ns [T.idx] = ns := by
      show fil1 mo ns T.idx = ns
      unfold fil1
      rw [if_neg (fun h => by omega)]
    refine ⟨⟨⟨hat.1, fun h => by omega⟩, trivial⟩, trivial, e.symm, ?_, ?_⟩
    · show ∃ T' d', RepT (filW mo ns [T.idx]) T' ∧ _
      rw [e]
      exact ⟨T, d, hR, h1, hB, hb.1 rfl, rfl⟩
    · show (filW mo ns [T.idx]).length = _
      rw [e]
  | f :: C, d, ns, T, hR, h0, hC, hB, hb, hg, hs, hl, hP => by
    have hne : T.idx ≠ 0 := by
      have := plug_ne hR (by simp)
      rw [h0] at this
      exact this
    have hat := RepT.at_ (C := f :: C) hR
    have hb1 := hb.2 (by simp)
    have hlen2 : (C.map Fr.i).length = C.length := by simp
    have hP1 := take_rev (A := f.i :: C.map Fr.i) (x := T.idx) (by
      rw [List.length_cons, hlen2]
      exact hP)
    rw [List.length_cons, hlen2] at hP1
    have hP2 := take_rev (A := C.map Fr.i) (x := f.i) (by
      rw [hlen2]
      exact hP1.2)
    rw [hlen2] at hP2
    have hf := hC.2.2.1
    have hes : (nth ns T.idx).es.length = T.es.length := by rw [hat.2]
    have hmo2 : mo / 2 = (lo : Int) := by omega
    have hgn : ∀ n, f.es.length ≤ n + 1 → ∀ g, C = [g] → g.es = [] → rt ≤ n := fun n hn g hC' hge => by
      subst hC'
      have h9 : rt < f.es.length := hs hge
      omega
    have hgS : GapS rt C := by
      cases C with
      | nil => trivial
      | cons g C' =>
        cases C' with
        | nil => trivial
        | cons h C'' => exact hs
    by_cases hsm : T.es.length + 1 = lo
    · -- filled
      have hlt : ((nth ns T.idx).es.length : Int) < mo / 2 := by rw [hes, hmo2]; omega
      have hlt2 : ((nth ns (nth P (C.length + 1))).es.length : Int) < mo / 2 := by rw [hP1.1]; exact hlt
      have hnfe : C = [] → f.es ≠ [] := fun hc e => by
        subst hc
        have := hg f rfl e
        omega
      obtain ⟨es', ks', s1, s2, s3, s4, s5⟩ := fill_step (rt := rt) hmo hlo h3 hR hC hB hsm hnfe
      have hpar := RepT.par hR
      have hix := fr_ix hR
      have e1 : fil1 mo ns T.idx = filP mo ns f.i f.l.length := by
        unfold fil1 filN
        rw [if_pos ⟨by omega, hlt⟩, hpar]
      have hlp := filP_len mo ns f.i f.l.length
      have hsm9 : Sm 900 ns := by
        have hB9 := plug_bel (C := f :: C) (T := T) (hC.mono (lo' := lo - 1) (by omega)) (hB.mono (by omega)) (fun _ => by omega)
        exact (RepT.sm hR hB9 (Nat.le_refl hi) (Nat.le_trans (plug_root T hC (by simp)) hrt)).mono (by omega)
      have hfo : FilOk mo ns f.i f.l.length := by
        have hR2 : RepT ns (plug C (.nd f.i f.es (f.l ++ T :: f.r))) := hR
        exact fil_ok hR2 (by simp) (by have := hC.2.1; simp only [List.length_append, List.length_cons]; omega) (by omega) (by omega) hsm9
      have hkd : kdN ns f.i f.l.length = T.idx := by
        rw [fr_kd hR (by simp), nth_mid']
      have ih := fill_up hmo hlo h3 h8 hrt hlr P C (d + 1) (filP mo ns f.i f.l.length) (.nd f.i es' ks') s1 (by
        rw [plug_idx C (.nd f.i es' ks') (f.fill T) rfl]
        exact h0) hC.2.2.2 s2 ⟨fun h => Nat.le_trans s4 (hf.1 h), fun h => by
          have h9 := hf.2 h
          show lo ≤ es'.length + 1 ∧ es'.length ≤ hi
          omega⟩ (hgn _ s3) hgS (by omega) (by exact hP1.2)
      have eW : filW mo ns (T.idx :: (f :: C).map Fr.i) = filW mo (filP mo ns f.i f.l.length) ((BT.nd f.i es' ks').idx :: C.map Fr.i) := by
        show filW mo (fil1 mo ns T.idx) _ = _
        rw [e1]
        rfl
      have hpf : (plug C (.nd f.i es' ks')).flat = (plug (f :: C) T).flat := by
        show _ = (plug C (f.fill T)).flat
        rw [plug_flat hC.2.2.2, plug_flat hC.2.2.2, BT.flat, s5]
      refine ⟨⟨⟨hat.1, fun _ _ => ?_⟩, ?_⟩, ⟨⟨by rw [hP1.1]; exact hat.1, fun _ => ?_⟩, ?_⟩, ?_, ?_, ?_⟩
      · rw [hpar]
        exact hfo
      · rw [e1]
        exact ih.ok
      · rw [hP1.1, hP2.1]
        exact ⟨by rw [hix]; exact hfo, by rw [hix]; exact hkd⟩
      · rw [if_pos hlt2, hP1.1, hP2.1, hix]
        exact ih.okR
      · show filRW mo P C.length (if _ then _ else _) = _
        rw [if_pos hlt2, hP1.1, hP2.1, hix, eW]
        exact ih.same
      · rw [eW, ← hpf]
        exact ih.tree
      · rw [eW, ih.len, hlp]
    · -- it stays as it is
      have hbal : lo ≤ T.es.length := by omega
      have hno : ¬ ((nth ns T.idx).es.length : Int) < mo / 2 := by rw [hes, hmo2]; omega
      have hno2 : ¬ ((nth ns (nth P (C.length + 1))).es.length : Int) < mo / 2 := by rw [hP1.1]; exact hno
      have e1 : fil1 mo ns T.idx = ns := by
        unfold fil1
        rw [if_neg (fun h => hno h.2)]
      have ih := fill_up hmo hlo h3 h8 hrt hlr P C (d + 1) ns (f.fill T) hR h0 hC.2.2.2 (bel_fill hC (bal_iff.2 ⟨hB, hbal, hb1.2⟩)) ⟨fun h => hf.1 h, fun h => by
        have h9 := hf.2 h
        show lo ≤ f.es.length + 1 ∧ f.es.length ≤ hi
        omega⟩ (hgn _ (by show f.es.length ≤ f.es.length + 1; omega)) hgS hl hP1.2
      have eW : filW mo ns (T.idx :: (f :: C).map Fr.i) = filW mo ns ((f.fill T).idx :: C.map Fr.i) := by
        show filW mo (fil1 mo ns T.idx) _ = _
        rw [e1]
        rfl
      refine ⟨⟨⟨hat.1, fun _ h => absurd h hno⟩, ?_⟩, ⟨⟨by rw [hP1.1]; exact hat.1, fun h => absurd h hno2⟩, ?_⟩, ?_, ?_, ?_⟩
      · rw [e1]
        exact ih.ok
      · rw [if_neg hno2]
        exact ih.okR
      · show filRW mo P C.length (if _ then _ else _) = _
        rw [if_neg hno2, eW]
        exact ih.same
      · rw [eW]
        exact ih.tree
      · rw [eW]
        exact ih.len
theorem rot_ok {rm : Int} {ns : List Nd} {T : BT} (h : RepT ns T) (h0 : T.idx = 0) (hl : ns.length ≤ 900) : RotOk rm ns := by
  obtain ⟨i, es, ks⟩ := T
  have hi : i = 0 := h0
  subst hi
  have hat : 0 < ns.length ∧ nth ns 0 = ⟨true, es, idxs ks⟩ := h.root
  refine ⟨hat.1, hl, by rw [hat.2], fun h1 => ?_⟩
  have hcs : (nth ns 0).cs = idxs ks := by rw [hat.2]
  rw [hcs, idxs_len] at h1
  have hk := (kid_ok (C := []) h).1 0 (by omega)
  have hg := idxs_getD (ks := ks) (x := 0) (by omega)
  have hkd : kdN ns 0 0 = (nth ks 0).idx := by
    unfold kdN
    rw [hcs, hg]
    rfl
  rw [hcs, hg, hkd]
  refine ⟨by have := hk.2; omega, hk.1, ?_⟩
  have hs := split_at (ks := ks) (p := 0) (by omega)
  generalize nth ks 0 = K at hs ⊢
  rw [hs] at h
  have h3 : RepT ns (plug [⟨0, es, ks.take 0, ks.drop (0 + 1)⟩] K) := h
  rw [(RepT.at_ h3).2]
theorem rotN_len (rm : Int) (ns : List Nd) : (rotN rm ns).length = ns.length := by
  unfold rotN
  split
  · split
    · simp
    · rfl
  · rfl
theorem rep_rot {mo rm : Int} {lo hi rt d : Nat} {ns : List Nd} {T : BT} (hz : Sz mo rm lo hi rt) (h : RepT ns T) (h0 : T.idx = 0) (hB : Bel lo hi d T) (hr : T.es.length ≤ rt) : ∃ T' d', RepT (rotN rm ns) T' ∧ T'.idx = 0 ∧ Bel lo hi d' T' ∧ T'.es.length ≤ rt ∧ NoGap rt T' ∧ T'.flat = T.flat := by
  obtain ⟨i, es, ks⟩ := T
  have hi0 : i = 0 := h0
  subst hi0
  have hat : 0 < ns.length ∧ nth ns 0 = ⟨true, es, idxs ks⟩ := h.root
  have hcs : (nth ns 0).cs = idxs ks := by rw [hat.2]
  have hes : (nth ns 0).es = es := by rw [hat.2]
  have hrm := hz.erm; have hlo := hz.elo; have hi3 := hz.hi3
  unfold rotN
  by_cases h1 : (nth ns 0).es.length = 0 ∧ (nth ns 0).cs.length = 1
  · rw [if_pos h1]
    rw [hes, hcs, idxs_len] at h1
    have hes0 : es = [] := List.eq_nil_of_length_eq_zero h1.1
    obtain ⟨K, hK⟩ : ∃ K, ks = [K] := by
      cases ks with
      | nil => simp at h1
      | cons K ks =>
        cases ks with
        | nil => exact ⟨K, rfl⟩
        | cons _ _ => simp at h1
    subst hes0 hK
    obtain ⟨c, Ke, Kk⟩ := K
    have hkd : kdN ns 0 0 = c := by
      unfold kdN
      rw [hcs]
      rfl
    have h3 : RepT ns (plug [⟨0, [], [], []⟩] (.nd c Ke Kk)) := h
    have hKat : c < ns.length ∧ nth ns c = ⟨true, Ke, idxs Kk⟩ := RepT.at_ h3
    rw [hkd, hKat.2]
    obtain ⟨d', rfl⟩ : ∃ d', d = d' + 1 := by
      cases d with
      | zero => exact absurd (show [BT.nd c Ke Kk] = [] from hB) (by simp)
      | succ d' => exact ⟨d', rfl⟩
    have hKB := bal_iff.1 (hB.2 (.nd c Ke Kk) (List.mem_singleton.2 rfl))
    have hKl : lo ≤ Ke.length ∧ Ke.length ≤ hi := hKB.2
    simp only []
    by_cases h2 : (Ke.length : Int) ≤ rm
    · rw [if_pos h2]
      have hN : RepN ns ((0, ⟨true, [], [(c : Int)]⟩) :: (c, ⟨true, Ke, idxs Kk⟩) :: nodesL Kk) := by
        have := h
        unfold RepT at this
        rw [BT.nodes, nodesL, BT.nodes, nodesL, List.append_nil] at this
        exact this
      have h4 := (hN.set ⟨true, Ke, idxs Kk⟩).gone2
      refine ⟨.nd 0 Ke Kk, d', ?_, rfl, ?_, by show Ke.length ≤ rt; omega, fun e => ?_, ?_⟩
      · unfold RepT
        rw [BT.nodes]
        exact h4
      · cases d' <;> exact hKB.1
      · have e' : Ke = [] := e
        rw [e'] at hKl
        simp only [List.length_nil] at hKl
        omega
      · rw [BT.flat, BT.flat, flatL, flatL_nil, List.append_nil, BT.flat]
    · rw [if_neg h2]
      refine ⟨_, d' + 1, h, rfl, hB, Nat.zero_le _, fun _ k hk => ?_, rfl⟩
      have : BT.nd c Ke Kk = k := (List.cons.inj hk).1
      rw [← this]
      show rt < Ke.length
      omega
  · rw [if_neg h1]
    refine ⟨_, d, h, rfl, hB, hr, fun e k hk => ?_, rfl⟩
    refine absurd ⟨?_, ?_⟩ h1
    · rw [hes]
      show es.length = 0
      rw [show es = [] from e]
      rfl
    · rw [hcs, idxs_len]
      show ks.length = 1
      rw [show ks = [k] from hk]
      rfl
theorem tln_us {ns : List Nd} : ∀ (m : Nat) {i : Nat}, i < m → (nth ns i).us = true → i < tln ns m
  | 0, i, h, _ => absurd h (Nat.not_lt_zero _)
  | m + 1, i, h, hu => by
    rw [tln]
    split
    · exact h
    · rename_i h2
      rcases Nat.eq_or_lt_of_le (Nat.le_of_lt_succ h) with rfl | h3
      · exact absurd hu h2
      · exact tln_us m h3 hu
theorem tln_last {ns : List Nd} : ∀ (m : Nat), 0 < tln ns m → (nth ns (tln ns m - 1)).us = true
  | 0, h => absurd h (Nat.lt_irrefl _)
  | m + 1, h => by
    rw [tln] at h ⊢
    split at h
    · rename_i h2
      rw [if_pos h2]
      exact h2
    · rename_i h2
      rw [if_neg h2]
      exact tln_last m h
theorem nth_take9 {α : Type} [Inhabited α] {l : List α} {m i : Nat} (h : i < m) : nth (l.take m) i = nth l i := by
  unfold nth
  rw [List.getD_eq_getElem?_getD, List.getElem?_take, if_pos h, ← List.getD_eq_getElem?_getD]
theorem rep_trim {ns : List Nd} {T : BT} (h : RepT ns T) (h0 : T.idx = 0) : RepT (trmN ns) T ∧ LastU (trmN ns) ∧ (trmN ns).length ≤ ns.length := by
  have hroot := h.root
  rw [h0] at hroot
  have hle := tln_le ns ns.length
  have hpos := tln_us ns.length hroot.1 (by rw [hroot.2])
  have hl : (trmN ns).length = tln ns ns.length := by
    unfold trmN
    rw [List.length_take]
    omega
  refine ⟨⟨fun p hp => ?_, h.nd, fun i hi hm => ?_⟩, ?_, by omega⟩
  · have h1 := RepN.at_ (i := p.1) (x := p.2) h hp
    have h2 := tln_us ns.length h1.1 (by rw [h1.2]; exact nodes_us T p hp)
    unfold trmN
    rw [List.getElem?_take, if_pos h2]
    exact h.get p hp
  · rw [hl] at hi
    unfold trmN
    rw [nth_take9 hi]
    exact h.rest i (by omega) hm
  · unfold LastU
    rw [hl]
    unfold trmN
    rw [nth_take9 (by omega)]
    exact tln_last ns.length (by omega)
theorem rgt_desc {ns : List Nd} {lo hi rt : Nat} : ∀ (f d : Nat) (C : List Fr) (T : BT), RepT ns (plug C T) → CtxOk lo hi rt d C → Bel lo hi d T → (lo ≤ T.es.length ∧ T.es.length ≤ hi) → C ≠ [] → d < f →
    ∃ D T' d', plug D T' = T ∧ CtxOk lo hi rt d' (D ++ C) ∧ Bel lo hi d' T' ∧ (lo ≤ T'.es.length ∧ T'.es.length ≤ hi) ∧ T'.ks = [] ∧ rgtN ns f T.idx = (D.map Fr.i).reverse ++ [T'.idx] ∧ RgtOk ns f T.idx ∧ sufC D = [] ∧ d' + D.length = d
  | 0, d, C, T, _, _, _, _, _, h => absurd h (Nat.not_lt_zero _)
  | f + 1, d, C, T, hR, hC, hB, hb, hne, hd => by
    have hat := hR.at_
    have hcs : (nth ns T.idx).cs = idxs T.ks := by rw [hat.2]
    rw [rgtN, RgtOk, hcs, idxs_len]
    by_cases hk : T.ks.length = 0
    · rw [if_pos hk]
      exact ⟨[], T, d, rfl, hC, hB, hb, List.eq_nil_of_length_eq_zero hk, rfl, ⟨hat.1, .inl hk⟩, rfl, rfl⟩
    · rw [if_neg hk]
      obtain ⟨d', rfl⟩ : ∃ d', d = d' + 1 := by
        cases d with
        | zero => exact absurd (show T.ks.length = 0 by rw [show T.ks = [] from hB]; rfl) hk
        | succ d' => exact ⟨d', rfl⟩
      have hkl := hB.1
      obtain ⟨l, K, hlK⟩ : ∃ l K, T.ks = l ++ [K] := by
        rcases List.eq_nil_or_concat T.ks with h | ⟨l, K, h⟩
        · rw [h] at hk
          exact absurd rfl hk
        · exact ⟨l, K, by rw [h, List.concat_eq_append]⟩
      have hll : T.ks.length = l.length + 1 := by rw [hlK]; simp
      have hbal : ∀ k ∈ T.ks, Bal lo hi d' k := hB.2
      have hBK := bal_iff.1 (hbal K (by rw [hlK]; simp))
      have hT : T = Fr.fill ⟨T.idx, T.es, l, []⟩ K := by
        have := T.eta
        rw [hlK] at this
        exact this
      have hctx : CtxOk lo hi rt d' (⟨T.idx, T.es, l, []⟩ :: C) := ⟨⟨fun k hk => hbal k (by rw [hlK]; simp [hk]), fun k hk => (nomatch hk)⟩, by show l.length + 0 = T.es.length; omega, ⟨fun h => absurd h hne, fun _ => hb⟩, hC⟩
      have hnK : nth T.ks (T.ks.length - 1) = K := by rw [hll, hlK, Nat.add_sub_cancel]; exact nth_mid' l K []
      have hget : (idxs T.ks).getD (T.ks.length - 1) 0 = (K.idx : Int) := by rw [idxs_getD (by omega), hnK]
      have hkd : kdN ns T.idx (T.ks.length - 1) = K.idx := by
        unfold kdN
        rw [hcs, hget]
        rfl
      rw [hkd, hget]
      obtain ⟨D, T', d9, e1, e2, e3, e4, e5, e6, e7, e8, e9⟩ := rgt_desc f d' (⟨T.idx, T.es, l, []⟩ :: C) K (by
        show RepT ns (plug C (Fr.fill _ K))
        rw [← hT]
        exact hR) hctx hBK.1 hBK.2 (by simp) (by omega)
      refine ⟨D ++ [⟨T.idx, T.es, l, []⟩], T', d9, ?_, ?_, e3, e4, e5, ?_, ⟨hat.1, .inr ⟨by omega, e7⟩⟩, ?_, ?_⟩
      · rw [plug_app, e1]
        exact hT.symm
      · rw [List.append_assoc]
        exact e2
      · rw [e6]
        simp
      · have hsuf : ∀ (A : List Fr) (g : Fr), sufC A = [] → g.es.length ≤ g.l.length → sufC (A ++ [g]) = [] := by
          intro A
          induction A with
          | nil =>
            intro g _ h
            show flatZ (g.es.drop g.l.length) g.r ++ [] = []
            rw [List.drop_of_length_le h]
            rfl
          | cons a A ih =>
            intro g h h2
            have h3 : flatZ (a.es.drop a.l.length) a.r ++ sufC A = [] := h
            have h4 := List.append_eq_nil_iff.1 h3
            show flatZ (a.es.drop a.l.length) a.r ++ sufC (A ++ [g]) = []
            rw [h4.1, ih g h4.2 h2]
            rfl
        exact hsuf D _ e8 (by show T.es.length ≤ l.length; omega)
      · simp only [List.length_append, List.length_singleton]
        omega
def remRN (mo rm : Int) (ns : List Nd) (P : List Nat) (k : Nat) : List Nd := trmN (rotN rm (filRW mo (remQ ns P k) ((remQ ns P k).length - 1) (rem2 ns P k)))
theorem preC_app : ∀ (A B : List Fr), preC (A ++ B) = preC B ++ preC A
  | [], B => by simp [preC]
  | f :: A, B => by rw [List.cons_append, preC, preC, preC_app A B, List.append_assoc]
theorem sufC_app : ∀ (A B : List Fr), sufC (A ++ B) = sufC A ++ sufC B
  | [], B => rfl
  | f :: A, B => by rw [List.cons_append, sufC, sufC, sufC_app A B, List.append_assoc]
theorem ctx_pre {lo hi rt : Nat} : ∀ {A B : List Fr} {d : Nat}, CtxOk lo hi rt d (A ++ B) → B ≠ [] → CtxOk lo hi hi d A
  | [], _, _, _, _ => trivial
  | f :: A, B, d, h, hB => ⟨h.1, h.2.1, ⟨fun _ => (h.2.2.1.2 (by simp [hB])).2, fun _ => h.2.2.1.2 (by simp [hB])⟩, ctx_pre h.2.2.2 hB⟩
theorem ctx_swap {lo hi rt : Nat} {f f' : Fr} (hl : f'.l = f.l) (hr : f'.r = f.r) (he : f'.es.length = f.es.length) {B : List Fr} : ∀ {A : List Fr} {d : Nat}, CtxOk lo hi rt d (A ++ f :: B) → CtxOk lo hi rt d (A ++ f' :: B)
  | [], d, h => ⟨by rw [hl, hr]; exact h.1, by rw [hl, hr, he]; exact h.2.1, by rw [he]; exact h.2.2.1, h.2.2.2⟩
  | g :: A, d, h => ⟨h.1, h.2.1, ⟨fun e => absurd e (by simp), fun _ => h.2.2.1.2 (by simp)⟩, ctx_swap hl hr he h.2.2.2⟩
theorem nogap_plug {lo hi rt : Nat} : ∀ {D : List Fr} {d : Nat} {T T' : BT}, CtxOk lo hi rt d D → T.es.length = T'.es.length → (D = [] → NoGap rt T') → NoGap rt (plug D T) → NoGap rt (plug D T')
  | [], d, T, T', _, _, h, _ => h rfl
  | [f], d, T, T', hC, he, _, h => fun e k hk => by
    have h1 : f.es = [] := e
    have hl := hC.2.1
    rw [h1] at hl
    have el : f.l = [] := List.eq_nil_of_length_eq_zero (by simp only [List.length_nil] at hl; omega)
    have er : f.r = [] := List.eq_nil_of_length_eq_zero (by simp only [List.length_nil] at hl; omega)
    have h2 : f.l ++ T' :: f.r = [k] := hk
    rw [el, er] at h2
    have h3 : T' = k := (List.cons.inj h2).1
    rw [← h3, ← he]
    refine h e T ?_
    show f.l ++ T :: f.r = [T]
    rw [el, er]
    rfl
  | f :: g :: D, d, T, T', hC, he, _, h => nogap_plug (D := g :: D) (T := f.fill T) (T' := f.fill T') hC.2.2.2 rfl (fun e => absurd e (by simp)) h
theorem others_app {α : Type} {A l B : List α} {i : Nat} (h : i < l.length) : others (A ++ (l ++ B)) (A.length + i) = A ++ (others l i ++ B) := by
  unfold others
  rw [List.take_length_add_append, show A.length + i + 1 = A.length + (i + 1) by omega, List.drop_length_add_append, List.take_append_of_le_length (by omega), List.drop_append_of_le_length (by omega)]
  simp only [List.append_assoc]
theorem others_mid {α : Type} (A B : List α) (x : α) : others (A ++ x :: B) A.length = A ++ B := by
  unfold others
  rw [List.take_left' rfl, List.drop_append, List.drop_of_length_le (by omega), Nat.add_sub_cancel_left]
  rfl
theorem others_sub {α : Type} (l : List α) (i : Nat) : (others l i).Sublist l := by
  have h : (l.take i ++ l.drop (i + 1)).Sublist (l.take i ++ l.drop i) := by
    refine List.Sublist.append (List.Sublist.refl _) ?_
    rw [← List.drop_drop]
    exact List.drop_sublist _ _
  rw [List.take_append_drop] at h
  exact h
theorem others_last {α : Type} (l : List α) (x : α) : others (l ++ [x]) ((l ++ [x]).length - 1) = l := by
  rw [List.length_append, List.length_singleton, Nat.add_sub_cancel, others_mid, List.append_nil]
theorem fnd_lt' {co : Int} {es : List TEnt} {key : List UInt8} (h : fnd co es key = true) : plc co es key < es.length := by
  unfold fnd at h
  simp only [Bool.and_eq_true, decide_eq_true_eq] at h
  exact h.1
structure RemFin (mo rm : Int) (lo hi rt : Nat) (ns : List Nd) (Q : List Nat) (fl : List TEnt) : Prop where
  fil : FilsOk mo ns Q.reverse
  rot : RotOk rm (filW mo ns Q.reverse)
  filR : FilROk mo Q (Q.length - 1) ns
  same : filRW mo Q (Q.length - 1) ns = filW mo ns Q.reverse
  tree : ∃ T d, RepT (trmN (rotN rm (filW mo ns Q.reverse))) T ∧ T.idx = 0 ∧ Bel lo hi d T ∧ T.es.length ≤ rt ∧ NoGap rt T ∧ T.flat = fl
  last : LastU (trmN (rotN rm (filW mo ns Q.reverse)))
  len : (trmN (rotN rm (filW mo ns Q.reverse))).length ≤ ns.length
theorem rem_fin {mo rm : Int} {lo hi rt j : Nat} {ns : List Nd} {C : List Fr} {e : List TEnt} (hz : Sz mo rm lo hi rt) (hR : RepT ns (plug C (.nd j e []))) (h0 : (plug C (.nd j e [])).idx = 0) (hC : CtxOk lo hi rt 0 C)
    (hb : (C = [] → e.length ≤ rt) ∧ (C ≠ [] → lo ≤ e.length + 1 ∧ e.length ≤ hi)) (hg : ∀ f, C = [f] → f.es = [] → rt ≤ e.length) (hs : GapS rt C) (hl : ns.length ≤ 800) : RemFin mo rm lo hi rt ns ((C.map Fr.i).reverse ++ [j]) (plug C (.nd j e [])).flat := by
  have hmo := hz.emo; have hlo := hz.elo; have hi3 := hz.hi3; have hi8 := hz.hi8; have hlr := hz.lr; have hrh := hz.rh
  have hQl : ((C.map Fr.i).reverse ++ [j]).length - 1 = C.length := by simp
  have hQr : ((C.map Fr.i).reverse ++ [j]).reverse = j :: C.map Fr.i := by simp
  have hF := fill_up hmo hlo hi3 (by omega) hrh hlr ((C.map Fr.i).reverse ++ [j]) C 0 ns (.nd j e []) hR h0 hC rfl hb hg hs hl (by
    rw [List.take_of_length_le (by simp)]
    show _ = (j :: C.map Fr.i).reverse
    simp)
  obtain ⟨T1, d1, t1, t2, t3, t4, t5⟩ := hF.tree
  have e1 : filW mo ns ((BT.nd j e []).idx :: C.map Fr.i) = filW mo ns ((C.map Fr.i).reverse ++ [j]).reverse := by rw [hQr]; rfl
  rw [e1] at t1
  have hlen : (filW mo ns ((C.map Fr.i).reverse ++ [j]).reverse).length = ns.length := by rw [← e1]; exact hF.len
  obtain ⟨T2, d2, u1, u2, u3, u4, u5, u6⟩ := rep_rot hz t1 t2 t3 t4
  have hT := rep_trim u1 u2
  refine ⟨by rw [hQr]; exact hF.ok, rot_ok t1 t2 (by omega), by rw [hQl]; exact hF.okR, by rw [hQl, hQr]; exact hF.same, ⟨T2, d2, hT.1, u2, u3, u4, u5, u6.trans t5⟩, hT.2.1, ?_⟩
  have := hT.2.2
  rw [rotN_len] at this
  omega
structure Removed (co mo rm : Int) (lo hi rt : Nat) (ns : List Nd) (key : List UInt8) (fl : List TEnt) : Prop where
  ok : RemOk mo rm ns (pathN co ns key).1 (pathN co ns key).2.1
  filR : FilROk mo (remQ ns (pathN co ns key).1 (pathN co ns key).2.1) ((remQ ns (pathN co ns key).1 (pathN co ns key).2.1).length - 1) (rem2 ns (pathN co ns key).1 (pathN co ns key).2.1)
  same : remRN mo rm ns (pathN co ns key).1 (pathN co ns key).2.1 = remN mo rm ns (pathN co ns key).1 (pathN co ns key).2.1
  filS : filRW mo (remQ ns (pathN co ns key).1 (pathN co ns key).2.1) ((remQ ns (pathN co ns key).1 (pathN co ns key).2.1).length - 1) (rem2 ns (pathN co ns key).1 (pathN co ns key).2.1) = filW mo (rem2 ns (pathN co ns key).1 (pathN co ns key).2.1) (remQ ns (pathN co ns key).1 (pathN co ns key).2.1).reverse
  tree : ∃ T d, RepT (remN mo rm ns (pathN co ns key).1 (pathN co ns key).2.1) T ∧ VT co lo hi rt d T ∧ T.flat = others fl (plc co fl key)
  len : (remN mo rm ns (pathN co ns key).1 (pathN co ns key).2.1).length ≤ ns.length
  last : LastU (remN mo rm ns (pathN co ns key).1 (pathN co ns key).2.1)
theorem vt_less {co : Int} {lo hi rt d d' : Nat} {T T' : BT} {i : Nat} (hV : VT co lo hi rt d T) (h0 : T'.idx = 0) (hB : Bel lo hi d' T') (hr : T'.es.length ≤ rt) (hg : NoGap rt T') (hf : T'.flat = others T.flat i) : VT co lo hi rt d' T' := by
  refine ⟨h0, hB, hr, hg, ?_, fun x hx => ?_⟩
  · rw [hf]
    exact hV.srt.sublist (others_sub _ _)
  · rw [hf] at hx
    exact hV.ents x ((others_sub _ _).subset hx)
theorem rem_all {co mo rm : Int} {lo hi rt d : Nat} {ns : List Nd} {T : BT} {key : List UInt8} (hz : Sz mo rm lo hi rt) (hR : RepT ns T) (hV : VT co lo hi rt d T) (hl : ns.length ≤ 400) (hf : (pathN co ns key).2.2 = true) : Removed co mo rm lo hi rt ns key T.flat := by
  have hmo := hz.emo; have hlo := hz.elo; have hi3 := hz.hi3; have hi8 := hz.hi8; have hlr := hz.lr; have hrh := hz.rh
  have hsm := hR.sm hV.bel (Nat.le_refl hi) (Nat.le_trans hV.root hrh)
  have hsm9 : Sm 900 ns := hsm.mono (by omega)
  obtain ⟨D, T', d', e1, e2, e3, e4, e5, e6, e7, e8, e9, e10⟩ := vt_desc hR hV key
  rw [e8] at hf
  obtain ⟨i, es, ks⟩ := T'
  have hfnd : fnd co es key = true := hf
  have hpl : (pathN co ns key).2.1 = plc co es key := by rw [e8]; rfl
  have hplt := fnd_lt' hfnd
  have hR1 : RepT ns (plug D (.nd i es ks)) := by rw [e1]; exact hR
  have hat : i < ns.length ∧ nth ns i = ⟨true, es, idxs ks⟩ := RepT.at_ hR1
  have hlast : lastN (pathN co ns key).1 = i := by rw [e7]; exact last_app _ _
  have hPl : (pathN co ns key).1.length = D.length + 1 := by rw [e7]; simp
  have hes : es.length ≤ hi := by
    by_cases hD : D = []
    · exact Nat.le_trans (e4.1 hD) hrh
    · exact (e4.2 hD).2
  have hfl : T.flat = preC D ++ (flatL es ks ++ sufC D) := by rw [← e1, plug_flat e2, BT.flat]
  have hsr := hV.srt
  rw [hfl] at hsr
  have hs1 := List.pairwise_append.1 hsr
  have hs2 := List.pairwise_append.1 hs1.2.1
  have hplT : plc co T.flat key = (preC D).length + plc co (flatL es ks) key := by rw [hfl, plc_app1 (pre_lt e2 e10 hs1.1), plc_app2 (suf_gt e2 e10 hs2.2.1)]
  have hgap0 : NoGap rt (plug D (.nd i es ks)) := by rw [e1]; exact hV.gap
  have hcsl : (nth ns i).cs.length = ks.length := by rw [hat.2]; exact idxs_len ks
  by_cases hk0 : ks = []
  · -- in a leaf
    subst hk0
    have hd0 : d' = 0 := e3.leaf rfl
    subst hd0
    have hcsl : (nth ns i).cs.length = 0 := hcsl
    have hq : remQ ns (pathN co ns key).1 (pathN co ns key).2.1 = (pathN co ns key).1 := by
      unfold remQ
      rw [hlast, if_pos hcsl]
    have hr1 : rem1 ns (pathN co ns key).1 (pathN co ns key).2.1 = ns := by
      unfold rem1
      rw [hlast, if_pos hcsl]
    have hrk : remK ns (pathN co ns key).1 (pathN co ns key).2.1 = plc co es key := by
      unfold remK
      rw [hlast, if_pos hcsl, hpl]
    have hr2 : rem2 ns (pathN co ns key).1 (pathN co ns key).2.1 = esN ns i (others es (plc co es key)) := by
      unfold rem2
      rw [hr1, hq, hlast, hrk, hat.2]
    have hol : (others es (plc co es key)).length = es.length - 1 := oth_len hplt
    have hgc : GapC rt D es.length := gapC_of (T := .nd i es []) e2 hgap0
    have hF := rem_fin hz (rep_es hR1 (others es (plc co es key))) (by rw [plug_idx D (.nd i (others es (plc co es key)) []) (.nd i es []) rfl, e1]; exact hV.idx) e2 ⟨fun h => by rw [hol]; have h9 : es.length ≤ rt := e4.1 h; omega, fun h => by rw [hol]; have h9 : lo ≤ es.length ∧ es.length ≤ hi := e4.2 h; omega⟩ (fun f hf' he => by
      subst hf'
      have h9 : rt < es.length := hgc he
      rw [hol]
      omega) hgc.s (by rw [esN_len]; omega)
    rw [← show (pathN co ns key).1 = (D.map Fr.i).reverse ++ [i] from e7, ← hr2] at hF
    have hnew : (plug D (.nd i (others es (plc co es key)) [])).flat = others T.flat (plc co T.flat key) := by
      rw [plug_flat e2, flat_leaf, hplT, hfl, flatL_nil, others_app hplt]
    rw [hnew] at hF
    refine ⟨⟨by omega, by omega, by omega, by omega, hsm9, by rw [hlast]; exact hat.1, by rw [hlast, hat.2, hpl]; exact hplt, fun h => absurd hcsl (by rw [hlast] at h; intro h9; rw [h9] at h; exact absurd h (by simp)), by rw [hq]; omega, by rw [hq, hlast]; exact hat.1, by rw [hrk, hr1, hq, hlast, hat.2]; exact hplt, by rw [hr1]; exact hsm9, by rw [hq]; exact hF.fil, by rw [hq]; exact hF.rot⟩, by rw [hq]; exact hF.filR, ?_, by rw [hq]; exact hF.same, ?_, ?_, ?_⟩
    · unfold remRN remN
      rw [hq, hF.same]
    · obtain ⟨T2, d2, t1, t2, t3, t4, t5, t6⟩ := hF.tree
      refine ⟨T2, d2, ?_, vt_less hV t2 t3 t4 t5 t6, t6⟩
      unfold remN
      rw [hq]
      exact t1
    · unfold remN
      rw [hq]
      have := hF.len
      rw [hr2, esN_len] at this
      rw [hr2]
      exact this
    · unfold remN
      rw [hq]
      exact hF.last
  · -- in an inner node
    obtain ⟨d9, rfl⟩ : ∃ d9, d' = d9 + 1 := by
      cases d' with
      | zero => exact absurd e3 hk0
      | succ d9 => exact ⟨d9, rfl⟩
    have hkl : ks.length = es.length + 1 := e3.1
    have hpk : plc co es key < ks.length := by omega
    have hcne : ¬ (nth ns i).cs.length = 0 := by rw [hcsl, hkl]; omega
    have hspl := split_at hpk
    generalize hL : ks.take (plc co es key) = l at hspl
    generalize hRr : ks.drop (plc co es key + 1) = r at hspl
    generalize hK : nth ks (plc co es key) = K at hspl
    have hll : l.length = plc co es key := by rw [← hL, List.length_take]; omega
    have hrl : l.length + r.length = es.length := by
      have := congrArg List.length hspl
      simp only [List.length_append, List.length_cons] at this
      omega
    have hbal : ∀ k ∈ ks, Bal lo hi d9 k := e3.2
    have hKB := bal_iff.1 (hbal K (by rw [hspl]; simp))
    have hTf : BT.nd i es ks = Fr.fill ⟨i, es, l, r⟩ K := by rw [hspl]; rfl
    have hctx0 : CtxOk lo hi rt d9 (⟨i, es, l, r⟩ :: D) := ⟨⟨fun k hk => hbal k (by rw [hspl]; simp [hk]), fun k hk => hbal k (by rw [hspl]; simp [hk])⟩, hrl, e4, e2⟩
    have hRK : RepT ns (plug (⟨i, es, l, r⟩ :: D) K) := by
      show RepT ns (plug D (Fr.fill _ K))
      rw [← hTf]
      exact hR1
    have hd9 := bel_deep hV.bel
    have hnl := hR.nlen
    obtain ⟨D2, T2, d2, g1, g2, g3, g4, g5, g6, g7, g8, g9⟩ := rgt_desc ns.length d9 (⟨i, es, l, r⟩ :: D) K hRK hctx0 hKB.1 hKB.2 (by simp) (by omega)
    obtain ⟨j, Te, Tk⟩ := T2
    have hTk : Tk = [] := g5
    subst hTk
    have hd20 : d2 = 0 := g3.leaf rfl
    subst hd20
    have hTl : lo ≤ Te.length ∧ Te.length ≤ hi := g4
    obtain ⟨Tb, x, hTe⟩ : ∃ Tb x, Te = Tb ++ [x] := by
      rcases List.eq_nil_or_concat Te with h | ⟨Tb, x, h⟩
      · rw [h] at hTl
        simp only [List.length_nil] at hTl
        omega
      · exact ⟨Tb, x, by rw [h, List.concat_eq_append]⟩
    have hTel : Te.length = Tb.length + 1 := by rw [hTe]; simp
    have hRT2 : RepT ns (plug (D2 ++ ⟨i, es, l, r⟩ :: D) (.nd j Te [])) := by
      rw [plug_app, g1]
      exact hRK
    have hjat : j < ns.length ∧ nth ns j = ⟨true, Te, []⟩ := RepT.at_ hRT2
    have hij : i ≠ j := fun e => by
      have h1 := hRT2.plug.nd
      rw [List.map_append] at h1
      refine (List.nodup_append.1 h1).2.2 i ?_ j (by rw [BT.nodes]; simp) e
      have hin : ∀ (A : List Fr) (h : Nat), i ∈ (ctxNodes (A ++ ⟨i, es, l, r⟩ :: D) h).map Prod.fst := by
        intro A
        induction A with
        | nil => intro h; rw [List.nil_append, ctxNodes, Fr.nodes]; exact List.mem_cons_self ..
        | cons a A ih =>
          intro h
          rw [List.cons_append, ctxNodes, List.map_append]
          exact List.mem_append_right _ (ih a.i)
      exact hin D2 _
    have hgetK : (idxs ks).getD (plc co es key) 0 = (K.idx : Int) := by rw [idxs_getD hpk, hK]
    have hcs : (nth ns i).cs = idxs ks := by rw [hat.2]
    have hkd : kdN ns i (plc co es key) = K.idx := by
      unfold kdN
      rw [hcs, hgetK]
      rfl
    have hq : remQ ns (pathN co ns key).1 (pathN co ns key).2.1 = ((D2 ++ ⟨i, es, l, r⟩ :: D).map Fr.i).reverse ++ [j] := by
      unfold remQ
      rw [hlast, if_neg hcne, hpl, hkd, g6, e7]
      simp [BT.idx]
    have hlq : lastN (remQ ns (pathN co ns key).1 (pathN co ns key).2.1) = j := by rw [hq]; exact last_app _ _
    have hes1 : Te.length - 1 = Tb.length := by omega
    have hnx : nth Te (Te.length - 1) = x := by rw [hes1, hTe]; exact nth_mid' Tb x []
    have hr1 : rem1 ns (pathN co ns key).1 (pathN co ns key).2.1 = esN ns i (es.set (plc co es key) x) := by
      unfold rem1
      rw [hlast, if_neg hcne, hlq, hjat.2, hat.2, hpl]
      simp only []
      rw [hnx]
    have hj1 : nth (esN ns i (es.set (plc co es key) x)) j = ⟨true, Te, []⟩ := by rw [nth_esN hjat.1, if_neg hij]; exact hjat.2
    have hrk : remK ns (pathN co ns key).1 (pathN co ns key).2.1 = Te.length - 1 := by
      unfold remK
      rw [hlast, if_neg hcne, hlq, hjat.2]
    have hr2 : rem2 ns (pathN co ns key).1 (pathN co ns key).2.1 = esN (esN ns i (es.set (plc co es key) x)) j Tb := by
      unfold rem2
      rw [hr1, hlq, hrk, hj1]
      show esN _ j (others Te (Te.length - 1)) = _
      rw [hTe, others_last]
    -- the frames with the entry put in
    have hctx1 : CtxOk lo hi rt 0 (D2 ++ ⟨i, es.set (plc co es key) x, l, r⟩ :: D) := ctx_swap (f := ⟨i, es, l, r⟩) (f' := ⟨i, es.set (plc co es key) x, l, r⟩) rfl rfl (List.length_set ..) g2
    have hRa : RepT (esN ns i (es.set (plc co es key) x)) (plug D (.nd i (es.set (plc co es key) x) ks)) := rep_es hR1 _
    have hRb : RepT (esN ns i (es.set (plc co es key) x)) (plug (D2 ++ ⟨i, es.set (plc co es key) x, l, r⟩ :: D) (.nd j Te [])) := by
      rw [plug_app, g1]
      show RepT _ (plug D (.nd i (es.set (plc co es key) x) (l ++ K :: r)))
      rw [← hspl]
      exact hRa
    have hng : NoGap rt (plug (D2 ++ ⟨i, es.set (plc co es key) x, l, r⟩ :: D) (.nd j Te [])) := by
      rw [plug_app, g1]
      show NoGap rt (plug D (.nd i (es.set (plc co es key) x) (l ++ K :: r)))
      rw [← hspl]
      refine nogap_plug e2 (T := .nd i es ks) (by show es.length = (es.set _ _).length; rw [List.length_set]) (fun _ e => ?_) hgap0
      have e' : es.set (plc co es key) x = [] := e
      have := congrArg List.length e'
      rw [List.length_set] at this
      simp only [List.length_nil] at this
      omega
    have hgc : GapC rt (D2 ++ ⟨i, es.set (plc co es key) x, l, r⟩ :: D) Te.length := gapC_of (T := .nd j Te []) hctx1 hng
    have hidx : (plug (D2 ++ ⟨i, es.set (plc co es key) x, l, r⟩ :: D) (.nd j Tb [])).idx = 0 := by
      rw [plug_app, plug_idx _ (plug D2 (.nd j Tb [])) (plug D2 (.nd j Te [])) (plug_idx D2 (.nd j Tb []) (.nd j Te []) rfl), g1]
      show (plug D (.nd i (es.set (plc co es key) x) (l ++ K :: r))).idx = 0
      rw [plug_idx D (.nd i (es.set (plc co es key) x) (l ++ K :: r)) (.nd i es ks) rfl, e1]
      exact hV.idx
    have hF := rem_fin hz (rep_es hRb Tb) hidx hctx1 ⟨fun h => absurd h (by simp), fun _ => by omega⟩ (fun f hf' he => by
      have h9 := hgc
      rw [hf'] at h9
      have h8 : rt < Te.length := h9 he
      omega) hgc.s (by rw [esN_len, esN_len]; omega)
    have hmapi : (D2 ++ (⟨i, es.set (plc co es key) x, l, r⟩ : Fr) :: D).map Fr.i = (D2 ++ (⟨i, es, l, r⟩ : Fr) :: D).map Fr.i := by simp
    rw [hmapi, ← hq, ← hr2] at hF
    -- the entries
    have hdrop : es.drop l.length = nth es l.length :: es.drop (l.length + 1) := by
      have hlt : l.length < es.length := by omega
      rw [List.drop_eq_getElem_cons hlt, show nth es l.length = es[l.length] from nth_eq (List.getElem?_eq_getElem hlt)]
    have heq0 : cmpK co (nth es l.length).key key = 0 := by
      have h9 := hfnd
      unfold fnd at h9
      simp only [Bool.and_eq_true, decide_eq_true_eq] at h9
      rw [hll]
      exact h9.2
    obtain ⟨G, r', hrG⟩ : ∃ G r', r = G :: r' := by
      cases hr9 : r with
      | nil =>
        rw [hr9] at hrl
        simp only [List.length_nil] at hrl
        omega
      | cons G r' => exact ⟨G, r', rfl⟩
    have hflT : flatL es ks = (flatA es l ++ K.flat) ++ nth es l.length :: (G.flat ++ flatZ (es.drop (l.length + 1)) r') := by
      rw [hspl, flatL_mid l es K r hrl, hdrop, hrG, flatZ]
      simp only [List.append_assoc]
    have hs3 : Srt co (flatL es ks) := hs2.1
    rw [hflT] at hs3
    have hs4 := List.pairwise_append.1 hs3
    have hs5 := List.pairwise_append.1 hs4.1
    have hple : plc co (flatL es ks) key = (flatA es l ++ K.flat).length := by
      have hlt : ∀ y ∈ flatA es l ++ K.flat, cmpK co y.key key < 0 := fun y hy => by
        have h9 := hs4.2.2 y hy (nth es l.length) (List.mem_cons_self ..)
        have e2 := cmpK_eq.1 heq0
        rw [cmpK_img, ← e2, ← cmpK_img]
        exact h9
      rw [hflT, plc_app1 hlt, plc, if_neg (by rw [heq0]; decide)]
      rfl
    have hKf : K.flat = preC D2 ++ Te := by
      rw [← g1, plug_flat (ctx_pre g2 (by simp)), flat_leaf, g8, List.append_nil]
    have hset : (es.set (plc co es key) x).drop l.length = x :: es.drop (l.length + 1) := by
      rw [← hll]
      have hlt : l.length < (es.set l.length x).length := by rw [List.length_set]; omega
      rw [List.drop_eq_getElem_cons hlt, List.getElem_set_self, List.drop_set_of_lt (by omega)]
    have hsetA : flatA (es.set (plc co es key) x) l = flatA es l := by
      rw [← flatA_take (es := es.set _ _) (l := l) (by rw [List.length_set]; omega), ← flatA_take (es := es) (l := l) (by omega), List.take_set_of_le (by omega)]
    have hnew : (plug (D2 ++ ⟨i, es.set (plc co es key) x, l, r⟩ :: D) (.nd j Tb [])).flat = others T.flat (plc co T.flat key) := by
      have h1 : others T.flat (plc co T.flat key) = preC D ++ (((flatA es l ++ K.flat) ++ (G.flat ++ flatZ (es.drop (l.length + 1)) r')) ++ sufC D) := by
        rw [hplT, hfl, others_app (by rw [hple, hflT]; simp only [List.length_append, List.length_cons]; omega), hple, hflT, others_mid]
      rw [h1, plug_flat hctx1, flat_leaf, preC_app, sufC_app, g8, List.nil_append, preC, sufC, hKf, hTe]
      show preC D ++ flatA (es.set (plc co es key) x) l ++ preC D2 ++ (Tb ++ (flatZ ((es.set (plc co es key) x).drop l.length) r ++ sufC D)) = _
      rw [hset, hsetA, hrG, flatZ]
      simp only [List.append_assoc, List.cons_append, List.nil_append]
    rw [hnew] at hF
    have hQl : (remQ ns (pathN co ns key).1 (pathN co ns key).2.1).length = D2.length + D.length + 2 := by rw [hq]; simp; omega
    refine ⟨⟨by omega, by omega, by omega, by omega, hsm9, by rw [hlast]; exact hat.1, by rw [hlast, hat.2, hpl]; exact hplt, fun _ => ?_, by omega, by rw [hlq]; exact hjat.1, by rw [hrk, hr1, hlq, hj1]; show Te.length - 1 < Te.length; omega, by rw [hr1]; exact hsm9.es i (by rw [List.length_set]; omega), hF.fil, hF.rot⟩, hF.filR, ?_, hF.same, ?_, ?_, ?_⟩
    · rw [hlast, hpl, hcs, idxs_len, hgetK, hkd]
      have hlq2 : lastN (remQ ns (pathN co ns key).1 (plc co es key)) = j := by rw [← hpl]; exact hlq
      rw [hlq2, hjat.2]
      exact ⟨hpk, by omega, g7, hij, by show 0 < Te.length; omega, hjat.1⟩
    · unfold remRN remN
      rw [hF.same]
    · obtain ⟨T3, d3, t1, t2, t3, t4, t5, t6⟩ := hF.tree
      exact ⟨T3, d3, t1, vt_less hV t2 t3 t4 t5 t6, t6⟩
    · have := hF.len
      rw [hr2, esN_len, esN_len] at this
      unfold remN
      rw [hr2]
      exact this
    · exact hF.last
def btN (ns : List Nd) : Nat → Nat → BT
  | 0, i => .nd i [] []
  | f + 1, i => .nd i (nth ns i).es ((nth ns i).cs.map fun c => btN ns f c.toNat)
theorem nodesL_map {α : Type} (g : α → BT) : ∀ (cs : List α), nodesL (cs.map g) = cs.flatMap fun c => (g c).nodes
  | [] => rfl
  | c :: cs => by rw [List.map_cons, nodesL, nodesL_map g cs, List.flatMap_cons]
theorem flat_congr {α β : Type} {f g : α → List β} : ∀ {l : List α}, (∀ x ∈ l, f x = g x) → l.flatMap f = l.flatMap g
  | [], _ => rfl
  | a :: l, h => by rw [List.flatMap_cons, List.flatMap_cons, h a (List.mem_cons_self ..), flat_congr fun x hx => h x (List.mem_cons_of_mem _ hx)]
theorem range_flat {α : Type} (F : Int → List α) : ∀ (cs : List Int), ((List.range cs.length).flatMap fun k => F (cs.getD k 0)) = cs.flatMap F
  | [] => rfl
  | c :: cs => by
    rw [List.length_cons, List.range_succ_eq_map, List.flatMap_cons, List.flatMap_map, List.flatMap_cons, ← range_flat F cs]
    rfl
section
variable {co : Int} {ns : List Nd}
theorem way_c (hT : TOk co ns) {i : Nat} {P : List Nat} {c : Int} (hw : Gx.Way ns (i :: P)) (hi : i < ns.length) (hc : c ∈ (nth ns i).cs) : Gx.Way ns (c.toNat :: i :: P) := by
  refine ⟨⟨?_, hi⟩, hw⟩
  rw [Int.toNat_of_nonneg (by have := (hT.kid i hi c hc).1.1; omega)]
  exact hc
theorem way_hd (hT : TOk co ns) (h0 : 0 < ns.length) {i : Nat} {P : List Nat} (hw : Gx.Way ns (i :: P)) : i < ns.length := way_lt hT h0 hw i (List.mem_cons_self ..)
theorem vis_bt (hT : TOk co ns) (h0 : 0 < ns.length) : ∀ (f : Nat) (v : Vis) (P : List Nat), Gx.Way ns (v.i :: P) → P.length + f = ns.length → (vis ns f v).map Vis.i = (btN ns f v.i).nodes.map Prod.fst
  | 0, v, P, hw, hf => by
    have := way_len hT h0 hw
    simp only [List.length_cons] at this
    omega
  | f + 1, v, P, hw, hf => by
    have hi := way_hd hT h0 hw
    rw [vis, btN, BT.nodes, nodesL_map, List.map_cons, List.map_cons, List.map_flatMap, List.map_flatMap]
    congr 1
    rw [← range_flat]
    refine flat_congr fun k hk => ?_
    have hkl := List.mem_range.1 hk
    have hc : (nth ns v.i).cs.getD k 0 ∈ (nth ns v.i).cs := by
      rw [List.getD_eq_getElem?_getD, List.getElem?_eq_getElem hkl]
      exact List.getElem_mem hkl
    exact vis_bt hT h0 f ⟨((nth ns v.i).cs.getD k 0).toNat, v.d + 1, loK (nth ns v.i).es k v.lo, hiK (nth ns v.i).es k v.hi⟩ (v.i :: P) (way_c hT hw hi hc) (by simp only [List.length_cons]; omega)
end
def InB (co : Int) (lo hi : Option (List UInt8)) (x : TEnt) : Prop := (∀ b, lo = some b → cmpK co b x.key < 0) ∧ (∀ b, hi = some b → cmpK co x.key b < 0)
theorem out_iff' {t : Tre} {v : Vis} {x : TEnt} : outB t v x = true ↔ (∃ b, v.lo = some b ∧ 0 ≤ cmpK t.co b x.key) ∨ (∃ b, v.hi = some b ∧ 0 ≤ cmpK t.co x.key b) := by
  unfold outB
  cases v.lo <;> cases v.hi <;> simp
def AllU (ns : List Nd) : Prop := ∀ i, i < ns.length → (nth ns i).us = true
section
variable {ns : List Nd}
theorem AllU.es (h : AllU ns) (i : Nat) (es : List TEnt) : AllU (esN ns i es) := fun k hk => by
  rw [us_es]
  exact h k (by rwa [esN_len] at hk)
theorem AllU.cs (h : AllU ns) (i : Nat) (cs : List Int) : AllU (csN ns i cs) := fun k hk => by
  rw [us_cs]
  exact h k (by rwa [csN_len] at hk)
theorem AllU.fre (h : AllU ns) : AllU (freN ns).2 := by
  unfold freN
  split
  · intro k hk
    unfold usN at hk ⊢
    simp only [List.length_set] at hk
    rw [nth_set_nd]
    split
    · rfl
    · exact h k hk
  · intro k hk
    simp only [List.length_append, List.length_singleton] at hk
    rcases Nat.lt_or_ge k ns.length with h1 | h1
    · rw [nth_eq (show (ns ++ [(⟨true, [], []⟩ : Nd)])[k]? = some (nth ns k) from by rw [List.getElem?_append_left h1]; exact nth_get h1)]
      exact h k h1
    · have e : k = ns.length := by omega
      subst e
      rw [nth_eq (show (ns ++ [(⟨true, [], []⟩ : Nd)])[ns.length]? = some ⟨true, [], []⟩ from by simp)]
theorem AllU.spl (h : AllU ns) (mo : Int) (i : Nat) : AllU (splN mo ns i) := by
  unfold splN addP
  refine AllU.cs (AllU.es ?_ _ _) _ _
  unfold splA
  split
  · exact (h.fre.es _ _).es _ _
  · exact (((h.fre.es _ _).es _ _).cs _ _).cs _ _
theorem AllU.low (h : AllU ns) : AllU (lowN ns).2 := by
  unfold lowN
  exact (((h.fre.es _ _).cs _ _).es _ _).cs _ _
theorem AllU.grw (h : AllU ns) (mo : Int) (P : List Nat) : AllU (grwW mo ns P) := by
  unfold grwW
  induction P generalizing ns with
  | nil => exact h
  | cons i P ih =>
    rw [List.foldl_cons]
    refine ih ?_
    unfold grw1
    split
    · exact h.spl _ _
    · exact h
theorem AllU.ins (h : AllU ns) (co mo rm : Int) (x : TEnt) : AllU (insT co mo rm ns x) := by
  unfold insT
  split
  · exact h
  · unfold grwN
    have h1 := (h.es (leafN co ns x.key) (insAt (nth ns (leafN co ns x.key)).es (pathN co ns x.key).2.1 x)).grw mo (pathN co ns x.key).1.reverse
    unfold grwR
    split
    · split
      · exact h1.low.spl _ _
      · exact h1.low
    · exact h1
end
theorem nodup_sub {α : Type} [DecidableEq α] : ∀ {l m : List α}, l.Nodup → (∀ x ∈ l, x ∈ m) → l.length ≤ m.length
  | [], _, _, _ => Nat.zero_le _
  | a :: l, m, hd, hs => by
    have h1 := List.nodup_cons.1 hd
    have ha := hs a (List.mem_cons_self ..)
    have h2 := nodup_sub (l := l) (m := m.erase a) h1.2 fun x hx => (List.mem_erase_of_ne (fun e => h1.1 (by rw [← e]; exact hx))).2 (hs x (List.mem_cons_of_mem _ hx))
    rw [List.length_erase_of_mem ha] at h2
    have h3 := List.length_pos_of_mem ha
    simp only [List.length_cons]
    omega
theorem AllU.len {ns : List Nd} {T : BT} (h : AllU ns) (hR : RepT ns T) : ns.length ≤ T.nodes.length := by
  have := nodup_sub (l := List.range ns.length) (m := T.nodes.map Prod.fst) List.nodup_range fun x hx => by
    by_cases hm : x ∈ T.nodes.map Prod.fst
    · exact hm
    · have hx := List.mem_range.1 hx
      have h1 := h x hx
      rw [RepN.rest hR x hx hm] at h1
      cases h1
  simpa using this
theorem nodesL_flat : ∀ {es : List TEnt} {ks : List BT}, (∀ k ∈ ks, k.nodes.length ≤ k.flat.length) → (nodesL ks).length + es.length ≤ (flatL es ks).length
  | es, [], _ => by
    rw [flatL_nil, nodesL]
    simp
  | [], k :: ks, h => by
    have h1 := h k (List.mem_cons_self ..)
    have h2 := nodesL_flat (es := []) (ks := ks) fun q hq => h q (List.mem_cons_of_mem _ hq)
    rw [flatL, nodesL]
    simp only [List.length_append, List.length_nil] at h2 ⊢
    omega
  | e :: es, k :: ks, h => by
    have h1 := h k (List.mem_cons_self ..)
    have h2 := nodesL_flat (es := es) (ks := ks) fun q hq => h q (List.mem_cons_of_mem _ hq)
    rw [flatL, nodesL]
    simp only [List.length_append, List.length_cons] at h2 ⊢
    omega
theorem bal_nodes {lo hi : Nat} (h0 : 1 ≤ lo) : ∀ {d : Nat} {T : BT}, Bal lo hi d T → T.nodes.length ≤ T.flat.length
  | 0, .nd i es ks, h => by
    have h1 := nodesL_flat (es := es) (ks := ks) fun k hk => by
      have e : ks = [] := h.1
      rw [e] at hk
      cases hk
    have h2 : lo ≤ es.length := h.2.1
    rw [BT.nodes, BT.flat, List.length_cons]
    omega
  | d + 1, .nd i es ks, h => by
    have h1 := nodesL_flat (es := es) (ks := ks) fun k hk => bal_nodes h0 (h.1.2 k hk)
    have h2 : lo ≤ es.length := h.2.1
    rw [BT.nodes, BT.flat, List.length_cons]
    omega
theorem bel_nodes {lo hi d : Nat} (h0 : 1 ≤ lo) {T : BT} (h : Bel lo hi d T) : T.nodes.length ≤ T.flat.length + 1 := by
  cases T with
  | nd i es ks =>
    have h1 := nodesL_flat (es := es) (ks := ks) fun k hk => by
      cases d with
      | zero =>
        have e : ks = [] := h
        rw [e] at hk
        cases hk
      | succ d => exact bal_nodes h0 (h.2 k hk)
    rw [BT.nodes, BT.flat, List.length_cons]
    omega
mutual
theorem nodes_es : ∀ (T : BT) (p : Nat × Nd), p ∈ T.nodes → p.2.es.Sublist T.flat
  | .nd i es ks, p, h => by
    rw [BT.nodes] at h
    rw [BT.flat]
    rcases List.mem_cons.1 h with rfl | h
    · exact es_sub es ks
    · exact nodesL_es es ks p h
theorem nodesL_es : ∀ (es : List TEnt) (ks : List BT) (p : Nat × Nd), p ∈ nodesL ks → p.2.es.Sublist (flatL es ks)
  | es, [], p, h => by
    rw [nodesL] at h
    cases h
  | [], k :: ks, p, h => by
    rw [nodesL] at h
    rw [flatL]
    rcases List.mem_append.1 h with h | h
    · exact (nodes_es k p h).trans (List.sublist_append_left ..)
    · exact (nodesL_es [] ks p h).trans (List.sublist_append_right ..)
  | e :: es, k :: ks, p, h => by
    rw [nodesL] at h
    rw [flatL]
    rcases List.mem_append.1 h with h | h
    · exact (nodes_es k p h).trans (List.sublist_append_left ..)
    · exact ((nodesL_es es ks p h).cons e).trans (List.sublist_append_right ..)
end
theorem nodes_sh {lo hi : Nat} : ∀ {d : Nat} {T : BT}, Bel lo hi d T → ∀ p ∈ T.nodes, p.2.cs.length = 0 ∨ p.2.cs.length = p.2.es.length + 1
  | 0, .nd i es ks, h, p, hp => by
    have e : ks = [] := h
    rw [e, BT.nodes, nodesL] at hp
    rcases List.mem_cons.1 hp with rfl | hp
    · exact .inl rfl
    · cases hp
  | d + 1, .nd i es ks, h, p, hp => by
    rw [BT.nodes] at hp
    rcases List.mem_cons.1 hp with rfl | hp
    · exact .inr (by show (idxs ks).length = _; rw [idxs_len]; exact h.1)
    · obtain ⟨k, hk, hp⟩ := nodesL_in (k := default) hp
      exact nodes_sh (bal_iff.1 (h.2 k hk)).1 p hp
theorem rep_tok {co : Int} {lo hi rt d : Nat} {ns : List Nd} {T : BT} (hR : RepT ns T) (hV : VT co lo hi rt d T) (hu : LastU ns) : TOk co ns := by
  have hat : ∀ p ∈ T.nodes, p.1 < ns.length ∧ nth ns p.1 = p.2 := fun p hp => RepN.at_ (i := p.1) (x := p.2) hR hp
  have hcs : ∀ i, i < ns.length → (i ∈ T.nodes.map Prod.fst ∧ (i, nth ns i) ∈ T.nodes) ∨ nth ns i = ⟨false, [], []⟩ := fun i hi => by
    by_cases hm : i ∈ T.nodes.map Prod.fst
    · refine .inl ⟨hm, ?_⟩
      obtain ⟨p, hp, rfl⟩ := List.mem_map.1 hm
      rw [(hat p hp).2]
      exact hp
    · exact .inr (RepN.rest hR i hi hm)
  have hkp := kids_nodes T
  have hnd : ((((T.idx : Nat) : Int) :: kidsOf T.nodes)).Nodup := hkp.nodup_iff.2 (by
    have h1 := RepN.nd hR
    unfold List.Nodup at h1 ⊢
    rw [List.pairwise_map] at h1 ⊢
    exact h1.imp fun h e => h (by omega))
  refine ⟨fun i hi c hc => ?_, ?_, fun i hi => ?_, fun i hi hus => ?_, fun i hi => ?_, fun i hi x hx => ?_⟩
  · rcases hcs i hi with ⟨_, hm⟩ | he
    · have hck : c ∈ kidsOf T.nodes := List.mem_flatMap.2 ⟨_, hm, hc⟩
      obtain ⟨q, hq, rfl⟩ := List.mem_map.1 (hkp.mem_iff.1 (List.mem_cons_of_mem _ hck))
      have h1 := hat q hq
      have h2 : q.1 ≠ 0 := fun e => by
        have h3 := (List.nodup_cons.1 hnd).1
        rw [hV.idx] at h3
        rw [e] at hck
        exact h3 hck
      refine ⟨by omega, ?_⟩
      rw [Int.toNat_natCast, h1.2]
      exact nodes_us T q hq
    · rw [he] at hc
      cases hc
  · have hk2 := (List.nodup_cons.1 hnd).2
    unfold kidsOf List.Nodup at hk2
    rw [List.pairwise_flatMap] at hk2
    unfold List.Nodup
    rw [List.pairwise_flatMap]
    refine ⟨fun x hx => ?_, List.pairwise_iff_getElem.2 fun i j hi hj hij => ?_⟩
    · obtain ⟨i, hi, rfl⟩ := List.getElem_of_mem hx
      rw [← nth_eq (List.getElem?_eq_getElem hi)]
      rcases hcs i hi with ⟨_, hm⟩ | he
      · exact hk2.1 _ hm
      · rw [he]
        exact List.Pairwise.nil
    · rw [← nth_eq (List.getElem?_eq_getElem hi), ← nth_eq (List.getElem?_eq_getElem hj)]
      intro x hx y hy e
      rcases hcs i hi with ⟨_, hm⟩ | he
      · rcases hcs j hj with ⟨_, hm2⟩ | he
        · obtain ⟨a, ha, ea⟩ := List.getElem_of_mem hm
          obtain ⟨b, hb, eb⟩ := List.getElem_of_mem hm2
          have hp := List.pairwise_iff_getElem.1 hk2.2
          rcases Nat.lt_trichotomy a b with h | h | h
          · exact hp a b ha hb h x (by rw [ea]; exact hx) y (by rw [eb]; exact hy) e
          · subst h
            rw [ea] at eb
            have := congrArg Prod.fst eb
            simp only at this
            omega
          · exact hp b a hb ha h y (by rw [eb]; exact hy) x (by rw [ea]; exact hx) e.symm
        · rw [he] at hy
          cases hy
      · rw [he] at hx
        cases hx
  · rcases hcs i hi with ⟨_, hm⟩ | he
    · exact nodes_sh hV.bel _ hm
    · rw [he]
      exact .inl rfl
  · rcases hcs i hi with ⟨_, hm⟩ | he
    · have := nodes_us T _ hm
      simp only at this
      rw [hus] at this
      cases this
    · refine ⟨⟨?_, ?_⟩, by rw [he], by rw [he]⟩
      · have h1 := (RepT.root hR).2
        rw [hV.idx] at h1
        rcases Nat.eq_zero_or_pos i with e | h
        · rw [e, h1] at hus
          cases hus
        · exact h
      · unfold LastU at hu
        by_cases e : i = ns.length - 1
        · rw [e, hu] at hus
          cases hus
        · omega
  · rcases hcs i hi with ⟨_, hm⟩ | he
    · exact Srt.asc (List.Pairwise.sublist (nodes_es T _ hm) hV.srt)
    · rw [he]
      intro k hk
      exact absurd hk (by simp)
  · rcases hcs i hi with ⟨_, hm⟩ | he
    · exact hV.ents x ((nodes_es T _ hm).subset hx)
    · rw [he] at hx
      cases hx
theorem rep_bd {co mo rm : Int} {lo hi rt d : Nat} {ns : List Nd} {T : BT} (hz : Sz mo rm lo hi rt) (hR : RepT ns T) (hV : VT co lo hi rt d T) (hl : ns.length ≤ 1000) : Bd ns := by
  have h1 := hR.sm hV.bel (Nat.le_refl _) (Nat.le_trans hV.root hz.rh)
  have := hz.hi8
  exact ⟨hl, fun i hi => Nat.le_trans (h1 i).1 (by omega), fun i hi => Nat.le_trans (h1 i).2 (by omega)⟩
section
variable (co mo rm : Int) (l : List TEnt)
def bldN : Nat → List Nd
  | 0 => [⟨true, [], []⟩]
  | k + 1 => insT co mo rm (bldN k) (nth l k)
def bldE (k : Nat) : Int := if entE co (nth l k) = 0 then insE co mo rm (bldN co mo rm l k) (nth l k) else entE co (nth l k)
def bldEs : List Int := (List.range l.length).map (bldE co mo rm l)
end
structure BldOk (co mo rm : Int) (lo hi rt k : Nat) (ns : List Nd) : Prop where
  tree : ∃ T d, RepT ns T ∧ VT co lo hi rt d T ∧ T.flat.length = k
  all : AllU ns
  len : ns.length ≤ k + 1
  pos : 0 < ns.length
section
variable {co mo rm : Int} {lo hi rt k : Nat} {l : List TEnt} {ns : List Nd} {x : TEnt}
theorem BldOk.last (h : BldOk co mo rm lo hi rt k ns) : LastU ns := h.all _ (by have := h.pos; omega)
theorem BldOk.tok (h : BldOk co mo rm lo hi rt k ns) : TOk co ns := by
  obtain ⟨T, d, hR, hV, _⟩ := h.tree
  exact rep_tok hR hV h.last
theorem BldOk.bd (hz : Sz mo rm lo hi rt) (h : BldOk co mo rm lo hi rt k ns) (hk : k ≤ 999) : Bd ns := by
  obtain ⟨T, d, hR, hV, _⟩ := h.tree
  exact rep_bd hz hR hV (by have := h.len; omega)
theorem BldOk.sm (hz : Sz mo rm lo hi rt) (h : BldOk co mo rm lo hi rt k ns) : Sm 900 ns := by
  obtain ⟨T, d, hR, hV, _⟩ := h.tree
  exact (hR.sm hV.bel (Nat.le_refl _) (Nat.le_trans hV.root hz.rh)).mono (by have := hz.hi8; omega)
theorem BldOk.ins (hz : Sz mo rm lo hi rt) (h : BldOk co mo rm lo hi rt k ns) (hk : k ≤ 399) (hx : entE co x = 0) (hnf : ¬ (pathN co ns x.key).2.2 = true) : InsOk co mo rm ns x ∧ InsROk co mo rm ns x ∧ insR co mo rm ns x = insT co mo rm ns x ∧ BldOk co mo rm lo hi rt (k + 1) (insT co mo rm ns x) := by
  obtain ⟨T, d, hR, hV, hfl⟩ := h.tree
  have hI := ins_all hz hR hV (by have := h.len; omega) h.last hx hnf
  obtain ⟨T2, d2, hR2, hV2, hf2⟩ := hI.tree
  have hall := h.all.ins co mo rm x
  have hlo : 1 ≤ lo := by have := hz.elo; have := hz.hi3; omega
  have hfl2 : T2.flat.length = k + 1 := by rw [hf2, ins_len (plc_le _ _ _), hfl]
  refine ⟨hI.ok, hI.okR, hI.same, ⟨T2, d2, hR2, hV2, hfl2⟩, hall, ?_, by have := hI.len.1; have := h.pos; omega⟩
  have h1 := hall.len hR2
  have h2 := bel_nodes hlo hV2.bel
  omega
theorem bld_one (hz : Sz mo rm lo hi rt) : BldOk co mo rm lo hi rt 0 [⟨true, [], []⟩] := by
  refine ⟨⟨.nd 0 [] [], 0, ⟨fun p hp => ?_, ?_, fun i hi hm => ?_⟩, ⟨rfl, rfl, Nat.zero_le _, ?_, ?_, fun x hx => ?_⟩, ?_⟩, fun i hi => ?_, Nat.le_refl _, Nat.succ_pos _⟩
  · rw [BT.nodes, nodesL] at hp
    rcases List.mem_singleton.1 hp with rfl
    rfl
  · rw [BT.nodes, nodesL]
    exact List.pairwise_singleton _ _
  · refine absurd ?_ hm
    rw [BT.nodes, nodesL]
    have h1 : i < 1 := hi
    have e : i = 0 := by omega
    rw [e]
    exact List.mem_cons_self ..
  · intro _ k hk
    cases hk
  · exact List.Pairwise.nil
  · rw [BT.flat, flatL_nil] at hx
    cases hx
  · rw [BT.flat, flatL_nil]
    rfl
  · have h1 : i < 1 := hi
    have e : i = 0 := by omega
    rw [e]
    rfl
end
end Gx
namespace Gx
open Go Go.RowKit
set_option linter.unusedVariables false
set_option linter.unusedSectionVars false
section
variable {P : Program} {o : Oper} {L : Slots} {w0 : World} {M : List Nat} {As : List HA}
theorem h_yieldF {G : Type} {V : G → Value} {F : G → Prop} {Bs : G → List HA} {Cs Ds : List HA} {x : Operand} {args : Array Operand} {vs : List Value} {ts : Array TypeId} {l : Nat} (ho : o.op = .call { callee := .value x, args := args, argTypes := ts }) (hx : ev L x = some (.func (.yield l) #[] #[]))
    (ha : evs L args.toList = some vs) (hp : Picks As Cs Ds) (hy : ∀ w, HS w0 M As w → HS w (fps Cs) Cs w → YieldTo P l vs.toArray w fun e w' => ∃ g, e = .returned (V g) ∧ F g ∧ HS w (fps Cs) (Bs g) w') : OpH P o L (HS w0 M As) V F (fun g => HS w0 M (Bs g ++ Ds)) :=
  h_yield (C := HS w0 M As) ho hx ha fun w hw => by
    obtain ⟨f, tmps, assign, body, hr, hR⟩ := hy w hw (HS.focus (hw.perm hp))
    refine ⟨f, tmps, assign, body, hr, RoundIn.mono hR fun e w' ⟨g, he, hf, hc⟩ => ⟨g, he, hf, ?_⟩⟩
    exact HS.callM (hw.perm hp) (fun b hb => by obtain ⟨A, hA, hb⟩ := List.mem_flatMap.1 hb; exact ⟨A, hA, hb⟩) hc
end
section
variable {X : Ctx} {ops : Array Oper} {k : List KI} {L : Slots} {C : World → Prop}
theorem o_grpI {α : Type} (m dj dp : Nat) (b : Bool) (v : α → Bool) (CJ : α → World → Prop) (I : α → Prop) {l : List Oper} (hb : Slots.get L dj = some (.bool b))
    (h1 : b = true → O X ops (l.take m) (.join (AtI X.n X.df (fun x : α => (dp, .bool (v x)) :: L) CJ I) :: k) L C)
    (h0 : b = false → O X ops (l.take m) (.join (AtI X.n X.df (fun x : α => (dp, .bool (v x)) :: L) CJ I) :: k) L C)
    (h2 : ∀ x, I x → O X ops (l.drop m) k ((dp, .bool (v x)) :: L) (CJ x)) : O X ops l k L C := by
  intro a w ha hw
  have hh : O X ops (l.take m) (.join (AtI X.n X.df (fun x : α => (dp, .bool (v x)) :: L) CJ I) :: k) L C := by
    cases b with
    | true => exact h1 rfl
    | false => exact h0 rfl
  have := wpList_append (Q := post X k) _ (l.drop m) a w (hh a w ha hw) (fun a w ⟨x, hI, hx, hc⟩ => h2 x hI a w hx hc) (fun e a w he h => post_join_past e a w he h)
  rwa [List.take_append_drop] at this
end
def endsL (fid : FuncId) (tmps : Array Value) (ps : Array Tmp) (assign body : Code) (D : Nat) : Option Nat → Obj
  | none => .loop (rdy fid tmps ps assign body D)
  | some id => .loop { rdy fid tmps ps assign body D with state := .done, pending := some (.exit id) }
section
variable {X : Ctx} {k : List KI} {L : Slots} {w0 : World} {M : List Nat} {As As' : List HA}
def rngK (k : List KI) : Option Nat → List KI
  | none => k
  | some id => .c (.exit id) :: k
theorem s_rng_out {id : Nat} {j : Option Nat} (hj : j = none ∨ j = some id) (h : S X k L (HS w0 M As)) : S X (rngK (.blk id :: k) j) L (HS w0 M As) := by
  rcases hj with rfl | rfl
  · exact s_blk h
  · exact s_exit_to (show (bif Nat.beq id id then some k else popTo id k) = some k from by rw [Nat.beq_refl]; rfl) h
theorem s_rangeL {g : Operand} {ps : Array Tmp} {assign body : Code} {gf : FuncId} {fa lb : Array Value} {G : Type} {Bs : G → List HA} {jmp : G → Option Nat} (hrd : X.rd = none) (hdf : X.df = []) (hg : ev L g = some (.func (.func gf) fa lb)) (hfn : isFn X.P gf = true)
    (hit : ∀ (fid : FuncId) (D l : Nat) (a : Act) (w1 : World) (ob : Obj), ob = .loop (rdy fid a.tmps ps assign body D) → FR X.n [] L a → HS w0 M (.obj l ob :: .obj D (.deferred (some [])) :: As) w1 →
      Calls X.P gf (fa ++ #[.func (.yield l) #[] #[]] ++ lb) w1 fun e w2 => (∃ v, e = .returned v) ∧ ∃ x, HS w0 M (.obj l (endsL fid a.tmps ps assign body D (jmp x)) :: .obj D (.deferred (some [])) :: Bs x) w2)
    (next : ∀ D x, S { X with df := [D] } (rngK k (jmp x)) L (HS w0 M (.obj D (.deferred (some [])) :: Bs x))) : S X (.c (.rangeFunc g ps assign body) :: k) L (HS w0 M As) := by
  intro a w ha hw
  have ha0 : FR X.n [] L a := by rw [← hdf]; exact ha
  refine wpIn_rangeFunc (F := X.F) (n := 0) fun fid _ => ?_
  have hro : X.F.round = none := hrd
  rw [hro]
  have hw1 := (hw.allocObj (.deferred (some []))).allocObj (.loop (rdy fid a.tmps ps assign body w.heap.size))
  rw [World.size_alloc] at hw1
  have hen := run_enterLoop_outer (P := X.P) (w := w) fid a.tmps ps assign body
  obtain ⟨W1, hW1⟩ : ∃ W1, (w.alloc (.deferred (some []))).alloc (.loop (rdy fid a.tmps ps assign body w.heap.size)) = W1 := ⟨_, rfl⟩
  rw [hW1] at hw1
  rw [show (Loop.mk .ready none fid a.tmps ps assign body w.heap.size) = rdy fid a.tmps ps assign body w.heap.size from rfl, hW1] at hen
  refine ⟨w.heap.size + 1, [{ target := .collected w.heap.size, args := #[] }], W1, { target := .fn (.func gf) lb, args := fa ++ #[.func (.yield (w.heap.size + 1)) #[] #[]] }, W1, gf,
    fa ++ #[.func (.yield (w.heap.size + 1)) #[] #[]] ++ lb, W1, hen, ?_, fun _ _ => trivial, ?_, fun h => (by cases h), ?_⟩
  · simp only [resolve, ha.evl hg]
    simp [go_sem]
  · simp [invoke, go_sem, callFunc_run hfn]
  · refine CallsIn.mono (X.callsIn (hit fid _ _ a _ _ rfl ha0 hw1)) fun e w2 he => ?_
    obtain ⟨⟨v, rfl⟩, x, hx⟩ := he
    have h3 := next w.heap.size x { a with defers := [{ target := .collected w.heap.size, args := #[] }] ++ a.defers }
    have hfr : FR X.n [w.heap.size] L { a with defers := [{ target := .collected w.heap.size, args := #[] }] ++ a.defers } := ⟨by show _ ++ a.defers = _; rw [ha0.defers]; rfl, ha0.size, ha0.slot⟩
    cases hj : jmp x with
    | none =>
      rw [hj] at hx h3
      refine ⟨none, _, run_endLoop (hx.obj_get .here) (by simp [rdy]), ?_⟩
      have h4 := h3 _ hfr (hx.putObj .here (.loop { rdy fid a.tmps ps assign body w.heap.size with state := .exhausted })).tail
      rw [post_df] at h4
      exact h4
    | some id =>
      rw [hj] at hx h3
      refine ⟨some (.exit id), _, run_endLoop (hx.obj_get .here) (by simp), ?_⟩
      have h4 := h3 _ hfr (hx.putObj .here (.loop { rdy fid a.tmps ps assign body w.heap.size with state := .exhausted, pending := some (.exit id) })).tail
      rw [post_df] at h4
      exact h4
end
theorem HS.callA {w0 w1 w2 : World} {M : List Nat} {A : HA} {Ds Bs : List HA} (h : HS w0 M (A :: Ds) w1) (hc : HS w1 (fps [A]) Bs w2) : HS w0 M (Bs ++ Ds) w2 :=
  HS.callM (Cs := [A]) (As := Ds) h (fun b hb => by obtain ⟨A, hA, hb⟩ := List.mem_flatMap.1 hb; exact ⟨A, hA, hb⟩) hc
theorem y_roundA {α : Type} {P : Program} {fn : Func} {n l D : Nat} {fid : FuncId} {tmps : Array Value} {ps : Array Tmp} {assign body : Code} {args : Array Value} {L0 : Slots} {L1 : α → Slots} {w0 W : World} {M : List Nat} {As : List HA} {As1 : α → List HA} {Rr : Ending → World → Prop}
    (hC : HS w0 M (.obj l (.loop (rdy fid tmps ps assign body D)) :: As) W) (hps : args.size = ps.size) (hf : FR n [] L0 { tmps := (ps.zip args).foldl (fun t (p, v) => t.setIfInBounds p v) tmps, defers := [] })
    (h1 : S { P := P, fn := fn, n := n, R := fun _ _ => False, rd := some l } [.c assign, .join (At n [] L1 (fun x => HS w0 M (.obj l (.loop (rdy fid tmps ps assign body D)) :: As1 x)))] L0 (HS w0 M (.obj l (.loop (rdy fid tmps ps assign body D)) :: As)))
    (h2 : ∀ x, S { P := P, fn := fn, n := n, R := Rr, rd := some l } [.c body] (L1 x) (HS w0 M (.obj l (.loop { rdy fid tmps ps assign body D with state := .busy }) :: As1 x))) : YieldTo P l args W Rr := by
  refine ⟨fid, _, assign, body, run_yield (hC.obj_get .here) hps, roundIn_of_wpIn trivial ?_⟩
  refine wpIn_mono (h1 _ W hf hC) fun e a w he => ?_
  cases e with
  | normal =>
    obtain ⟨x, hfr, hc⟩ := he
    exact ⟨_, run_beginRound (hc.obj_get .here) rfl, h2 x _ _ hfr (hc.putObj .here _)⟩
  | ret => obtain ⟨v, w', _, hx⟩ := he; exact hx
  | exit id => obtain ⟨v, w', _, hx⟩ := he; exact hx
  | goto t => obtain ⟨v, w', _, hx⟩ := he; exact hx
  | panic ch => exact he
  | outgrown => exact he
def doneO (id : Nat) : Obj → Obj
  | .loop r => .loop { r with state := .done, pending := some (.exit id) }
  | o => o
inductive RunY {S α : Type} (st : S → α → S → Prop) (co : S → Bool) : S → List α → S → Bool → Prop
  | nil (s : S) : RunY st co s [] s true
  | go {s s' s'' : S} {x : α} {l : List α} {b : Bool} (h : st s x s') (hc : co s' = true) (hr : RunY st co s' l s'' b) : RunY st co s (x :: l) s'' b
  | stop {s s' : S} {x : α} {l : List α} (h : st s x s') (hc : co s' = false) : RunY st co s (x :: l) s' false
section
variable {S α : Type} {st : S → α → S → Prop} {co : S → Bool} {s s1 s2 : S} {A B : List α} {b : Bool}
theorem RunY.app (h : RunY st co s A s1 true) (h2 : RunY st co s1 B s2 b) : RunY st co s (A ++ B) s2 b := by
  generalize hb : true = c at h
  induction h with
  | nil s => exact h2
  | go h hc _ ih => exact .go h hc (ih h2 hb)
  | stop h hc => cases hb
theorem RunY.off (h : RunY st co s A s1 false) (B : List α) : RunY st co s (A ++ B) s1 false := by
  generalize hb : false = c at h
  induction h with
  | nil s => cases hb
  | go h hc _ ih => exact .go h hc (ih hb)
  | stop h hc => exact .stop h hc
theorem RunY.one {x : α} (h : st s x s1) : RunY st co s [x] s1 (co s1) := by
  cases hc : co s1 with
  | true => exact .go h hc (.nil s1)
  | false => exact .stop h hc
end
end Gx
namespace Gx
set_option linter.unusedSimpArgs false
set_option linter.unusedVariables false
set_option linter.unusedSectionVars false
open Go Go.RowKit
section
variable {es : List TEnt} {ks : List BT} {k : Nat}
def preK (es : List TEnt) (ks : List BT) : Nat → List TEnt
  | 0 => []
  | k + 1 => (preK es ks k ++ if 0 < ks.length then (nth ks k).flat else []) ++ if k < es.length then [nth es k] else []
def midK (es : List TEnt) (ks : List BT) (k : Nat) : List TEnt := preK es ks k ++ if 0 < ks.length then (nth ks k).flat else []
theorem preK_succ : preK es ks (k + 1) = midK es ks k ++ if k < es.length then [nth es k] else [] := rfl
theorem preK_one (h : k < es.length) : preK es ks (k + 1) = midK es ks k ++ [nth es k] := by rw [preK_succ, if_pos h]
theorem preK_no (h : ¬ k < es.length) : preK es ks (k + 1) = midK es ks k := by rw [preK_succ, if_neg h, List.append_nil]
theorem midK_one (h : 0 < ks.length) : midK es ks k = preK es ks k ++ (nth ks k).flat := by rw [midK, if_pos h]
theorem midK_no (h : ¬ 0 < ks.length) : midK es ks k = preK es ks k := by rw [midK, if_neg h, List.append_nil]
theorem drop_nth {α : Type} [Inhabited α] {l : List α} {i : Nat} (h : i < l.length) : l.drop i = nth l i :: l.drop (i + 1) := by
  rw [List.drop_eq_getElem_cons h, show nth l i = l[i] from nth_eq (List.getElem?_eq_getElem h)]
theorem preK_leaf : ∀ {k : Nat}, k ≤ es.length → preK es [] k = es.take k
  | 0, _ => by rw [preK, List.take_zero]
  | k + 1, h => by
    rw [preK_one (by omega), midK_no (by simp), preK_leaf (by omega), List.take_add_one, nth_get (by omega)]
    rfl
theorem preK_rest (h : ks.length = es.length + 1) : ∀ {k : Nat}, k ≤ es.length → preK es ks k ++ flatL (es.drop k) (ks.drop k) = flatL es ks
  | 0, _ => by rw [preK, List.drop_zero, List.drop_zero, List.nil_append]
  | k + 1, hk => by
    have h1 := preK_rest (k := k) h (by omega)
    rw [drop_nth (l := es) (i := k) (by omega), drop_nth (l := ks) (i := k) (by omega), flatL] at h1
    rw [preK_one (by omega), midK_one (by omega), ← h1]
    simp
theorem preK_all (h : ks = [] ∨ ks.length = es.length + 1) : preK es ks (es.length + 1) = flatL es ks := by
  rcases h with h | h
  · subst h
    rw [preK_no (by omega), midK_no (by simp), preK_leaf (Nat.le_refl _), List.take_length, flatL_nil]
  · have h1 := preK_rest (k := es.length) h (Nat.le_refl _)
    rw [drop_nth (l := ks) (i := es.length) (by omega), List.drop_length, flatL, List.drop_of_length_le (by omega), flatL] at h1
    rw [preK_no (by omega), midK_one (by omega), ← h1, List.append_nil]
theorem preK_mid : (preK es ks k).length ≤ (midK es ks k).length := by
  unfold midK
  rw [List.length_append]
  omega
theorem midK_pre : (midK es ks k).length ≤ (preK es ks (k + 1)).length := by
  rw [preK_succ, List.length_append]
  omega
theorem preK_le {m : Nat} (h : k ≤ m) : (preK es ks k).length ≤ (preK es ks m).length := by
  obtain ⟨d, rfl⟩ := Nat.exists_eq_add_of_le h
  clear h
  induction d with
  | zero => exact Nat.le_refl _
  | succ d ih => exact Nat.le_trans ih (Nat.le_trans preK_mid midK_pre)
theorem preK_len (h : ks = [] ∨ ks.length = es.length + 1) (hk : k ≤ es.length + 1) : (preK es ks k).length ≤ (flatL es ks).length := by
  rw [← preK_all h]
  exact preK_le hk
theorem midK_len (h : ks = [] ∨ ks.length = es.length + 1) (hk : k ≤ es.length) : (midK es ks k).length ≤ (flatL es ks).length := Nat.le_trans midK_pre (preK_len h (by omega))
theorem preK_ex (h : ks = [] ∨ ks.length = es.length + 1) {k : Nat} (hk : k ≤ es.length + 1) : ∃ B, flatL es ks = preK es ks k ++ B := by
  rw [← preK_all h]
  obtain ⟨d, hd⟩ := Nat.exists_eq_add_of_le hk
  rw [hd]
  clear hd hk h
  induction d with
  | zero => exact ⟨[], by rw [List.append_nil]; rfl⟩
  | succ d ih =>
    obtain ⟨B, hB⟩ := ih
    rw [show k + (d + 1) = (k + d) + 1 from rfl, preK_succ, midK, hB, List.append_assoc, List.append_assoc]
    exact ⟨_, rfl⟩
theorem midK_ex (h : ks = [] ∨ ks.length = es.length + 1) {k : Nat} (hk : k ≤ es.length) : ∃ B, flatL es ks = midK es ks k ++ B := by
  obtain ⟨B, hB⟩ := preK_ex h (k := k + 1) (by omega)
  rw [hB, preK_succ, List.append_assoc]
  exact ⟨_, rfl⟩
theorem es_mem (h : ks = [] ∨ ks.length = es.length + 1) {k : Nat} (hk : k < es.length) : nth es k ∈ flatL es ks := (es_sub es ks).subset (mem_nth hk)
theorem kid_mem (h : ks.length = es.length + 1) {k : Nat} (hk : k < ks.length) {x : TEnt} (hx : x ∈ (nth ks k).flat) : x ∈ flatL es ks := by
  obtain ⟨B, hB⟩ := midK_ex (.inr h) (k := k) (by omega)
  rw [hB, midK_one (by omega)]
  exact List.mem_append_left _ (List.mem_append_right _ hx)
def NIn (ns : List Nd) (T : BT) : Prop := ∀ p ∈ T.nodes, p.1 < ns.length ∧ nth ns p.1 = p.2
theorem RepT.nin {ns : List Nd} {T : BT} (h : RepT ns T) : NIn ns T := fun p hp => RepN.at_ (i := p.1) (x := p.2) h hp
theorem NIn.root {ns : List Nd} {i : Nat} (h : NIn ns (.nd i es ks)) : i < ns.length ∧ nth ns i = ⟨true, es, idxs ks⟩ := by
  refine h (i, ⟨true, es, idxs ks⟩) ?_
  rw [BT.nodes]
  exact List.mem_cons_self ..
theorem mem_nodesL {k : BT} {p : Nat × Nd} : ∀ {ks : List BT}, k ∈ ks → p ∈ k.nodes → p ∈ nodesL ks
  | [], h, _ => (nomatch h)
  | x :: ks, h, hp => by
    rw [nodesL]
    rcases List.mem_cons.1 h with rfl | h
    · exact List.mem_append_left _ hp
    · exact List.mem_append_right _ (mem_nodesL h hp)
theorem nth_bt {ks : List BT} {k : Nat} (h : k < ks.length) : nth ks k ∈ ks := mem_nth h
theorem NIn.kid {ns : List Nd} {i : Nat} (h : NIn ns (.nd i es ks)) (hk : k < ks.length) : NIn ns (nth ks k) := fun p hp => h p (by
  rw [BT.nodes]
  exact List.mem_cons_of_mem _ (mem_nodesL (nth_bt hk) hp))
theorem idxs_gd (hk : k < ks.length) : (idxs ks).getD k 0 = ((nth ks k).idx : Int) := by
  unfold idxs
  rw [List.getD_eq_getElem?_getD, List.getElem?_map, nth_get hk]
  rfl
theorem bel_kid {lo hi d i : Nat} (h : Bel lo hi (d + 1) (.nd i es ks)) (hk : k < ks.length) : Bel lo hi d (nth ks k) := (bal_iff.1 (h.2 _ (nth_bt hk))).1
theorem bel_0 {lo hi i : Nat} (h : Bel lo hi 0 (.nd i es ks)) : ks = [] := h
end
theorem kid_len {es : List TEnt} {ks : List BT} {k : Nat} (h : ks.length = es.length + 1) (hk : k < ks.length) : (nth ks k).flat.length ≤ (flatL es ks).length := by
  have h1 := congrArg List.length (midK_one (es := es) (ks := ks) (k := k) (by omega))
  rw [List.length_append] at h1
  have h2 := midK_len (es := es) (ks := ks) (k := k) (.inr h) (by omega)
  omega
def lstN (p : TEnt → Bool) (most : Nat) (l : List TEnt) : List TEnt := (l.filter p).take most
section
variable {p : TEnt → Bool} {l : List TEnt} {k m : Nat}
def outN (p : TEnt → Bool) (l : List TEnt) (k : Nat) : List TEnt := (l.take k).filter p
end
def lstB (co : Int) (key : List UInt8) (x : TEnt) : Bool := decide (key = []) || decide (0 < cmpK co x.key key)
def lstSt (p : TEnt → Bool) (m : Nat) (s : ((Option Addr × Nat) × List TEnt) × Bool) (x : TEnt) (s1 : ((Option Addr × Nat) × List TEnt) × Bool) : Prop :=
  if s.1.2.length = m then s1.1.2 = s.1.2 ∧ s1.2 = false else s1.1.2 = s.1.2 ++ (if p x = true then [x] else []) ∧ s1.2 = true
end Gx
namespace Go.Proofs
open Go Go.RowKit Gx
set_option linter.unusedVariables false
set_option linter.unusedSimpArgs false
attribute [local irreducible] Go.Calls Gx.S Gx.O Gx.D Gx.OpP Gx.OpQ Gx.OpH
set_option maxRecDepth 20000
theorem ki_5 : tki Tryz.prog 5 = some .u8 := by kernel_rfl
theorem ki_3 : tki Tryz.prog 3 = some .i64 := by kernel_rfl
theorem fn_50 : isFn Tryz.prog 50 = true := by kernel_rfl
theorem sgn_slot (a b : Int) : Value.int .i64 (IntKind.i64.wrap ((if decide (b < a) = true then 1 else 0) - (if decide (a < b) = true then 1 else 0))) = Value.int .i64 (sgnI a b) := by
  unfold sgnI
  by_cases h1 : a < b
  · have h2 : ¬ b < a := by omega
    simp only [h1, h2, decide_true, decide_false, Bool.false_eq_true, if_true, if_false]
    rfl
  · by_cases h2 : b < a
    · simp only [h1, h2, decide_true, decide_false, Bool.false_eq_true, if_true, if_false]
      rfl
    · simp only [h1, h2, decide_true, decide_false, Bool.false_eq_true, if_true, if_false]
      rfl
def capI (c : Int) : Int := if 97 ≤ c ∧ c ≤ 122 then c - 32 else c
theorem capI_cap (u : UInt8) : capI (u.toNat : Int) = ((capB u).toNat : Int) := by
  have hu := u.toNat_lt
  unfold capI capB
  by_cases h : 97 ≤ u ∧ u ≤ 122
  · have h2 := h
    rw [UInt8.le_iff_toNat_le, UInt8.le_iff_toNat_le] at h2
    have e97 : (97 : UInt8).toNat = 97 := rfl
    have e122 : (122 : UInt8).toNat = 122 := rfl
    rw [e97, e122] at h2
    rw [if_pos h, if_pos (by omega), UInt8.toNat_sub_of_le _ _ (by rw [UInt8.le_iff_toNat_le]; show 32 ≤ _; omega)]
    show (u.toNat : Int) - 32 = ((u.toNat - 32 : Nat) : Int)
    omega
  · have h2 := h
    rw [UInt8.le_iff_toNat_le, UInt8.le_iff_toNat_le] at h2
    have e97 : (97 : UInt8).toNat = 97 := rfl
    have e122 : (122 : UInt8).toNat = 122 := rfl
    rw [e97, e122] at h2
    rw [if_neg h, if_neg (by omega)]
theorem c71 (w : World) (s : List UInt8) (at' c : Nat) (hm : s.length ≤ 1000000000) (hc : c ≤ 7) (hac : at' + c ≤ s.length) : Calls Tryz.prog 71 #[.string (bs s), .int .i64 (at' : Int), .int .i64 (c : Int)] w fun en w' => en = .returned (.int .i64 (litN s at' c)) ∧ Below w.heap.size w w' := by
 refine enter (args := [_, _, _]) Tryz.func71 Tryz.ntmps71 rfl rfl (HS.refl w []) ?_
 iterate 13 refine aS ?_
 try refine oWr ?_
 iterate 3 refine aS ?_
 refine s_loopI (α := Nat) [7, 8, 11, 12, 13, 14, 15, 16, 17, 18, 19, 20, 21, 22, 23] (fun j => [(8, .int .i64 ((j : Int) - 1)), (7, .int .i64 (litN s (at' + j) (c - j)))]) (fun _ => _) (fun j => j ≤ c) (fun j => j) c (Nat.le_refl _) (by rw [Nat.sub_self]; exact aSx) (fun w h => h) (fun j hj => ?_)
 iterate 6 refine aS ?_
 refine s_cond rfl (fun h1 => ?_) fun h1 => ?_
 ·try simp only [decide_eq_true_eq] at h1
  obtain ⟨i, rfl⟩ : ∃ i, j = i + 1 := ⟨j - 1, by omega⟩
  have hst : litN s (at' + i) (c - i) = at1 s (at' + i) + 256 * litN s (at' + (i + 1)) (c - (i + 1)) := by rw [show c - i = (c - (i + 1)) + 1 by omega, litN]; rfl
  have hb1 := at1_le s (at' + i)
  have hn6 := litN_6 s (at' + (i + 1)) (k := c - (i + 1)) (by omega)
  have hb9 := (s.getD (at' + i) 0).toNat_lt
  iterate 6 refine aS ?_
  try refine oWr ?_
  iterate 4 refine aS ?_
  try refine oWr ?_
  refine o_slot (show _ = Value.int .i64 ((at' + i : Nat) : Int) from by congr 1; omega) ?_
  refine o_p (p_index_str rfl rfl rfl Tryz.underlying9 (at' + i) (by omega) (by omega)) rfl ?_
  refine o_p (p_conv_int rfl rfl ki_5 ki_3) rfl ?_
  try refine oWr ?_
  refine aS ?_
  try refine oWr ?_
  refine o_slot (show _ = Value.int .i64 (litN s (at' + i) (c - i)) from by rw [hst]; congr 1; show _ * 256 + at1 s (at' + i) = _; omega) ?_
  iterate 6 refine aS ?_
  try refine oWr ?_
  iterate 2 refine aS ?_
  exact s_backI i (by omega) (by omega) (by rw [show ((i : Int) - 1) = ((i + 1 : Nat) : Int) - 1 - 1 from by omega]; exact aSx) (fun w h => h)
 try simp only [decide_eq_false_iff_not] at h1
 obtain rfl : j = 0 := by omega
 rw [Nat.add_zero, Nat.sub_zero]
 refine s_exit_to rfl ?_
 iterate 5 refine aS ?_
 exact s_retv (rs := [.tmp 6]) rfl (.tmp rfl (.nil)) (fun w' h' => ⟨by rfl, h'.below⟩)
theorem c50 (w : World) (b : Bool) : Calls Tryz.prog 50 #[.bool b] w fun en w' => en = .returned (.int .i64 (if b then 1 else 0)) ∧ Below w.heap.size w w' := by
 refine enter (args := [_]) Tryz.func50 Tryz.ntmps50 rfl rfl (HS.refl w []) ?_
 iterate 9 refine aS ?_
 refine s_cond rfl (fun h1 => ?_) fun h1 => ?_
 ·skip
  iterate 4 refine aS ?_
  exact s_retv (rs := [.tmp 2]) rfl (.tmp rfl (.nil)) (fun w' h' => ⟨by simp_all [retV], h'.below⟩)
 skip
 iterate 5 refine aS ?_
 exact s_retv (rs := [.tmp 2]) rfl (.tmp rfl (.nil)) (fun w' h' => ⟨by simp_all [retV], h'.below⟩)
theorem c70 (w : World) (n : Int) : Calls Tryz.prog 70 #[.int .i64 n] w fun en w' => en = .returned (.bool (decide (0 ≤ n) && decide (n ≤ 2147483647))) ∧ Below w.heap.size w w' := by
 refine enter (args := [_]) Tryz.func70 Tryz.ntmps70 rfl rfl (HS.refl w []) ?_
 iterate 7 refine aS ?_
 refine o_q (q_call rfl fn_46 rfl (fun w1 h1 => c46 w1 _ _ _)) rfl ?_
 iterate 2 refine aS ?_
 exact s_retv (rs := [.tmp 2]) rfl (.tmp rfl (.nil)) (fun w' h' => ⟨rfl, h'.below⟩)
theorem c79 (w : World) (a b : Int) : Calls Tryz.prog 79 #[.int .i64 a, .int .i64 b] w fun en w' => en = .returned (.int .i64 (sgnI a b)) ∧ Below w.heap.size w w' := by
 refine enter (args := [_, _]) Tryz.func79 Tryz.ntmps79 rfl rfl (HS.refl w []) ?_
 iterate 9 refine aS ?_
 refine o_q (q_call rfl fn_50 rfl (fun w1 h1 => c50 w1 _)) rfl ?_
 iterate 3 refine aS ?_
 refine o_q (q_call rfl fn_50 rfl (fun w1 h1 => c50 w1 _)) rfl ?_
 refine aS ?_
 refine o_slot (show _ = Value.int .i64 (sgnI a b) from sgn_slot a b) ?_
 iterate 2 refine aS ?_
 exact s_retv (rs := [.tmp 4]) rfl (.tmp rfl (.nil)) (fun w' h' => ⟨by rfl, h'.below⟩)
theorem c80 (w : World) (c : Int) (h0 : 0 ≤ c ∧ c ≤ 255) : Calls Tryz.prog 80 #[.int .i64 c] w fun en w' => en = .returned (.int .i64 (capI c)) ∧ Below w.heap.size w w' := by
 refine enter (args := [_]) Tryz.func80 Tryz.ntmps80 rfl rfl (HS.refl w []) ?_
 iterate 8 refine aS ?_
 refine o_q (q_call rfl fn_46 rfl (fun w1 h1 => c46 w1 _ _ _)) rfl ?_
 refine aS ?_
 refine s_cond rfl (fun h1 => ?_) fun h1 => ?_
 ·try simp only [Bool.and_eq_true, decide_eq_true_eq] at h1
  have hz : capI c = c - 97 + 65 := by have hq := h1; unfold capI; rw [if_pos (by first | exact hq | (simp at hq; omega))]; omega
  iterate 4 refine aS ?_
  try refine oWr ?_
  refine aS ?_
  try refine oWr ?_
  iterate 2 refine aS ?_
  exact s_retv (rs := [.tmp 2]) rfl (.tmp rfl (.nil)) (fun w' h' => ⟨by rw [hz]; rfl, h'.below⟩)
 try simp only [Bool.and_eq_false_iff, decide_eq_false_iff_not] at h1
 have hz : capI c = c := by have hq := h1; unfold capI; rw [if_neg (by intro h9; first | exact hq h9 | (simp at hq; omega))]
 iterate 6 refine aS ?_
 exact s_retv (rs := [.tmp 2]) rfl (.tmp rfl (.nil)) (fun w' h' => ⟨by rw [hz]; rfl, h'.below⟩)
theorem sl_150 : tsl Tryz.prog 150 = some (5, 1, 1) := by kernel_rfl
theorem sz_5 : tsz Tryz.prog 5 = some (1, false) := by kernel_rfl
theorem ki_201 : tki Tryz.prog 201 = some .u16 := by kernel_rfl
theorem mixed : Tryz.prog.follows .mixedOrders = true := by kernel_rfl
theorem fn_165 : isFn Tryz.prog 165 = true := by kernel_rfl
theorem ki_186 : tki Tryz.prog 186 = some .u32 := by kernel_rfl
theorem fn_156 : isFn Tryz.prog 156 = true := by kernel_rfl
theorem fn_157 : isFn Tryz.prog 157 = true := by kernel_rfl
theorem cs_155 : isCS Tryz.prog 155 := ⟨_, Tryz.func155, rfl, rfl, by kernel_rfl, by kernel_rfl⟩
theorem fn_145 : isFn Tryz.prog 145 = true := by kernel_rfl
theorem c165 (w : World) (a : Option Addr) (m cap : Nat) (x : List UInt8) (hs : Vl w a (x.map bv)) (hm : x.length = m) (h2 : 2 ≤ m) (hc : m ≤ cap) (hc9 : cap ≤ 9223372036854775807) : Calls Tryz.prog 165 #[.slice a m cap] w fun en w' => en = .returned (.int .u16 (at2 x 0)) ∧ Below w.heap.size w w' := by
 refine enter (args := [_]) Tryz.func165 Tryz.ntmps165 rfl rfl (HS.refl w []) ?_
 iterate 5 refine aS ?_
 refine s_draw [] mixed ?_
 refine dP 0 ?_
 refine d_p 1 rfl (p_indexAddr rfl rfl rfl sl_150 0 rfl (by omega) (hs.some (by rw [List.length_map]; omega))) (by kernel_rfl) rfl rfl ?_
 refine d_q 2 [] rfl (q_load_old rfl rfl sz_5 ((hs.rd (i := 0) (bv_get (l := x) (k := 0) (by omega))))) (by kernel_rfl) (by kernel_rfl) (by kernel_rfl) rfl ?_
 refine d_p 3 rfl (p_conv_int rfl rfl ki_5 ki_201) (by kernel_rfl) rfl rfl ?_
 refine dP 4 ?_
 refine d_p 5 rfl (p_indexAddr rfl rfl rfl sl_150 1 rfl (by omega) (hs.some (by rw [List.length_map]; omega))) (by kernel_rfl) rfl rfl ?_
 refine d_q 6 [] rfl (q_load_old rfl rfl sz_5 ((hs.rd (i := 1) (bv_get (l := x) (k := 1) (by omega))))) (by kernel_rfl) (by kernel_rfl) (by kernel_rfl) rfl ?_
 refine d_p 7 rfl (p_conv_int rfl rfl ki_5 ki_201) (by kernel_rfl) rfl rfl ?_
 refine d_p 8 rfl (p_shl rfl rfl rfl (by decide) 8 rfl) (by kernel_rfl) rfl rfl ?_
 refine dP 9 ?_
 refine dP 10 ?_
 refine dNi ?_
 exact s_retv (rs := [.tmp 2]) rfl (.tmp rfl (.nil)) (fun w' h' => ⟨by rw [← g16_slot]; rfl, h'.below⟩)
theorem c156 (w : World) (a : Option Addr) (m cap : Nat) (x : List UInt8) (hs : Vl w a (x.map bv)) (hm : x.length = m) (h2 : 4 ≤ m) (hc : m ≤ cap) (hc9 : cap ≤ 9223372036854775807) : Calls Tryz.prog 156 #[.slice a m cap] w fun en w' => en = .returned (.int .u32 (at4 x 0)) ∧ Below w.heap.size w w' := by
 have hx2 := at2_le x 0
 have hx3 := at2_le x 2
 refine enter (args := [_]) Tryz.func156 Tryz.ntmps156 rfl rfl (HS.refl w []) ?_
 iterate 5 refine aS ?_
 refine s_draw [] mixed ?_
 refine dP 0 ?_
 refine d_q 1 [] rfl (q_call rfl fn_165 rfl (fun w1 h1 => c165 w1 a m cap x (hs.later h1) hm (by omega) hc hc9)) (by kernel_rfl) (by kernel_rfl) (by kernel_rfl) rfl ?_
 refine d_p 2 rfl (p_conv_int rfl rfl ki_201 ki_186) (by kernel_rfl) rfl rfl ?_
 refine dP 3 ?_
 refine d_p 4 rfl (p_slice _ _ 2 m rfl rfl sl_150 ⟨_, _, rfl, rfl⟩ rfl (by omega) (by omega)) (by kernel_rfl) rfl rfl ?_
 refine d_q 5 [] rfl (q_call rfl fn_165 rfl (fun w1 h1 => c165 w1 (subA a cap 2 1) (m - 2) (cap - 2) (x.drop 2) (by rw [List.map_drop]; exact (hs.later h1).drop (by rw [List.length_map]; omega) (by omega)) (by rw [List.length_drop]; omega) (by omega) (by omega) (by omega))) (by kernel_rfl) (by kernel_rfl) (by kernel_rfl) rfl ?_
 refine d_p 6 rfl (p_conv_int rfl rfl ki_201 ki_186) (by kernel_rfl) rfl rfl ?_
 refine d_p 7 rfl (p_shl rfl rfl rfl (by decide) 16 rfl) (by kernel_rfl) rfl rfl ?_
 refine dP 8 ?_
 refine dP 9 ?_
 refine dNi ?_
 exact s_retv (rs := [.tmp 2]) rfl (.tmp rfl (.nil)) (fun w' h' => ⟨by have h9 := g32_slot (at2 x 0) (at2 (x.drop 2) 0) (at2_le _ _) (at2_le _ _); rw [at2_drop] at h9 ⊢; exact (congrArg Ending.returned h9), h'.below⟩)
theorem c146 (w : World) (s : List UInt8) (p : Nat) (hm : s.length ≤ 1000000) (hp : p + 4 ≤ s.length) : Calls Tryz.prog 146 #[.string (bs s), .int .i64 (p : Int)] w fun en w' => en = .returned (.int .u32 (at4 s p)) ∧ Below w.heap.size w w' := by
 have h4 := at4_le s p
 have hdl : (s.drop p).length = s.length - p := List.length_drop
 refine enter (args := [_, _]) Tryz.func146 Tryz.ntmps146 rfl rfl (HS.refl w []) ?_
 iterate 8 refine aS ?_
 refine o_p (p_slice_str_from p rfl rfl rfl Tryz.underlying9 rfl (by omega)) rfl ?_
 refine o_h (h_bytes rfl rfl Tryz.underlying9 Tryz.underlying150 Tryz.underlying5 rfl (by simp only [maxLen]; omega)) rfl (fun ⟨b1, c2⟩ ⟨h3, k4⟩ => ?_)
 refine o_q (q_call rfl fn_156 rfl (fun w1 h1 => by have h9 := c156 w1 (some ⟨b1, 0, none⟩) (s.drop p).length c2 (s.drop p) (h1.vl_blk aPk) rfl (by omega) (by assumption) (by have hq9 : c2 ≤ maxLen := (by assumption); simp only [maxLen] at hq9; omega); rw [at4_drop, Nat.add_zero] at h9; exact h9)) rfl ?_
 iterate 2 refine aS ?_
 exact s_retv (rs := [.tmp 4]) rfl (.tmp rfl (.nil)) (fun w' h' => ⟨by rfl, h'.below⟩)
theorem c157 (w : World) (x : Int) : Calls Tryz.prog 157 #[.int .u32 x] w fun en w' => en = .returned (.bool false) ∧ Below w.heap.size w w' := by
 refine enter (args := [_]) Tryz.func157 Tryz.ntmps157 rfl rfl (HS.refl w []) ?_
 iterate 11 refine aS ?_
 exact s_retv (rs := [.tmp 2]) rfl (.tmp rfl (.nil)) (fun w' h' => ⟨by simp [retV], h'.below⟩)
theorem c147 (w : World) (x y : Int) : Calls Tryz.prog 147 #[.int .u32 x, .int .u32 y] w fun en w' => en = .returned (.int .i64 (sgnI x y)) ∧ Below w.heap.size w w' := by
 refine enter (args := [_, _]) Tryz.func147 Tryz.ntmps147 rfl rfl (HS.refl w []) ?_
 iterate 7 refine aS ?_
 refine o_q (q_call rfl fn_157 rfl (fun w1 h1 => c157 w1 _)) rfl ?_
 iterate 5 refine aS ?_
 refine o_q (q_call rfl fn_157 rfl (fun w1 h1 => c157 w1 _)) rfl ?_
 iterate 7 refine aS ?_
 refine s_cond rfl (fun h1 => ?_) fun h1 => ?_
 ·skip
  exfalso; simp at h1
 skip
 iterate 6 refine aS ?_
 refine s_cond rfl (fun h2 => ?_) fun h2 => ?_
 ·skip
  exfalso; simp at h2
 skip
 iterate 8 refine aS ?_
 refine s_cond rfl (fun h3 => ?_) fun h3 => ?_
 ·try simp only [decide_eq_true_eq] at h3
  have hz : sgnI x y = -1 := by have hq := h3; unfold sgnI; rw [if_pos hq]
  iterate 4 refine aS ?_
  exact s_retv (rs := [.tmp 4]) rfl (.tmp rfl (.nil)) (fun w' h' => ⟨by rw [hz]; rfl, h'.below⟩)
 try simp only [decide_eq_false_iff_not] at h3
 iterate 8 refine aS ?_
 refine s_cond rfl (fun h4 => ?_) fun h4 => ?_
 ·try simp only [decide_eq_true_eq] at h4
  have hz : sgnI x y = 1 := by have hq := h4; unfold sgnI; rw [if_neg (by omega), if_pos hq]
  iterate 4 refine aS ?_
  exact s_retv (rs := [.tmp 4]) rfl (.tmp rfl (.nil)) (fun w' h' => ⟨by rw [hz]; rfl, h'.below⟩)
 try simp only [decide_eq_false_iff_not] at h4
 have hz : sgnI x y = 0 := by have hq := h4; unfold sgnI; rw [if_neg (by omega), if_neg hq]
 iterate 5 refine aS ?_
 exact s_retv (rs := [.tmp 4]) rfl (.tmp rfl (.nil)) (fun w' h' => ⟨by rw [hz]; rfl, h'.below⟩)
theorem c145 (w : World) (a b : List UInt8) : Calls Tryz.prog 145 #[.string (bs a), .string (bs b)] w fun en w' => en = .returned (.int .i64 (cmpB a b)) ∧ Below w.heap.size w w' := by
 refine enter (args := [_, _]) Tryz.func145 Tryz.ntmps145 rfl rfl (HS.refl w []) ?_
 iterate 8 refine aS ?_
 refine o_q (q_cmpString rfl rfl rfl cs_155) rfl ?_
 iterate 2 refine aS ?_
 exact s_retv (rs := [.tmp 4]) rfl (.tmp rfl (.nil)) (fun w' h' => ⟨by rfl, h'.below⟩)
theorem c110 (w : World) (a b : List UInt8) : Calls Tryz.prog 110 #[.string (bs a), .string (bs b)] w fun en w' => en = .returned (.int .i64 (cmpB a b)) ∧ Below w.heap.size w w' := by
 refine enter (args := [_, _]) Tryz.func110 Tryz.ntmps110 rfl rfl (HS.refl w []) ?_
 iterate 8 refine aS ?_
 refine o_q (q_call rfl fn_145 rfl (fun w1 h1 => c145 w1 _ _)) rfl ?_
 iterate 2 refine aS ?_
 exact s_retv (rs := [.tmp 4]) rfl (.tmp rfl (.nil)) (fun w' h' => ⟨by rfl, h'.below⟩)
theorem fn_146 : isFn Tryz.prog 146 = true := by kernel_rfl
theorem fn_147 : isFn Tryz.prog 147 = true := by kernel_rfl
theorem fn_115 : isFn Tryz.prog 115 = true := by kernel_rfl
def numsOk (s : List UInt8) (q : Nat) : Bool := (List.range q).all fun i => numOk s (4 * i)
theorem numsOk_no {s : List UInt8} {q k : Nat} (hk : k < q) (h : 2147483647 < at4 s (4 * k)) : numsOk s q = false := by
  unfold numsOk
  rw [List.all_eq_false]
  exact ⟨k, List.mem_range.2 hk, by unfold numOk; simp; omega⟩
theorem numsOk_succ {s : List UInt8} {k : Nat} (h : numsOk s k = true) (h2 : ¬ 2147483647 < at4 s (4 * k)) : numsOk s (k + 1) = true := by
  unfold numsOk at h ⊢
  rw [List.range_succ, List.all_append, h]
  unfold numOk
  simp
  omega
def cmpNs (a b : List UInt8) : Nat → Nat → Int
  | 0, _ => 0
  | f + 1, k => if sgnI (at4 a (4 * k)) (at4 b (4 * k)) ≠ 0 then sgnI (at4 a (4 * k)) (at4 b (4 * k)) else cmpNs a b f (k + 1)
theorem c115 (w : World) (s : List UInt8) (q : Nat) (hm : s.length ≤ 1000000) (hq : q ≤ 1000) : Calls Tryz.prog 115 #[.string (bs s), .int .i64 ((4 * q : Nat) : Int)] w fun en w' => en = .returned (.bool (decide (s.length = 4 * q) && numsOk s q)) ∧ Below w.heap.size w w' := by
 refine enter (args := [_, _]) Tryz.func115 Tryz.ntmps115 rfl rfl (HS.refl w []) ?_
 iterate 8 refine aS ?_
 refine o_p (p_len_str rfl rfl Tryz.underlying9) rfl ?_
 iterate 3 refine aS ?_
 refine s_cond rfl (fun h1 => ?_) fun h1 => ?_
 ·try simp only [Bool.not_eq_true', decide_eq_false_iff_not] at h1
  have hne : ¬ s.length = 4 * q := by have hq9 := h1; omega
  iterate 4 refine aS ?_
  exact s_retv (rs := [.tmp 4]) rfl (.tmp rfl (.nil)) (fun w' h' => ⟨by simp [retV, hne], h'.below⟩)
 try simp only [Bool.not_eq_false', decide_eq_true_eq] at h1
 have heq : s.length = 4 * q := by have hq9 := h1; omega
 iterate 7 refine aS ?_
 refine s_loopI (α := Nat) [4, 5, 10, 11, 12, 13, 14, 15, 16, 17, 18] (fun k => [(5, .int .i64 ((4 * k : Nat) : Int))]) (fun _ => _) (fun k => k ≤ q ∧ numsOk s k = true) (fun k => q - k) 0 ⟨Nat.zero_le _, rfl⟩ aSx (fun w h => h) (fun k hx => ?_)
 obtain ⟨hk1, hok⟩ := hx
 iterate 7 refine aS ?_
 refine s_cond rfl (fun h2 => ?_) fun h2 => ?_
 ·try simp only [decide_eq_true_eq] at h2
  have hk : k < q := by omega
  iterate 7 refine aS ?_
  refine o_q (q_call rfl fn_146 rfl (fun w1 h1 => c146 w1 s (4 * k) (by omega) (by omega))) rfl ?_
  iterate 2 refine aS ?_
  refine s_cond rfl (fun h3 => ?_) fun h3 => ?_
  ·try simp only [decide_eq_true_eq] at h3
   have hz := numsOk_no hk h3
   iterate 4 refine aS ?_
   exact s_retv (rs := [.tmp 4]) rfl (.tmp rfl (.nil)) (fun w' h' => ⟨by simp [retV, hz], h'.below⟩)
  try simp only [decide_eq_false_iff_not] at h3
  have hz := numsOk_succ hok h3
  iterate 5 refine aS ?_
  try refine oWr ?_
  iterate 2 refine aS ?_
  exact s_backI (k + 1) (by omega) ⟨by omega, hz⟩ (by rw [show (((4 * k : Nat)) : Int) + 4 = ((4 * (k + 1) : Nat) : Int) from by omega]; exact aSx) (fun w h => h)
 try simp only [decide_eq_false_iff_not] at h2
 obtain rfl : k = q := by omega
 refine s_exit_to rfl ?_
 iterate 4 refine aS ?_
 exact s_retv (rs := [.tmp 4]) rfl (.tmp rfl (.nil)) (fun w' h' => ⟨by simp [retV, heq, hok], h'.below⟩)
theorem c116 (w : World) (a b : List UInt8) (q : Nat) (ha : a.length = 4 * q) (hb : b.length = 4 * q) (hq : q ≤ 1000) : Calls Tryz.prog 116 #[.string (bs a), .string (bs b)] w fun en w' => en = .returned (.int .i64 (cmpNs a b q 0)) ∧ Below w.heap.size w w' := by
 refine enter (args := [_, _]) Tryz.func116 Tryz.ntmps116 rfl rfl (HS.refl w []) ?_
 iterate 10 refine aS ?_
 refine s_loopI (α := Nat) [4, 5, 6, 7, 8, 9, 10, 11, 12, 13, 14, 15, 16, 17, 18, 19, 20, 21, 22] (fun k => [(5, .int .i64 ((4 * k : Nat) : Int))]) (fun _ => _) (fun k => k ≤ q ∧ cmpNs a b q 0 = cmpNs a b (q - k) k) (fun k => q - k) 0 ⟨Nat.zero_le _, rfl⟩ aSx (fun w h => h) (fun k hx => ?_)
 obtain ⟨hk1, hx2⟩ := hx
 iterate 5 refine aS ?_
 refine o_p (p_len_str rfl rfl Tryz.underlying9) rfl ?_
 iterate 2 refine aS ?_
 refine s_cond rfl (fun h1 => ?_) fun h1 => ?_
 ·try simp only [decide_eq_true_eq] at h1
  have hk : k < q := by omega
  have hst : cmpNs a b (q - k) k = if sgnI (at4 a (4 * k)) (at4 b (4 * k)) ≠ 0 then sgnI (at4 a (4 * k)) (at4 b (4 * k)) else cmpNs a b (q - (k + 1)) (k + 1) := by rw [show q - k = (q - (k + 1)) + 1 by omega, cmpNs]
  iterate 7 refine aS ?_
  refine o_q (q_call rfl fn_146 rfl (fun w1 h1 => c146 w1 a (4 * k) (by omega) (by omega))) rfl ?_
  iterate 2 refine aS ?_
  refine o_q (q_call rfl fn_146 rfl (fun w1 h1 => c146 w1 b (4 * k) (by omega) (by omega))) rfl ?_
  refine o_q (q_call rfl fn_147 rfl (fun w1 h1 => c147 w1 _ _)) rfl ?_
  iterate 7 refine aS ?_
  refine s_cond rfl (fun h2 => ?_) fun h2 => ?_
  ·try simp only [Bool.not_eq_true', decide_eq_false_iff_not] at h2
   have hq9 : sgnI (at4 a (4 * k)) (at4 b (4 * k)) ≠ 0 := h2
   rw [hst, if_pos hq9] at hx2
   iterate 5 refine aS ?_
   exact s_retv (rs := [.tmp 4]) rfl (.tmp rfl (.nil)) (fun w' h' => ⟨by rw [hx2]; rfl, h'.below⟩)
  try simp only [Bool.not_eq_false', decide_eq_true_eq] at h2
  have hq9 : ¬ sgnI (at4 a (4 * k)) (at4 b (4 * k)) ≠ 0 := by have hq8 := h2; simpa using hq8
  rw [hst, if_neg hq9] at hx2
  iterate 5 refine aS ?_
  try refine oWr ?_
  iterate 2 refine aS ?_
  exact s_backI (k + 1) (by omega) ⟨by omega, hx2⟩ (by rw [show (((4 * k : Nat)) : Int) + 4 = ((4 * (k + 1) : Nat) : Int) from by omega]; exact aSx) (fun w h => h)
 try simp only [decide_eq_false_iff_not] at h1
 obtain rfl : k = q := by omega
 rw [Nat.sub_self, cmpNs] at hx2
 refine s_exit_to rfl ?_
 iterate 4 refine aS ?_
 exact s_retv (rs := [.tmp 4]) rfl (.tmp rfl (.nil)) (fun w' h' => ⟨by rw [hx2]; rfl, h'.below⟩)
theorem c114 (w : World) (s : List UInt8) (hm : s.length ≤ 1000000) : Calls Tryz.prog 114 #[.string (bs s)] w fun en w' => en = .returned (.bool (keyOk 2 s)) ∧ Below w.heap.size w w' := by
 refine enter (args := [_]) Tryz.func114 Tryz.ntmps114 rfl rfl (HS.refl w []) ?_
 iterate 7 refine aS ?_
 refine o_q (q_call rfl fn_115 rfl (fun w1 h1 => c115 w1 s 1 hm (by decide))) rfl ?_
 iterate 2 refine aS ?_
 exact s_retv (rs := [.tmp 2]) rfl (.tmp rfl (.nil)) (fun w' h' => ⟨by simp [retV, keyOk, numsOk, List.range_succ, List.range_zero], h'.below⟩)
theorem c117 (w : World) (s : List UInt8) (hm : s.length ≤ 1000000) : Calls Tryz.prog 117 #[.string (bs s)] w fun en w' => en = .returned (.bool (keyOk 3 s)) ∧ Below w.heap.size w w' := by
 refine enter (args := [_]) Tryz.func117 Tryz.ntmps117 rfl rfl (HS.refl w []) ?_
 iterate 7 refine aS ?_
 refine o_q (q_call rfl fn_115 rfl (fun w1 h1 => c115 w1 s 2 hm (by decide))) rfl ?_
 iterate 2 refine aS ?_
 exact s_retv (rs := [.tmp 2]) rfl (.tmp rfl (.nil)) (fun w' h' => ⟨by simp [retV, keyOk, numsOk, List.range_succ, List.range_zero], h'.below⟩)
theorem c109 (w : World) (s : List UInt8) : Calls Tryz.prog 109 #[.string (bs s)] w fun en w' => en = .returned (.bool (keyOk 0 s)) ∧ Below w.heap.size w w' := by
 refine enter (args := [_]) Tryz.func109 Tryz.ntmps109 rfl rfl (HS.refl w []) ?_
 iterate 7 refine aS ?_
 refine o_p (p_len_str rfl rfl Tryz.underlying9) rfl ?_
 refine o_q (q_call rfl fn_93 rfl (fun w1 h1 => c93 w1 _ _ _)) rfl ?_
 iterate 2 refine aS ?_
 exact s_retv (rs := [.tmp 2]) rfl (.tmp rfl (.nil)) (fun w' h' => ⟨by simp [retV, keyOk, Bool.decide_and]; first | done | (congr 1 <;> simp <;> omega) | grind, h'.below⟩)
theorem c111 (w : World) (s : List UInt8) : Calls Tryz.prog 111 #[.string (bs s)] w fun en w' => en = .returned (.bool (keyOk 1 s)) ∧ Below w.heap.size w w' := by
 refine enter (args := [_]) Tryz.func111 Tryz.ntmps111 rfl rfl (HS.refl w []) ?_
 iterate 7 refine aS ?_
 refine o_p (p_len_str rfl rfl Tryz.underlying9) rfl ?_
 refine o_q (q_call rfl fn_93 rfl (fun w1 h1 => c93 w1 _ _ _)) rfl ?_
 iterate 2 refine aS ?_
 exact s_retv (rs := [.tmp 2]) rfl (.tmp rfl (.nil)) (fun w' h' => ⟨by simp [retV, keyOk, Bool.decide_and]; first | done | (congr 1 <;> simp <;> omega) | grind, h'.below⟩)
theorem zr_132 : tzero Tryz.prog 132 = some [.nilFunc, .nilFunc, .nilFunc, .nilFunc, .nilFunc, .nilFunc, .nilFunc, .nilFunc] := by kernel_rfl
theorem pl_110 : tplaces Tryz.prog 110 = some [(0, 1), (1, 1)] := by kernel_rfl
theorem zr_110 : tzero Tryz.prog 110 = some [.nilFunc, .nilFunc] := by kernel_rfl
theorem ar_132 : tar Tryz.prog 132 = some (4, 110, 2) := by kernel_rfl
theorem sz_132 : tsz Tryz.prog 132 = some (8, true) := by kernel_rfl
instance : TSz Tryz.prog 132 8 true := ⟨sz_132⟩
theorem fn_77 : isFn Tryz.prog 77 = true := by kernel_rfl
theorem sz_110 : tsz Tryz.prog 110 = some (2, true) := by kernel_rfl
instance : TSz Tryz.prog 110 2 true := ⟨sz_110⟩
theorem fd_110_0 : tfd Tryz.prog 110 0 = some (0, 107) := by kernel_rfl
theorem sz_107 : tsz Tryz.prog 107 = some (1, false) := by kernel_rfl
def keyF (co : Int) : Nat := if co = 0 then 109 else if co = 1 then 111 else if co = 2 then 114 else 117
def cmpF (co : Int) : Nat := if co = 0 then 110 else if co = 1 then 112 else 116
def fv12 (f : Nat) : Value := .func (.func f) #[] #[]
def ordV (co : Int) : Value := .agg #[fv12 (keyF co), fv12 (cmpF co)]
theorem c77 (w : World)  : Calls Tryz.prog 77 #[] w fun en w' => en = .returned (.agg #[fv12 (keyF 0), fv12 (cmpF 0), fv12 (keyF 1), fv12 (cmpF 1), fv12 (keyF 2), fv12 (cmpF 2), fv12 (keyF 3), fv12 (cmpF 3)]) ∧ Below w.heap.size w w' := by
 refine enter (args := []) Tryz.func77 Tryz.ntmps77 rfl rfl (HS.refl w []) ?_
 iterate 2 refine aS ?_
 refine oAl (fun b1 _ => ?_) zr_132
 iterate 3 refine aS ?_
 refine o_p (p_build (cs := [_, _]) rfl rfl pl_110 zr_110 rfl) rfl ?_
 refine o_p (p_build (cs := [_, _]) rfl rfl pl_110 zr_110 rfl) rfl ?_
 refine o_p (p_build (cs := [_, _]) rfl rfl pl_110 zr_110 rfl) rfl ?_
 refine o_p (p_build (cs := [_, _]) rfl rfl pl_110 zr_110 rfl) rfl ?_
 refine o_p (p_build_arr (cs := [_, _, _, _, _, _, _, _]) rfl rfl ar_132 zr_132 rfl) rfl ?_
 refine oSt ?_
 refine aS ?_
 exact s_retv (rs := [.cell 0 132]) rfl (.cell rfl sz_132 aPk rfl (.nil)) (fun w' h' => ⟨by rfl, h'.below⟩)
theorem key_fn (co : Int) : isFn Tryz.prog (keyF co) = true := by
  unfold keyF
  split
  · kernel_rfl
  · split
    · kernel_rfl
    · split <;> kernel_rfl
theorem key_calls (w : World) (j : Nat) (s : List UInt8) (hj : j ≤ 3) (hm : s.length ≤ 1000000) : Calls Tryz.prog (keyF (j : Int)) #[.string (bs s)] w fun en w' => en = .returned (.bool (keyOk (j : Int) s)) ∧ Below w.heap.size w w' := by
  match j, hj with
  | 0, _ => exact c109 w s
  | 1, _ => exact c111 w s
  | 2, _ => exact c114 w s hm
  | 3, _ => exact c117 w s hm
theorem ord_slot (j : Nat) (hj : j ≤ 3) : Value.agg (cut [fv12 (keyF 0), fv12 (cmpF 0), fv12 (keyF 1), fv12 (cmpF 1), fv12 (keyF 2), fv12 (cmpF 2), fv12 (keyF 3), fv12 (cmpF 3)] (j * 2) 2).toArray = ordV (j : Int) := by
  match j, hj with
  | 0, _ => rfl
  | 1, _ => rfl
  | 2, _ => rfl
  | 3, _ => rfl
theorem c76 (w : World) (j : Nat) (s : List UInt8) (hj : j ≤ 3) (hm : s.length ≤ 1000000) : Calls Tryz.prog 76 #[.int .i64 (j : Int), .string (bs s)] w fun en w' => en = .returned (.int .i64 (keyE (j : Int) s)) ∧ Below w.heap.size w w' := by
 refine enter (args := [_, _]) Tryz.func76 Tryz.ntmps76 rfl rfl (HS.refl w []) ?_
 iterate 6 refine aS ?_
 refine o_q (q_call rfl fn_77 rfl (fun w1 h1 => c77 w1)) rfl ?_
 refine aS ?_
 refine o_p (p_indexn rfl rfl rfl ar_132 sz_110 j rfl (by omega)) rfl ?_
 refine o_slot (ord_slot j hj) ?_
 refine o_p (p_field1 rfl rfl fd_110_0 sz_107 rfl) rfl ?_
 refine aS ?_
 refine o_q (q_callv rfl rfl (key_fn _) rfl (fun w1 h1 => key_calls w1 j s hj hm)) rfl ?_
 refine o_q (q_call rfl fn_81 rfl (fun w1 h1 => c81 w1 _ _)) rfl ?_
 iterate 2 refine aS ?_
 exact s_retv (rs := [.tmp 4]) rfl (.tmp rfl (.nil)) (fun w' h' => ⟨by simp only [retV, keyE, cond_eq_ite], h'.below⟩)
theorem fn_113 : isFn Tryz.prog 113 = true := by kernel_rfl
theorem fn_110 : isFn Tryz.prog 110 = true := by kernel_rfl
theorem bset {L : List UInt8} {k : Nat} {x : UInt8} {v : Value} (h : k < L.length) (hv : v = bv x) : setMany (L.map bv) (k * 1) [v] = (L.set k x).map bv := by
  subst hv
  have h9 := flat_set (vals := byV) (sz := 1) (fun _ => rfl) L k 0 [bv x] (L.getD k 0) x (by rw [List.getElem?_eq_getElem h, List.getD_eq_getElem?_getD, List.getElem?_eq_getElem h]; rfl) rfl (by simp)
  rw [Nat.add_zero] at h9
  have e : ∀ M : List UInt8, M.flatMap byV = M.map bv := fun M => map_flat bv M
  rw [e, e] at h9
  exact h9
def mixC (s : List UInt8) (k : Nat) : List UInt8 := (s.map capB).take k ++ s.drop k
theorem mixC_len {s : List UInt8} {k : Nat} (h : k ≤ s.length) : (mixC s k).length = s.length := by simp [mixC]; omega
theorem mixC_get {s : List UInt8} {k : Nat} (h : k < s.length) : (mixC s k).getD k 0 = s.getD k 0 := by
  unfold mixC
  rw [List.getD_eq_getElem?_getD, List.getElem?_append_right (by simp; omega), List.getElem?_drop, List.getD_eq_getElem?_getD]
  congr 2
  simp; omega
theorem mixC_set {s : List UInt8} {k : Nat} (h : k < s.length) : (mixC s k).set k (capB (s.getD k 0)) = mixC s (k + 1) := by
  unfold mixC
  apply List.ext_getElem?
  intro j
  simp only [List.getElem?_set, List.getElem?_append, List.getElem?_take, List.getElem?_drop, List.length_append, List.length_take, List.length_map, List.length_drop, List.getElem?_map, List.getD_eq_getElem?_getD]
  have hk := List.getElem?_eq_getElem h
  grind
theorem mixC_0 (s : List UInt8) : mixC s 0 = s := by simp [mixC]
theorem mixC_end (s : List UInt8) : mixC s s.length = s.map capB := by
  unfold mixC
  rw [List.drop_length, List.append_nil, List.take_of_length_le (by simp)]
theorem mixC_same {s : List UInt8} {k : Nat} (h : k < s.length) (hc : capB (s.getD k 0) = s.getD k 0) : mixC s k = mixC s (k + 1) := by
  rw [← mixC_set h, hc]
  apply List.ext_getElem?
  intro j
  rw [List.getElem?_set]
  split
  · rename_i e
    subst e
    rw [← mixC_get h, List.getD_eq_getElem?_getD]
    rw [if_pos (by rw [mixC_len (by omega)]; exact h), List.getElem?_eq_getElem (by rw [mixC_len (by omega)]; exact h)]
    rfl
  · rfl
theorem cap_slot {x : UInt8} (h : 97 ≤ x.toNat ∧ x.toNat ≤ 122) : Value.int .u8 (IntKind.u8.wrap (IntKind.u8.wrap ((x.toNat : Int) - 97) + 65)) = bv (capB x) := by
  have h2 := capI_cap x
  unfold capI at h2
  rw [if_pos (by omega)] at h2
  rw [show (x.toNat : Int) - 97 = ((x.toNat - 97 : Nat) : Int) by omega, wrap_u8 _ (by omega), show ((x.toNat - 97 : Nat) : Int) + 65 = ((x.toNat - 32 : Nat) : Int) by omega, wrap_u8 _ (by omega)]
  unfold bv
  exact congrArg (Value.int .u8) (by omega)
theorem cap_no {x : UInt8} (h : ¬ (97 ≤ x.toNat ∧ x.toNat ≤ 122)) : capB x = x := by
  have h2 := capI_cap x
  unfold capI at h2
  rw [if_neg (by omega)] at h2
  exact UInt8.toNat_inj.1 (by omega)
theorem c113 (w : World) (s : List UInt8) (hm : s.length ≤ 1000000) : Calls Tryz.prog 113 #[.string (bs s)] w fun en w' => en = .returned (.string (bs (s.map capB))) ∧ Below w.heap.size w w' := by
 refine enter (args := [_]) Tryz.func113 Tryz.ntmps113 rfl rfl (HS.refl w []) ?_
 iterate 7 refine aS ?_
 refine o_h (h_bytes rfl rfl Tryz.underlying9 Tryz.underlying150 Tryz.underlying5 rfl (by simp only [maxLen]; omega)) rfl (fun ⟨b1, c2⟩ ⟨h3, k4⟩ => ?_)
 iterate 10 refine aS ?_
 refine s_loopI (α := Nat) [4, 5, 10, 11, 12, 13, 14, 15, 16, 17, 18, 19, 20, 21, 22, 23, 24, 25, 26, 27] (fun k => [(10, .int .i64 (k : Int))]) (fun k => HS w [] [.blk b1 5 c2 ((mixC s k).map bv)]) (fun k => k ≤ s.length) (fun k => s.length - k) 0 (Nat.zero_le _) aSx (fun w h => by rw [mixC_0]; exact h.ent aEt) (fun k hk1 => ?_)
 iterate 5 refine aS ?_
 refine s_cond rfl (fun h5 => ?_) fun h5 => ?_
 ·try simp only [decide_eq_true_eq] at h5
  have hk : k < s.length := by omega
  have hb9 := (s.getD k 0).toNat_lt
  iterate 6 refine aS ?_
  refine o_p (p_indexAddr rfl rfl rfl sl_150 (k) (by omega) (by omega) rfl) rfl ?_
  refine o_q (q_load_at rfl rfl sz_5 (fun w h => by rw [Nat.zero_add]; exact h.rd_blk (Mc := []) aPk (by rw [Nat.mul_one, bv_get (by rw [mixC_len hk1]; exact hk), mixC_get hk]) (by simp))) rfl ?_
  iterate 8 refine aS ?_
  refine o_and 3 17 20 _ _ rfl
   (by
    intro hg6
    have hs7 := hg6; try simp only [decide_eq_true_eq] at hs7
    refine oOn 17 hg6 ?_
    refine aS ?_
    refine oOn 17 hg6 ?_
    refine aS ?_
    refine o_p (p_pickt rfl rfl hg6 rfl) rfl ?_
    refine aS ?_
    exact oJn 3 20)
   (by
    intro hg8
    have hs9 := hg8; try simp only [decide_eq_false_iff_not] at hs9
    refine oOf 17 hg8 ?_
    refine oOf 17 hg8 ?_
    refine o_p (p_pickf rfl rfl hg8 rfl) rfl ?_
    refine aS ?_
    exact oJn 3 20) ?_
  refine aS ?_
  refine s_cutI (α := Unit) [21, 22, 23, 24, 25, 26] (fun _ => []) (fun _ => HS w [] [.blk b1 5 c2 ((mixC s (k + 1)).map bv)]) (fun _ => True) ?_ ?_
  ·skip
   refine s_cond rfl (fun h10 => ?_) fun h10 => ?_
   ·try simp only [Bool.and_eq_true, decide_eq_true_eq] at h10
    have hcc : 97 ≤ (s.getD k 0).toNat ∧ (s.getD k 0).toNat ≤ 122 := by have hq := h10; omega
    iterate 6 refine aS ?_
    try (refine o_slot (u8add _ _) ?_)
    refine o_slot (cap_slot hcc) ?_
    refine o_p (p_indexAddr rfl rfl rfl sl_150 (k) (by omega) (by omega) rfl) rfl ?_
    refine o_slot (show _ = Value.pointer (some ⟨b1, k * 1, none⟩) from by rw [Nat.zero_add]) ?_
    refine o_h0 (h_store rfl rfl rfl sz_5 rfl aPt (by rw [List.length_map, mixC_len hk1]; omega) rfl) (fun _ _ => ?_)
    refine aS ?_
    exact s_joinI () trivial aSx (fun w h => by have h2 := HS.blk_to (b := b1) h aPk (bset (L := mixC s k) (x := capB (s.getD k 0)) (by rw [mixC_len hk1]; exact hk) rfl); rw [mixC_set hk] at h2; exact h2.ent aEt)
   try simp only [Bool.and_eq_false_iff, decide_eq_false_iff_not] at h10
   have hno : capB (s.getD k 0) = s.getD k 0 := cap_no (by have hq := h10; omega)
   refine aS ?_
   exact s_joinI () trivial aSx (fun w h => by rw [← mixC_same hk hno]; exact h.ent aEt)
  intro _ _
  iterate 3 refine aS ?_
  try refine oWr ?_
  iterate 2 refine aS ?_
  exact s_backI (k + 1) (by omega) (by omega) aSx (fun w h => h.ent aEt)
 try simp only [decide_eq_false_iff_not] at h5
 obtain rfl : k = s.length := by omega
 rw [mixC_end]
 refine s_exit_to rfl ?_
 iterate 3 refine aS ?_
 refine o_q (q_string_blk rfl rfl Tryz.underlying150 Tryz.underlying9 Tryz.underlying5 aPk (by simp [List.length_map]) (isU8_bv _)) rfl ?_
 iterate 2 refine aS ?_
 exact s_retv (rs := [.tmp 2]) rfl (.tmp rfl (.nil)) (fun w' h' => ⟨by simp only [vByte_bv]; rfl, h'.below⟩)
theorem c112 (w : World) (a b : List UInt8) (ha : a.length ≤ 1000000) (hb : b.length ≤ 1000000) : Calls Tryz.prog 112 #[.string (bs a), .string (bs b)] w fun en w' => en = .returned (.int .i64 (cmpB (a.map capB) (b.map capB))) ∧ Below w.heap.size w w' := by
 refine enter (args := [_, _]) Tryz.func112 Tryz.ntmps112 rfl rfl (HS.refl w []) ?_
 iterate 7 refine aS ?_
 refine o_q (q_call rfl fn_113 rfl (fun w1 h1 => c113 w1 a ha)) rfl ?_
 refine aS ?_
 refine o_q (q_call rfl fn_113 rfl (fun w1 h1 => c113 w1 b hb)) rfl ?_
 refine o_q (q_call rfl fn_110 rfl (fun w1 h1 => c110 w1 _ _)) rfl ?_
 iterate 2 refine aS ?_
 exact s_retv (rs := [.tmp 4]) rfl (.tmp rfl (.nil)) (fun w' h' => ⟨by rfl, h'.below⟩)
theorem fn_76 : isFn Tryz.prog 76 = true := by kernel_rfl
theorem fd_110_1 : tfd Tryz.prog 110 1 = some (1, 108) := by kernel_rfl
instance : TFd Tryz.prog 110 1 1 108 := ⟨fd_110_1⟩
theorem sz_108 : tsz Tryz.prog 108 = some (1, false) := by kernel_rfl
instance : TSz Tryz.prog 108 1 false := ⟨sz_108⟩
theorem cmpNs_1 (a b : List UInt8) : cmpNs a b 1 0 = cmpK 2 a b := by
  simp only [cmpNs, cmpK, Nat.mul_zero]
  split
  · rfl
  · rename_i h
    simp only [ne_eq, Decidable.not_not] at h
    rw [h]
    rfl
theorem cmpNs_2 (a b : List UInt8) : cmpNs a b 2 0 = cmpK 3 a b := by
  have e : cmpK 3 a b = if sgnI (at4 a 0) (at4 b 0) ≠ 0 then sgnI (at4 a 0) (at4 b 0) else sgnI (at4 a 4) (at4 b 4) := rfl
  rw [e]
  show (if sgnI (at4 a 0) (at4 b 0) ≠ 0 then sgnI (at4 a 0) (at4 b 0) else if sgnI (at4 a 4) (at4 b 4) ≠ 0 then sgnI (at4 a 4) (at4 b 4) else 0) = _
  by_cases h : sgnI (at4 a 0) (at4 b 0) ≠ 0
  · rw [if_pos h, if_pos h]
  · rw [if_neg h, if_neg h]
    split
    · rfl
    · rename_i h2
      simp only [ne_eq, Decidable.not_not] at h2
      exact h2.symm
theorem keyOk_2 {s : List UInt8} (h : keyOk 2 s = true) : s.length = 4 := by
  unfold keyOk at h
  simp at h
  exact h.1
theorem keyOk_3 {s : List UInt8} (h : keyOk 3 s = true) : s.length = 8 := by
  unfold keyOk at h
  simp at h
  exact h.1
theorem cmp_fn (co : Int) : isFn Tryz.prog (cmpF co) = true := by
  unfold cmpF
  split
  · kernel_rfl
  · split <;> kernel_rfl
theorem cmp_calls (w : World) (j : Nat) (a b : List UInt8) (hj : j ≤ 3) (hka : keyOk (j : Int) a = true) (hkb : keyOk (j : Int) b = true) (ha : a.length ≤ 1000000) (hb : b.length ≤ 1000000) : Calls Tryz.prog (cmpF (j : Int)) #[.string (bs a), .string (bs b)] w fun en w' => en = .returned (.int .i64 (cmpK (j : Int) a b)) ∧ Below w.heap.size w w' := by
  match j, hj with
  | 0, _ => exact c110 w a b
  | 1, _ => exact c112 w a b ha hb
  | 2, _ =>
    have h := c116 w a b 1 (keyOk_2 hka) (keyOk_2 hkb) (by decide)
    rw [cmpNs_1] at h
    exact h
  | 3, _ =>
    have h := c116 w a b 2 (keyOk_3 hka) (keyOk_3 hkb) (by decide)
    rw [cmpNs_2] at h
    exact h
theorem keyE_ok {co : Int} {k : List UInt8} (h : keyE co k = 0) : keyOk co k = true := by
  unfold keyE at h
  split at h
  · assumption
  · cases h
def cmpE (co : Int) (a b : List UInt8) : Int := if colE12 co = 0 then if keyE co a = 0 then keyE co b else keyE co a else colE12 co
theorem col_ok {co : Int} (h : colE12 co = 0) : ∃ j : Nat, co = (j : Int) ∧ j ≤ 3 := by
  unfold colE12 at h
  split at h
  · exact ⟨co.toNat, by omega, by omega⟩
  · cases h
theorem c28 (w : World) (co : Int) (a b : List UInt8) (ha : a.length ≤ 1000000) (hb : b.length ≤ 1000000) : Calls Tryz.prog 28 #[.int .i64 co, .string (bs a), .string (bs b)] w fun en w' => en = .returned (.tuple #[.int .i64 (if cmpE co a b = 0 then cmpK co a b else 0), .int .i64 (cmpE co a b)]) ∧ Below w.heap.size w w' := by
 refine enter (args := [_, _, _]) Tryz.func28 Tryz.ntmps28 rfl rfl (HS.refl w []) ?_
 iterate 9 refine aS ?_
 refine o_q (q_call rfl fn_74 rfl (fun w1 h1 => c74 w1 _)) rfl ?_
 iterate 7 refine aS ?_
 refine s_cond rfl (fun h1 => ?_) fun h1 => ?_
 ·try simp only [Bool.not_eq_true', decide_eq_false_iff_not] at h1
  have h0 : ¬ colE12 co = 0 := h1
  have hz : cmpE co a b = colE12 co := by unfold cmpE; rw [if_neg h0]
  iterate 6 refine aS ?_
  exact s_retv (rs := [.tmp 6, .tmp 7]) rfl (.tmp rfl (.tmp rfl (.nil))) (fun w' h' => ⟨by rw [hz, if_neg h0]; rfl, h'.below⟩)
 try simp only [Bool.not_eq_false', decide_eq_true_eq] at h1
 have h0 : colE12 co = 0 := h1
 obtain ⟨j, rfl, hj⟩ := col_ok h0
 have hz : cmpE (j : Int) a b = firstV [.int .i64 (keyE (j : Int) a), .int .i64 (keyE (j : Int) b)] := by rw [firstW2]; unfold cmpE; rw [if_pos h0]
 iterate 6 refine aS ?_
 refine o_q (q_call rfl fn_76 rfl (fun w1 h1 => c76 w1 j a hj ha)) rfl ?_
 iterate 2 refine aS ?_
 refine o_q (q_call rfl fn_76 rfl (fun w1 h1 => c76 w1 j b hj hb)) rfl ?_
 refine o_h (h_buildSlice (cs := [_, _]) rfl rfl sl_165 zr_31 rfl rfl rfl) rfl (fun b2 _ => ?_)
 refine o_q (q_call rfl fn_75 rfl (fun w1 h1 => f75 h1 aPk (by rfl) (by rfl) (by decide))) rfl ?_
 iterate 7 refine aS ?_
 refine s_cond rfl (fun h3 => ?_) fun h3 => ?_
 ·try simp only [Bool.not_eq_true', decide_eq_false_iff_not] at h3
  have h1 : ¬ firstV [.int .i64 (keyE (j : Int) a), .int .i64 (keyE (j : Int) b)] = 0 := h3
  iterate 6 refine aS ?_
  exact s_retv (rs := [.tmp 6, .tmp 7]) rfl (.tmp rfl (.tmp rfl (.nil))) (fun w' h' => ⟨by rw [hz, if_neg h1]; rfl, h'.below⟩)
 try simp only [Bool.not_eq_false', decide_eq_true_eq] at h3
 have h1 : firstV [.int .i64 (keyE (j : Int) a), .int .i64 (keyE (j : Int) b)] = 0 := h3
 obtain ⟨hka, hkb⟩ : keyE (j : Int) a = 0 ∧ keyE (j : Int) b = 0 := by rw [firstW2] at h1; split at h1; exact ⟨by assumption, h1⟩; rename_i h9; exact absurd h1 h9
 iterate 3 refine aS ?_
 refine o_q (q_call rfl fn_77 rfl (fun w1 h1 => c77 w1)) rfl ?_
 refine aS ?_
 refine o_p (p_indexn rfl rfl rfl ar_132 sz_110 j rfl (by omega)) rfl ?_
 refine o_slot (ord_slot j hj) ?_
 refine o_p (p_field1 rfl rfl fd_110_1 sz_108 rfl) rfl ?_
 iterate 2 refine aS ?_
 refine o_q (q_callv rfl rfl (cmp_fn _) rfl (fun w1 h1 => cmp_calls w1 j a b hj (keyE_ok hka) (keyE_ok hkb) ha hb)) rfl ?_
 iterate 3 refine aS ?_
 exact s_retv (rs := [.tmp 6, .tmp 7]) rfl (.tmp rfl (.tmp rfl (.nil))) (fun w' h' => ⟨by rw [hz, if_pos h1, h1]; rfl, h'.below⟩)
instance : TFd Tryz.prog 26 0 0 9 := ⟨by kernel_rfl⟩
theorem sz_9 : tsz Tryz.prog 9 = some (1, false) := by kernel_rfl
instance : TSz Tryz.prog 9 1 false := ⟨sz_9⟩
instance : TFd Tryz.prog 26 1 1 9 := ⟨by kernel_rfl⟩
theorem ent_slot (co : Int) (x : TEnt) : Ending.returned (Value.int .i64 (if keyE co x.key = 0 then cond (decide ((x.val.length : Int) ≤ 64)) 0 8 else keyE co x.key)) = Ending.returned (Value.int .i64 (entE co x)) := by
  unfold entE
  by_cases h : keyE co x.key = 0
  · rw [if_pos h, if_pos h]
    by_cases h2 : x.val.length ≤ 64
    · rw [if_pos h2, decide_eq_true (by omega)]; rfl
    · rw [if_neg h2, decide_eq_false (by omega)]; rfl
  · rw [if_neg h, if_neg h]
    unfold keyE at h ⊢
    split at h
    · exact absurd rfl h
    · rename_i h3
      rw [if_neg h3]
theorem c91 (w : World) (j : Nat) (x : TEnt) (hj : j ≤ 3) (hm : x.key.length ≤ 1000000) : Calls Tryz.prog 91 #[.int .i64 (j : Int), .agg #[.string (bs x.key), .string (bs x.val)]] w fun en w' => en = .returned (.int .i64 (entE (j : Int) x)) ∧ Below w.heap.size w w' := by
 refine enter (args := [_, _]) Tryz.func91 Tryz.ntmps91 rfl rfl (HS.refl w []) ?_
 iterate 2 refine aS ?_
 refine oBx fun b1 _ => ?_
 iterate 3 refine aS ?_
 refine s_draw [] mixed ?_
 refine dP 0 ?_
 refine dFa 1 ?_
 refine dLd 2 [] ?_
 refine d_q 3 [] rfl (q_call rfl fn_76 rfl (fun w1 h1 => c76 w1 j x.key hj hm)) (by kernel_rfl) (by kernel_rfl) (by kernel_rfl) rfl ?_
 refine dFa 4 ?_
 refine dLd 5 [] ?_
 refine d_p 6 rfl (p_len_str rfl rfl Tryz.underlying9) (by kernel_rfl) rfl rfl ?_
 refine dP 7 ?_
 refine d_q 8 [] rfl (q_call rfl fn_81 rfl (fun w1 h1 => c81 w1 _ _)) (by kernel_rfl) (by kernel_rfl) (by kernel_rfl) rfl ?_
 refine d_h 9 rfl (h_buildSlice (cs := [_, _]) rfl rfl sl_165 zr_31 rfl rfl rfl) (by kernel_rfl) (fun w h => h.ent aEt) rfl (fun b2 _ => ?_)
 refine dBa ?_
 refine d_q 10 [] rfl (q_call rfl fn_75 rfl (fun w1 h1 => f75 h1 aPk (by rfl) (by rfl) (by decide))) (by kernel_rfl) (by kernel_rfl) (by kernel_rfl) rfl ?_
 refine dP 11 ?_
 refine dNi ?_
 exact s_retv (rs := [.tmp 4]) rfl (.tmp rfl (.nil)) (fun w' h' => ⟨by simp only [retV]; rw [firstW2]; exact ent_slot _ _, h'.below⟩)
theorem fn_71 : isFn Tryz.prog 71 = true := by kernel_rfl
theorem fn_70 : isFn Tryz.prog 70 = true := by kernel_rfl
theorem kok0 (s : List UInt8) : keyOk ((0 : Nat) : Int) s = (decide ((1 : Int) ≤ (s.length : Int)) && decide ((s.length : Int) ≤ 40)) := by
  rw [Bool.eq_iff_iff]; simp [keyOk]; omega
theorem kok1 (s : List UInt8) : keyOk ((1 : Nat) : Int) s = (decide ((1 : Int) ≤ (s.length : Int)) && decide ((s.length : Int) ≤ 32)) := by
  rw [Bool.eq_iff_iff]; simp [keyOk]; omega
theorem kok2 (s : List UInt8) : keyOk ((2 : Nat) : Int) s = (decide ((s.length : Int) = 4) && (decide (0 ≤ at4 s 0) && decide (at4 s 0 ≤ 2147483647))) := by
  have := at4_le s 0
  rw [Bool.eq_iff_iff]; simp [keyOk, numOk]; omega
theorem kok3 (s : List UInt8) : keyOk ((3 : Nat) : Int) s = (decide ((s.length : Int) = 8) && (decide (0 ≤ at4 s 0) && decide (at4 s 0 ≤ 2147483647)) && (decide (0 ≤ at4 s 4) && decide (at4 s 4 ≤ 2147483647))) := by
  have := at4_le s 0
  have := at4_le s 4
  rw [Bool.eq_iff_iff]; simp [keyOk, numOk]; omega
theorem c26 (w : World) (j : Nat) (s : List UInt8) (hj : j ≤ 3) (hm : s.length ≤ 1000000) : Calls Tryz.prog 26 #[.int .i64 (j : Int), .string (bs s)] w fun en w' => en = .returned (.int .i64 (keyE (j : Int) s)) ∧ Below w.heap.size w w' := by
 refine enter (args := [_, _]) Tryz.func26 Tryz.ntmps26 rfl rfl (HS.refl w []) ?_
 iterate 7 refine aS ?_
 refine o_p (p_len_str rfl rfl Tryz.underlying9) rfl ?_
 refine o_q (q_call rfl fn_46 rfl (fun w1 h1 => c46 w1 _ _ _)) rfl ?_
 iterate 13 refine aS ?_
 refine s_cutI (α := Unit) [5, 12, 13, 14, 15, 16, 17, 18, 19, 20, 21, 22, 23, 24, 25, 26, 27, 28, 29, 30, 31, 32, 33, 34, 35, 36, 37, 38, 39] (fun _ => [(5, .bool (keyOk (j : Int) s))]) (fun _ => HS w [] []) (fun _ => True) ?_ ?_
 ·skip
  refine s_cond rfl (fun h1 => ?_) fun h1 => ?_
  ·try simp only [decide_eq_true_eq] at h1
   obtain rfl : j = 1 := by have hq := h1; omega
   iterate 2 refine aS ?_
   refine o_p (p_len_str rfl rfl Tryz.underlying9) rfl ?_
   refine o_q (q_call rfl fn_46 rfl (fun w1 h1 => c46 w1 _ _ _)) rfl ?_
   iterate 2 refine aS ?_
   exact s_joinI () trivial (by rw [kok1]; exact aSx) (fun w h => h.ent aEt)
  try simp only [decide_eq_false_iff_not] at h1
  have hn1 : ¬ (j : Int) = 1 := h1
  iterate 5 refine aS ?_
  refine s_cond rfl (fun h2 => ?_) fun h2 => ?_
  ·try simp only [decide_eq_true_eq] at h2
   obtain rfl : j = 2 := by have hq := h2; omega
   iterate 2 refine aS ?_
   refine o_p (p_len_str rfl rfl Tryz.underlying9) rfl ?_
   iterate 2 refine aS ?_
   refine o_and 4 20 24 _ _ rfl
    (by
     intro hg3
     have hs4 := hg3; try simp only [decide_eq_true_eq] at hs4
     refine oOn 20 hg3 ?_
     refine aS ?_
     refine oOn 20 hg3 ?_
     refine o_q (q_call rfl fn_71 rfl (fun w1 h1 => by have h9 := c71 w1 s 0 4 (by omega) (by omega) (by have hq := hg3; first | omega | (simp at hq; omega)); rw [litN_4] at h9; exact h9)) rfl ?_
     refine oOn 20 hg3 ?_
     refine o_q (q_call rfl fn_70 rfl (fun w1 h1 => c70 w1 _)) rfl ?_
     refine o_p (p_pickt rfl rfl hg3 rfl) rfl ?_
     refine aS ?_
     exact oJn 4 24)
    (by
     intro hg5
     have hs6 := hg5; try simp only [decide_eq_false_iff_not] at hs6
     refine oOf 20 hg5 ?_
     refine oOf 20 hg5 ?_
     refine oOf 20 hg5 ?_
     refine o_p (p_pickf rfl rfl hg5 rfl) rfl ?_
     refine aS ?_
     exact oJn 4 24) ?_
   iterate 2 refine aS ?_
   exact s_joinI () trivial (by rw [kok2]; exact aSx) (fun w h => h.ent aEt)
  try simp only [decide_eq_false_iff_not] at h2
  have hn2 : ¬ (j : Int) = 2 := h2
  iterate 5 refine aS ?_
  refine s_cond rfl (fun h7 => ?_) fun h7 => ?_
  ·try simp only [decide_eq_true_eq] at h7
   obtain rfl : j = 3 := by have hq := h7; omega
   iterate 2 refine aS ?_
   refine o_p (p_len_str rfl rfl Tryz.underlying9) rfl ?_
   iterate 2 refine aS ?_
   refine o_and 4 30 34 _ _ rfl
    (by
     intro hg8
     have hs9 := hg8; try simp only [decide_eq_true_eq] at hs9
     refine oOn 30 hg8 ?_
     refine aS ?_
     refine oOn 30 hg8 ?_
     refine o_q (q_call rfl fn_71 rfl (fun w1 h1 => by have h9 := c71 w1 s 0 4 (by omega) (by omega) (by have hq := hg8; first | omega | (simp at hq; omega)); rw [litN_4] at h9; exact h9)) rfl ?_
     refine oOn 30 hg8 ?_
     refine o_q (q_call rfl fn_70 rfl (fun w1 h1 => c70 w1 _)) rfl ?_
     refine o_p (p_pickt rfl rfl hg8 rfl) rfl ?_
     refine aS ?_
     exact oJn 4 34)
    (by
     intro hg10
     have hs11 := hg10; try simp only [decide_eq_false_iff_not] at hs11
     refine oOf 30 hg10 ?_
     refine oOf 30 hg10 ?_
     refine oOf 30 hg10 ?_
     refine o_p (p_pickf rfl rfl hg10 rfl) rfl ?_
     refine aS ?_
     exact oJn 4 34) ?_
   refine aS ?_
   refine o_and 4 35 39 _ _ rfl
    (by
     intro hg12
     have hs13 := hg12; try simp only [Bool.and_eq_true, decide_eq_true_eq] at hs13
     refine oOn 35 hg12 ?_
     refine aS ?_
     refine oOn 35 hg12 ?_
     refine o_q (q_call rfl fn_71 rfl (fun w1 h1 => by have h9 := c71 w1 s 4 4 (by omega) (by omega) (by have hq := hg12; first | omega | (simp at hq; omega)); rw [litN_4] at h9; exact h9)) rfl ?_
     refine oOn 35 hg12 ?_
     refine o_q (q_call rfl fn_70 rfl (fun w1 h1 => c70 w1 _)) rfl ?_
     refine o_p (p_pickt rfl rfl hg12 rfl) rfl ?_
     refine aS ?_
     exact oJn 4 39)
    (by
     intro hg14
     have hs15 := hg14; try simp only [Bool.and_eq_false_iff, decide_eq_false_iff_not] at hs15
     refine oOf 35 hg14 ?_
     refine oOf 35 hg14 ?_
     refine oOf 35 hg14 ?_
     refine o_p (p_pickf rfl rfl hg14 rfl) rfl ?_
     refine aS ?_
     exact oJn 4 39) ?_
   iterate 2 refine aS ?_
   exact s_joinI () trivial (by rw [kok3]; exact aSx) (fun w h => h.ent aEt)
  try simp only [decide_eq_false_iff_not] at h7
  have hn3 : ¬ (j : Int) = 3 := h7
  obtain rfl : j = 0 := by omega
  refine aS ?_
  exact s_joinI () trivial (by rw [kok0]; exact aSx) (fun w h => h.ent aEt)
 intro _ _
 iterate 7 refine aS ?_
 refine s_cond rfl (fun h16 => ?_) fun h16 => ?_
 ·try simp only [Bool.not_eq_true'] at h16
  have hz : keyE (j : Int) s = 3 := by have hq := h16; unfold keyE; rw [if_neg (by simpa using hq)]
  iterate 4 refine aS ?_
  exact s_retv (rs := [.tmp 4]) rfl (.tmp rfl (.nil)) (fun w' h' => ⟨by rw [hz]; rfl, h'.below⟩)
 try simp only [Bool.not_eq_false'] at h16
 have hz : keyE (j : Int) s = 0 := by have hq := h16; unfold keyE; rw [if_pos (by simpa using hq)]
 iterate 5 refine aS ?_
 exact s_retv (rs := [.tmp 4]) rfl (.tmp rfl (.nil)) (fun w' h' => ⟨by rw [hz]; rfl, h'.below⟩)
theorem fn_26 : isFn Tryz.prog 26 = true := by kernel_rfl
theorem c19 (w : World) (j : Nat) (x : TEnt) (hj : j ≤ 3) (hm : x.key.length ≤ 1000000) : Calls Tryz.prog 19 #[.int .i64 (j : Int), .agg #[.string (bs x.key), .string (bs x.val)]] w fun en w' => en = .returned (.int .i64 (entE (j : Int) x)) ∧ Below w.heap.size w w' := by
 refine enter (args := [_, _]) Tryz.func19 Tryz.ntmps19 rfl rfl (HS.refl w []) ?_
 iterate 2 refine aS ?_
 refine oBx fun b1 _ => ?_
 iterate 8 refine aS ?_
 refine o_q (q_call rfl fn_26 rfl (fun w1 h1 => c26 w1 j x.key hj hm)) rfl ?_
 iterate 7 refine aS ?_
 refine s_cond rfl (fun h2 => ?_) fun h2 => ?_
 ·try simp only [Bool.not_eq_true', decide_eq_false_iff_not] at h2
  have h0 : ¬ keyE (j : Int) x.key = 0 := h2
  have hz : entE (j : Int) x = keyE (j : Int) x.key := by have h9 := ent_slot (j : Int) x; rw [if_neg h0] at h9; injection h9 with h9; injection h9 with _ h9; exact h9.symm
  iterate 5 refine aS ?_
  exact s_retv (rs := [.tmp 4]) rfl (.tmp rfl (.nil)) (fun w' h' => ⟨by rw [hz]; rfl, h'.below⟩)
 try simp only [Bool.not_eq_false', decide_eq_true_eq] at h2
 have h0 : keyE (j : Int) x.key = 0 := h2
 iterate 6 refine aS ?_
 refine o_p (p_len_str rfl rfl Tryz.underlying9) rfl ?_
 iterate 2 refine aS ?_
 refine s_cond rfl (fun h3 => ?_) fun h3 => ?_
 ·try simp only [decide_eq_true_eq] at h3
  have hz : entE (j : Int) x = 8 := by have hq := h3; unfold entE; rw [if_pos h0, if_neg (by omega)]
  iterate 4 refine aS ?_
  exact s_retv (rs := [.tmp 4]) rfl (.tmp rfl (.nil)) (fun w' h' => ⟨by rw [hz]; rfl, h'.below⟩)
 try simp only [decide_eq_false_iff_not] at h3
 have hz : entE (j : Int) x = 0 := by have hq := h3; unfold entE; rw [if_pos h0, if_pos (by omega)]
 iterate 5 refine aS ?_
 exact s_retv (rs := [.tmp 4]) rfl (.tmp rfl (.nil)) (fun w' h' => ⟨by rw [hz]; rfl, h'.below⟩)
theorem fn_79 : isFn Tryz.prog 79 = true := by kernel_rfl
theorem fn_80 : isFn Tryz.prog 80 = true := by kernel_rfl
def mpK (j : Int) (l : List UInt8) : List UInt8 := if j = 1 then l.map capB else l
theorem mpK_len (j : Int) (l : List UInt8) : (mpK j l).length = l.length := by unfold mpK; split <;> simp
theorem cmpK_mp {j : Nat} (h2 : ¬ (j : Int) = 2) (h3 : ¬ (j : Int) = 3) (a b : List UInt8) : cmpK (j : Int) a b = cmpB (mpK (j : Int) a) (mpK (j : Int) b) := by
  unfold cmpK mpK
  rw [if_neg h2, if_neg h3]
  split <;> rfl
theorem cmpB_step {x y : List UInt8} {k : Nat} (hx : k < x.length) (hy : k < y.length) : cmpB (x.drop k) (y.drop k) = if sgnI ((x.getD k 0).toNat : Int) ((y.getD k 0).toNat : Int) ≠ 0 then sgnI ((x.getD k 0).toNat : Int) ((y.getD k 0).toNat : Int) else cmpB (x.drop (k + 1)) (y.drop (k + 1)) := by
  rw [List.drop_eq_getElem_cons hx, List.drop_eq_getElem_cons hy, List.getD_eq_getElem?_getD, List.getD_eq_getElem?_getD, List.getElem?_eq_getElem hx, List.getElem?_eq_getElem hy]
  simp only [cmpB, Option.getD_some, sgnI, UInt8.lt_iff_toNat_lt]
  split
  · rename_i h
    rw [if_pos (by omega), if_pos (by omega)]
  · rename_i h
    rw [if_neg (show ¬ ((x[k].toNat : Int) < y[k].toNat) by omega)]
    split
    · rename_i h2
      rw [if_pos (by omega), if_pos (by omega)]
    · rename_i h2
      rw [if_neg (by omega)]
theorem cmpB_len {x y : List UInt8} {k : Nat} (hx : k ≤ x.length) (hy : k ≤ y.length) (h : ¬ (k < x.length ∧ k < y.length)) : cmpB (x.drop k) (y.drop k) = sgnI (x.length : Int) (y.length : Int) := by
  unfold sgnI
  rcases Nat.lt_or_ge k x.length with h1 | h1
  · have e : y.drop k = [] := List.drop_of_length_le (by omega)
    rw [e, List.drop_eq_getElem_cons h1, if_neg (by omega), if_pos (by omega)]
    rfl
  · have e : x.drop k = [] := List.drop_of_length_le h1
    rw [e]
    rcases Nat.lt_or_ge k y.length with h2 | h2
    · rw [List.drop_eq_getElem_cons h2, if_pos (by omega)]
      rfl
    · have e2 : y.drop k = [] := List.drop_of_length_le h2
      rw [e2, if_neg (by omega), if_neg (by omega)]
      rfl
theorem mpK_cap {a : List UInt8} {k : Nat} (h : k < a.length) : (((mpK 1 a).getD k 0).toNat : Int) = capI ((a.getD k 0).toNat : Int) := by
  unfold mpK
  rw [if_pos rfl, capI_cap, List.getD_eq_getElem?_getD, List.getElem?_map, List.getElem?_eq_getElem h, List.getD_eq_getElem?_getD, List.getElem?_eq_getElem h]
  rfl
theorem mpK_id {j : Int} (hj : ¬ j = 1) (a : List UInt8) : mpK j a = a := by unfold mpK; rw [if_neg hj]
theorem c33 (w : World) (j : Nat) (a b : List UInt8) (hj : j ≤ 3) (hka : keyOk (j : Int) a = true) (hkb : keyOk (j : Int) b = true) (ha : a.length ≤ 1000000) (hb : b.length ≤ 1000000) : Calls Tryz.prog 33 #[.int .i64 (j : Int), .string (bs a), .string (bs b)] w fun en w' => en = .returned (.int .i64 (cmpK (j : Int) a b)) ∧ Below w.heap.size w w' := by
 refine enter (args := [_, _, _]) Tryz.func33 Tryz.ntmps33 rfl rfl (HS.refl w []) ?_
 iterate 15 refine aS ?_
 refine s_cond rfl (fun h1 => ?_) fun h1 => ?_
 ·try simp only [decide_eq_true_eq] at h1
  obtain rfl : j = 2 := by have hq := h1; omega
  have hl1 := keyOk_2 hka
  have hl2 := keyOk_2 hkb
  have hz : cmpK ((2 : Nat) : Int) a b = sgnI (at4 a 0) (at4 b 0) := rfl
  iterate 3 refine aS ?_
  refine o_q (q_call rfl fn_71 rfl (fun w1 h1 => by have h9 := c71 w1 a 0 4 (by omega) (by omega) (by omega); rw [litN_4] at h9; exact h9)) rfl ?_
  refine aS ?_
  refine o_q (q_call rfl fn_71 rfl (fun w1 h1 => by have h9 := c71 w1 b 0 4 (by omega) (by omega) (by omega); rw [litN_4] at h9; exact h9)) rfl ?_
  refine o_q (q_call rfl fn_79 rfl (fun w1 h1 => c79 w1 _ _)) rfl ?_
  iterate 2 refine aS ?_
  exact s_retv (rs := [.tmp 6]) rfl (.tmp rfl (.nil)) (fun w' h' => ⟨by rw [hz]; rfl, h'.below⟩)
 try simp only [decide_eq_false_iff_not] at h1
 have hn2 : ¬ (j : Int) = 2 := h1
 iterate 5 refine aS ?_
 refine s_cond rfl (fun h2 => ?_) fun h2 => ?_
 ·try simp only [decide_eq_true_eq] at h2
  obtain rfl : j = 3 := by have hq := h2; omega
  have hl1 := keyOk_3 hka
  have hl2 := keyOk_3 hkb
  have hz : cmpK ((3 : Nat) : Int) a b = if sgnI (at4 a 0) (at4 b 0) ≠ 0 then sgnI (at4 a 0) (at4 b 0) else sgnI (at4 a 4) (at4 b 4) := rfl
  iterate 4 refine aS ?_
  refine o_q (q_call rfl fn_71 rfl (fun w1 h1 => by have h9 := c71 w1 a 0 4 (by omega) (by omega) (by omega); rw [litN_4] at h9; exact h9)) rfl ?_
  refine aS ?_
  refine o_q (q_call rfl fn_71 rfl (fun w1 h1 => by have h9 := c71 w1 b 0 4 (by omega) (by omega) (by omega); rw [litN_4] at h9; exact h9)) rfl ?_
  refine o_q (q_call rfl fn_79 rfl (fun w1 h1 => c79 w1 _ _)) rfl ?_
  iterate 7 refine aS ?_
  refine s_cond rfl (fun h3 => ?_) fun h3 => ?_
  ·try simp only [Bool.not_eq_true', decide_eq_false_iff_not] at h3
   have hq9 : sgnI (at4 a 0) (at4 b 0) ≠ 0 := h3
   rw [if_pos hq9] at hz
   iterate 5 refine aS ?_
   exact s_retv (rs := [.tmp 6]) rfl (.tmp rfl (.nil)) (fun w' h' => ⟨by rw [hz]; rfl, h'.below⟩)
  try simp only [Bool.not_eq_false', decide_eq_true_eq] at h3
  have hq9 : ¬ sgnI (at4 a 0) (at4 b 0) ≠ 0 := by have hq8 := h3; simpa using hq8
  rw [if_neg hq9] at hz
  iterate 4 refine aS ?_
  refine o_q (q_call rfl fn_71 rfl (fun w1 h1 => by have h9 := c71 w1 a 4 4 (by omega) (by omega) (by omega); rw [litN_4] at h9; exact h9)) rfl ?_
  refine aS ?_
  refine o_q (q_call rfl fn_71 rfl (fun w1 h1 => by have h9 := c71 w1 b 4 4 (by omega) (by omega) (by omega); rw [litN_4] at h9; exact h9)) rfl ?_
  refine o_q (q_call rfl fn_79 rfl (fun w1 h1 => c79 w1 _ _)) rfl ?_
  iterate 2 refine aS ?_
  exact s_retv (rs := [.tmp 6]) rfl (.tmp rfl (.nil)) (fun w' h' => ⟨by rw [hz]; rfl, h'.below⟩)
 try simp only [decide_eq_false_iff_not] at h2
 have hn3 : ¬ (j : Int) = 3 := h2
 have hmp := cmpK_mp hn2 hn3 a b
 iterate 8 refine aS ?_
 refine s_loopI (α := Nat) [6, 8, 9, 10, 11, 35, 36, 37, 38, 39, 40, 41, 42, 43, 44, 45, 46, 47, 48, 49, 50, 51, 52, 53, 54, 55, 56, 57, 58, 59, 60, 61, 62, 63, 64, 65, 66] (fun k => [(8, .int .i64 (k : Int))]) (fun _ => _) (fun k => k ≤ a.length ∧ k ≤ b.length ∧ cmpB (mpK (j : Int) a) (mpK (j : Int) b) = cmpB ((mpK (j : Int) a).drop k) ((mpK (j : Int) b).drop k)) (fun k => a.length - k) 0 ⟨Nat.zero_le _, Nat.zero_le _, rfl⟩ aSx (fun w h => h) (fun k hx => ?_)
 obtain ⟨hk1, hk2, hk3⟩ := hx
 iterate 5 refine aS ?_
 refine o_p (p_len_str rfl rfl Tryz.underlying9) rfl ?_
 iterate 2 refine aS ?_
 refine o_and 5 39 44 _ _ rfl
  (by
   intro hg4
   have hs5 := hg4; try simp only [decide_eq_true_eq] at hs5
   refine oOn 39 hg4 ?_
   refine aS ?_
   refine oOn 39 hg4 ?_
   refine aS ?_
   refine oOn 39 hg4 ?_
   refine o_p (p_len_str rfl rfl Tryz.underlying9) rfl ?_
   refine oOn 39 hg4 ?_
   refine aS ?_
   refine o_p (p_pickt rfl rfl hg4 rfl) rfl ?_
   refine aS ?_
   exact oJn 5 44)
  (by
   intro hg6
   have hs7 := hg6; try simp only [decide_eq_false_iff_not] at hs7
   refine oOf 39 hg6 ?_
   refine oOf 39 hg6 ?_
   refine oOf 39 hg6 ?_
   refine oOf 39 hg6 ?_
   refine o_p (p_pickf rfl rfl hg6 rfl) rfl ?_
   refine aS ?_
   exact oJn 5 44) ?_
 refine aS ?_
 refine s_cond rfl (fun h8 => ?_) fun h8 => ?_
 ·try simp only [Bool.and_eq_true, decide_eq_true_eq] at h8
  obtain ⟨hka1, hkb1⟩ : k < a.length ∧ k < b.length := by have hq := h8; omega
  have hb1 := (a.getD k 0).toNat_lt
  have hb2 := (b.getD k 0).toNat_lt
  have hst := cmpB_step (x := mpK (j : Int) a) (y := mpK (j : Int) b) (k := k) (by rw [mpK_len]; exact hka1) (by rw [mpK_len]; exact hkb1)
  iterate 4 refine aS ?_
  refine s_draw [] mixed ?_
  refine dP 0 ?_
  refine dP 1 ?_
  refine d_p 2 rfl (p_index_str rfl rfl rfl Tryz.underlying9 (k) (by omega) (by omega)) (by kernel_rfl) rfl rfl ?_
  refine d_p 3 rfl (p_conv_int rfl rfl ki_5 ki_3) (by kernel_rfl) rfl rfl ?_
  try refine dWr ?_
  refine dP 4 ?_
  refine dP 5 ?_
  refine d_p 6 rfl (p_index_str rfl rfl rfl Tryz.underlying9 (k) (by omega) (by omega)) (by kernel_rfl) rfl rfl ?_
  refine d_p 7 rfl (p_conv_int rfl rfl ki_5 ki_3) (by kernel_rfl) rfl rfl ?_
  try refine dWr ?_
  refine dP 8 ?_
  refine dP 9 ?_
  refine dNi ?_
  iterate 6 refine aS ?_
  refine s_weaken (L' := [(0, _), (1, _), (2, _), (8, _), (9, _), (10, _), (12, _), (13, _), (14, _), (20, _), (21, _), (56, _)]) aSx (fun _ h => h) ?_
  refine s_cutI (α := Unit) [9, 10, 57, 58, 59, 60] (fun _ => [(9, .int .i64 (((mpK (j : Int) a).getD k 0).toNat : Int)), (10, .int .i64 (((mpK (j : Int) b).getD k 0).toNat : Int))]) (fun _ => HS w [] []) (fun _ => True) ?_ ?_
  ·skip
   refine s_cond rfl (fun h9 => ?_) fun h9 => ?_
   ·try simp only [decide_eq_true_eq] at h9
    obtain rfl : j = 1 := by have hq := h9; omega
    iterate 2 refine aS ?_
    refine o_q (q_call rfl fn_80 rfl (fun w1 h1 => c80 w1 _ (by omega))) rfl ?_
    refine aS ?_
    refine o_q (q_call rfl fn_80 rfl (fun w1 h1 => c80 w1 _ (by omega))) rfl ?_
    iterate 3 refine aS ?_
    exact s_joinI () trivial (by rw [show (((1 : Nat) : Int)) = 1 from rfl, mpK_cap hka1, mpK_cap hkb1]; exact aSx) (fun w h => h.ent aEt)
   try simp only [decide_eq_false_iff_not] at h9
   have hn1 : ¬ (j : Int) = 1 := h9
   refine aS ?_
   exact s_joinI () trivial (by rw [mpK_id hn1, mpK_id hn1]; exact aSx) (fun w h => h.ent aEt)
  intro _ _
  iterate 4 refine aS ?_
  refine o_q (q_call rfl fn_79 rfl (fun w1 h1 => c79 w1 _ _)) rfl ?_
  iterate 7 refine aS ?_
  refine s_cond rfl (fun h10 => ?_) fun h10 => ?_
  ·try simp only [Bool.not_eq_true', decide_eq_false_iff_not] at h10
   have hq9 : sgnI (((mpK (j : Int) a).getD k 0).toNat : Int) (((mpK (j : Int) b).getD k 0).toNat : Int) ≠ 0 := h10
   have hz := hmp.trans (hk3.trans (hst.trans (if_pos hq9)))
   iterate 5 refine aS ?_
   exact s_retv (rs := [.tmp 6]) rfl (.tmp rfl (.nil)) (fun w' h' => ⟨by rw [hz]; rfl, h'.below⟩)
  try simp only [Bool.not_eq_false', decide_eq_true_eq] at h10
  have hq9 : ¬ sgnI (((mpK (j : Int) a).getD k 0).toNat : Int) (((mpK (j : Int) b).getD k 0).toNat : Int) ≠ 0 := by have hq8 := h10; simpa using hq8
  have hz := hk3.trans (hst.trans (if_neg hq9))
  iterate 5 refine aS ?_
  try refine oWr ?_
  iterate 2 refine aS ?_
  exact s_backI (k + 1) (by omega) ⟨by omega, by omega, hz⟩ aSx (fun w h => h)
 try simp only [Bool.and_eq_false_iff, decide_eq_false_iff_not] at h8
 have hz := cmpB_len (x := mpK (j : Int) a) (y := mpK (j : Int) b) (k := k) (by rw [mpK_len]; exact hk1) (by rw [mpK_len]; exact hk2) (by rw [mpK_len, mpK_len]; have hq := h8; omega)
 rw [← hk3, ← hmp, mpK_len, mpK_len] at hz
 refine s_exit_to rfl ?_
 iterate 3 refine aS ?_
 refine o_p (p_len_str rfl rfl Tryz.underlying9) rfl ?_
 refine aS ?_
 refine o_p (p_len_str rfl rfl Tryz.underlying9) rfl ?_
 refine o_q (q_call rfl fn_79 rfl (fun w1 h1 => c79 w1 _ _)) rfl ?_
 iterate 2 refine aS ?_
 exact s_retv (rs := [.tmp 6]) rfl (.tmp rfl (.nil)) (fun w' h' => ⟨by rw [hz]; rfl, h'.below⟩)
theorem zr_24 : tzero Tryz.prog 24 = some [.int .i64 0, .int .i64 0, .int .i64 0, .slice none 0 0] := by kernel_rfl
theorem pl_102 : tplaces Tryz.prog 102 = some [(0, 1), (1, 1), (2, 1)] := by kernel_rfl
theorem zr_102 : tzero Tryz.prog 102 = some [.bool false, .slice none 0 0, .slice none 0 0] := by kernel_rfl
theorem sl_22 : tsl Tryz.prog 22 = some (102, 3, 56) := by kernel_rfl
theorem pl_24 : tplaces Tryz.prog 24 = some [(0, 1), (1, 1), (2, 1), (3, 1)] := by kernel_rfl
theorem sz_24 : tsz Tryz.prog 24 = some (4, true) := by kernel_rfl
instance : TSz Tryz.prog 24 4 true := ⟨sz_24⟩
theorem c32 (w : World) (co mo rm : Int) : Calls Tryz.prog 32 #[.int .i64 co, .int .i64 mo, .int .i64 rm] w fun en w' => ∃ g : Option Addr × Nat, en = .returned (.agg #[.int .i64 co, .int .i64 mo, .int .i64 rm, .slice g.1 1 g.2]) ∧ True ∧ HS w [] [.own (.slice g.1 1 g.2) 102 3 1 [.bool true, .slice none 0 0, .slice none 0 0]] w' := by
 refine enter (args := [_, _, _]) Tryz.func32 Tryz.ntmps32 rfl rfl (HS.refl w []) ?_
 iterate 2 refine aS ?_
 refine oAl (fun b1 _ => ?_) zr_24
 iterate 6 refine aS ?_
 refine o_p (p_build (cs := [_, _, _]) rfl rfl pl_102 zr_102 rfl) rfl ?_
 refine o_h (h_buildSlice (cs := [_, _, _]) rfl rfl sl_22 zr_102 rfl rfl rfl) rfl (fun b2 _ => ?_)
 refine o_p (p_build (cs := [_, _, _, _]) rfl rfl pl_24 zr_24 rfl) rfl ?_
 refine oSt ?_
 refine aS ?_
 exact s_retv (rs := [.cell 6 24]) rfl (.cell rfl sz_24 aPk rfl (.nil)) (fun w' h' => ⟨(some ⟨b2, 0, none⟩, 1), rfl, trivial, (HS.own_shut (n := 1) (cap := 1) (sz := 3) h' rfl (by decide) (by decide)).ent aEt⟩)
theorem fn_78 : isFn Tryz.prog 78 = true := by kernel_rfl
theorem sl_77 : tsl Tryz.prog 77 = some (26, 2, 32) := by kernel_rfl
theorem sz_26 : tsz Tryz.prog 26 = some (2, true) := by kernel_rfl
instance : TSz Tryz.prog 26 2 true := ⟨sz_26⟩
theorem zr_26 : tzero Tryz.prog 26 = some [.string (bs []), .string (bs [])] := by kernel_rfl
instance : TFd Tryz.prog 112 0 0 24 := ⟨by kernel_rfl⟩
instance : TFd Tryz.prog 24 1 1 3 := ⟨by kernel_rfl⟩
theorem sz_3 : tsz Tryz.prog 3 = some (1, false) := by kernel_rfl
instance : TSz Tryz.prog 3 1 false := ⟨sz_3⟩
instance : TFd Tryz.prog 24 2 2 3 := ⟨by kernel_rfl⟩
theorem sz_103 : tsz Tryz.prog 103 = some (1, false) := by kernel_rfl
instance : TSz Tryz.prog 103 1 false := ⟨sz_103⟩
instance : TFd Tryz.prog 24 0 0 3 := ⟨by kernel_rfl⟩
theorem fn_91 : isFn Tryz.prog 91 = true := by kernel_rfl
instance : TFd Tryz.prog 112 1 4 110 := ⟨by kernel_rfl⟩
instance : TFd Tryz.prog 102 1 1 77 := ⟨by kernel_rfl⟩
theorem sz_77 : tsz Tryz.prog 77 = some (1, false) := by kernel_rfl
instance : TSz Tryz.prog 77 1 false := ⟨sz_77⟩
def tbV (co mo rm : Int) (a : Option Addr) (n cap : Nat) : List Value := [.int .i64 co, .int .i64 mo, .int .i64 rm, .slice a n cap, fv12 (keyF co), fv12 (cmpF co)]
def TbR (w : World) (M : List Nat) (bt : Nat) (co mo rm : Int) (a : Option Addr) (n cap : Nat) : Prop := ∀ k v, (tbV co mo rm a n cap)[k]? = some v → Rd w M bt k v
section
variable {w w' : World} {M M' : List Nat} {As As' : List HA} {bt : Nat} {co mo rm : Int} {a : Option Addr} {n cap : Nat}
theorem TbR.next (h : TbR w M bt co mo rm a n cap) (hs : HS w M As w') : TbR w' [] bt co mo rm a n cap := fun k v hv => (h k v hv).next hs
theorem TbR.keep (h : TbR w M bt co mo rm a n cap) (hs : HS w M As w') : TbR w' (fps As) bt co mo rm a n cap := fun k v hv => hs.keep (h k v hv)
theorem TbR.mono (h : TbR w M bt co mo rm a n cap) (hM : ∀ b ∈ M', b ∈ M) : TbR w M' bt co mo rm a n cap := fun k v hv => (h k v hv).mono hM
theorem HS.tbr {w0 : World} {tot t : Nat} (h : HS w0 M As w) (hp : Pick As (.blk bt t tot (tbV co mo rm a n cap)) As') : TbR w [] bt co mo rm a n cap := fun k v hv => h.rd_blk (Mc := []) hp hv (by simp)
end
def empT (co mo rm : Int) : Tre := if (if colE12 co = 0 then sizE mo rm else colE12 co) = 0 then ⟨co, mo, rm, [⟨true, [], []⟩]⟩ else ⟨0, 0, 0, []⟩
theorem nodes_nil {w0 w : World} {M : List Nat} {As : List HA} (et nt : Nat) (h : HS w0 M As w) : HS w0 M (.nodes et nt none 0 [] :: As) w := by
  have h1 : HS w0 M (.own (.slice none 0 0) nt 3 0 [] :: .star [] :: As) w := (h.star_nil).own_nil nt 3
  exact HS.row_shut (l := ([] : List LNd)) h1 rfl rfl
theorem nodes_one {w0 w : World} {M : List Nat} {As : List HA} {a : Option Addr} {cap nt : Nat} (et : Nat) (h : HS w0 M (.own (.slice a 1 cap) nt 3 1 [.bool true, .slice none 0 0, .slice none 0 0] :: As) w) : HS w0 M (.nodes et nt a cap [⟨true, none, 0, [], none, 0, []⟩] :: As) w := by
  have h1 : HS w0 M (.star ([(⟨true, none, 0, [], none, 0, []⟩ : LNd)].map (subN et)) :: As) w := HS.star_close (Bs := [_]) (HS.star_close (Bs := [_, _]) ((h.tail.own_nil 3 1).own_nil et 2))
  have h2 : HS w0 M (.star [] :: .own (.slice a 1 cap) nt 3 1 [.bool true, .slice none 0 0, .slice none 0 0] :: As) w := h.star_nil
  have h3 : HS w0 M (.own (.slice a 1 cap) nt 3 1 [.bool true, .slice none 0 0, .slice none 0 0] :: .star ([(⟨true, none, 0, [], none, 0, []⟩ : LNd)].map (subN et)) :: As) w :=
    HS.perm (HS.star_close (Bs := [_]) (HS.star_close (Bs := [_, _]) ((h.own_nil 3 1).own_nil et 2))) (List.Perm.swap ..)
  exact HS.row_shut (l := [(⟨true, none, 0, [], none, 0, []⟩ : LNd)]) h3 rfl rfl
theorem c29 (w : World) (co mo rm : Int) : Calls Tryz.prog 29 #[.int .i64 co, .int .i64 mo, .int .i64 rm] w fun en w' => ∃ g : (Option Addr × Nat) × List LNd, en = .returned (.tuple #[.agg #[.int .i64 (empT co mo rm).co, .int .i64 (empT co mo rm).mo, .int .i64 (empT co mo rm).rm, .slice g.1.1 g.2.length g.1.2], .int .i64 (if colE12 co = 0 then sizE mo rm else colE12 co)]) ∧ pln g.2 = (empT co mo rm).ns ∧ HS w [] [.nodes 26 102 g.1.1 g.1.2 g.2] w' := by
 refine enter (args := [_, _, _]) Tryz.func29 Tryz.ntmps29 rfl rfl (HS.refl w []) ?_
 iterate 2 refine aS ?_
 refine oAl (fun b1 _ => ?_) zr_24
 iterate 8 refine aS ?_
 refine o_q (q_call rfl fn_78 rfl (fun w1 h1 => c78 w1 _ _ _)) rfl ?_
 iterate 7 refine aS ?_
 refine s_cond rfl (fun h2 => ?_) fun h2 => ?_
 ·try simp only [Bool.not_eq_true', decide_eq_false_iff_not] at h2
  have hz : empT co mo rm = ⟨0, 0, 0, []⟩ := by unfold empT; rw [if_neg h2]
  iterate 2 refine aS ?_
  refine o_p (p_build (cs := [_, _, _, _]) rfl rfl pl_24 zr_24 rfl) rfl ?_
  refine aS ?_
  refine oSt ?_
  iterate 2 refine aS ?_
  exact s_retv (rs := [.cell 6 24, .tmp 7]) rfl (.cell rfl sz_24 aPk rfl (.tmp rfl (.nil))) (fun w' h' => ⟨((none, 0), []), by rw [hz]; rfl, by rw [hz]; rfl, (nodes_nil 26 102 h'.nil).ent aEt⟩)
 try simp only [Bool.not_eq_false', decide_eq_true_eq] at h2
 have hz : empT co mo rm = ⟨co, mo, rm, [⟨true, [], []⟩]⟩ := by unfold empT; rw [if_pos h2]
 iterate 6 refine aS ?_
 refine o_p (p_build (cs := [_, _, _]) rfl rfl pl_102 zr_102 rfl) rfl ?_
 refine o_h (h_buildSlice (cs := [_, _, _]) rfl rfl sl_22 zr_102 rfl rfl rfl) rfl (fun b3 _ => ?_)
 refine o_p (p_build (cs := [_, _, _, _]) rfl rfl pl_24 zr_24 rfl) rfl ?_
 refine oSt ?_
 iterate 2 refine aS ?_
 exact s_retv (rs := [.cell 6 24, .tmp 7]) rfl (.cell rfl sz_24 aPk rfl (.tmp rfl (.nil))) (fun w' h' => ⟨((some ⟨b3, 0, none⟩, 1), [⟨true, none, 0, [], none, 0, []⟩]), by rw [hz, h2]; rfl, by rw [hz]; rfl, (nodes_one 26 (HS.own_shut (n := 1) (cap := 1) (sz := 3) (h'.ent (Bs := [.blk b3 102 (1 * 3) [.bool true, .slice none 0 0, .slice none 0 0]]) aEt) rfl (by decide) (by decide))).ent aEt⟩)
theorem c89 (w : World) (a : Option Addr) (cap : Nat) (l : List TEnt) (q : Nat) (cv : Array Value) (es : List Int) (hs : Rw TEnt.vals 2 w [] a l) (hm : l.length ≤ 1000000) (hq : isFn Tryz.prog q = true) (he : es.length = l.length) (hc : ∀ k w1, k < l.length → (∀ j, j < k → es.getD j 0 = 0) → HS w [] [] w1 → Calls Tryz.prog q (#[] ++ [.int .i64 (k : Int), .agg (TEnt.vals (nth l k)).toArray].toArray ++ cv) w1 fun en w2 => en = .returned (.int .i64 (es.getD k 0)) ∧ Below w1.heap.size w1 w2) : Calls Tryz.prog 89 #[.slice a l.length cap, .func (.func q) #[] cv] w fun en w' => en = .returned (.tuple #[.int .i64 (eachF es 0).1, .int .i64 (eachF es 0).2]) ∧ Below w.heap.size w w' := by
 refine enter (args := [_, _]) Tryz.func89 Tryz.ntmps89 rfl rfl (HS.refl w []) ?_
 iterate 13 refine aS ?_
 refine s_loopI (α := Nat) [4, 5, 6, 7, 8, 11, 12, 13, 14, 15, 16, 17, 18, 19, 20, 21, 22, 23, 24] (fun k => [(11, .int .i64 (k : Int))]) (fun _ => HS w [] []) (fun k => k ≤ l.length ∧ eachF es 0 = eachF (es.drop k) k ∧ ∀ j, j < k → es.getD j 0 = 0) (fun k => l.length - k) 0 ⟨by omega, rfl, fun i h => absurd h (Nat.not_lt_zero i)⟩ aSx (fun w h => h.ent aEt) (fun k hk => ?_)
 obtain ⟨hk1, hk2, hk3⟩ := hk
 iterate 5 refine aS ?_
 refine s_cond rfl (fun h1 => ?_) fun h1 => ?_
 ·try simp only [decide_eq_true_eq] at h1
  iterate 6 refine aS ?_
  refine o_p (p_indexAddr rfl rfl rfl sl_77 (k) (by omega) (by omega) (Rw.some hs (by omega))) rfl ?_
  refine o_q (q_load_oldn _ rfl rfl sz_26 rfl (Rw.rd hs (by omega))) rfl ?_
  refine oAl (fun b2 _ => ?_) zr_26
  refine aS ?_
  refine oSt ?_
  iterate 6 refine aS ?_
  refine o_q (q_callv rfl rfl hq rfl (fun w1 h1 => hc k w1 (by omega) hk3 (h1.ent aEt))) rfl ?_
  iterate 7 refine aS ?_
  refine s_cond rfl (fun h3 => ?_) fun h3 => ?_
  ·try simp only [Bool.not_eq_true', decide_eq_false_iff_not] at h3
   iterate 7 refine aS ?_
   exact s_retv (rs := [.tmp 4, .tmp 5]) rfl (.tmp rfl (.tmp rfl (.nil))) (fun w' h' => ⟨by simp only [retV]; rw [hk2, eachF_drop (by omega), if_neg (by assumption)], h'.below⟩)
  try simp only [Bool.not_eq_false', decide_eq_true_eq] at h3
  iterate 4 refine aS ?_
  try refine oWr ?_
  iterate 2 refine aS ?_
  exact s_backI (k+1) (by omega) ⟨by omega, by rw [hk2, eachF_drop (by omega), if_pos (by assumption)], fun j hj => (Nat.lt_or_ge j k).elim (hk3 j) (fun h => by obtain rfl : j = k := (by omega); assumption)⟩ aSx (fun w h => h.ent aEt)
 try simp only [decide_eq_false_iff_not] at h1
 refine s_exit_to rfl ?_
 iterate 5 refine aS ?_
 exact s_retv (rs := [.tmp 4, .tmp 5]) rfl (.tmp rfl (.tmp rfl (.nil))) (fun w' h' => ⟨by simp only [retV]; rw [hk2, eachF_end (by omega)], h'.below⟩)
theorem c105 (w : World) (bt : Nat) (j : Nat) (mo rm : Int) (a : Option Addr) (n cap : Nat) (hmo : 0 ≤ mo ∧ mo ≤ 1000) (ht : TbR w [] bt (j : Int) mo rm a n cap) : Calls Tryz.prog 105 #[.pointer (some ⟨bt, 0, none⟩)] w fun en w' => en = .returned (.int .i64 (mo / 2)) ∧ Below w.heap.size w w' := by
 refine enter (args := [_]) Tryz.func105 Tryz.ntmps105 rfl rfl (HS.refl w []) ?_
 iterate 10 refine aS ?_
 refine o_q (q_load_old rfl rfl sz_3 (ht 1 _ rfl)) rfl ?_
 refine o_p (p_quo_nn rfl rfl rfl (by omega) (by omega) (by omega)) rfl ?_
 iterate 2 refine aS ?_
 exact s_retv (rs := [.tmp 2]) rfl (.tmp rfl (.nil)) (fun w' h' => ⟨rfl, h'.below⟩)
theorem c118 (w : World) (bt : Nat) (j : Nat) (mo rm : Int) (a : Option Addr) (n cap : Nat) (i : Nat) (ht : TbR w [] bt (j : Int) mo rm a n cap) : Calls Tryz.prog 118 #[.pointer (some ⟨bt, 0, none⟩), .int .i64 (i : Int)] w fun en w' => en = .returned (.int .i64 (mostN mo rm i)) ∧ Below w.heap.size w w' := by
 refine enter (args := [_, _]) Tryz.func118 Tryz.ntmps118 rfl rfl (HS.refl w []) ?_
 iterate 10 refine aS ?_
 refine s_cond rfl (fun h1 => ?_) fun h1 => ?_
 ·try simp only [decide_eq_true_eq] at h1
  obtain rfl : i = 0 := by have hq := h1; omega
  iterate 6 refine aS ?_
  refine o_q (q_load_old rfl rfl sz_3 (ht 2 _ rfl)) rfl ?_
  iterate 2 refine aS ?_
  exact s_retv (rs := [.tmp 4]) rfl (.tmp rfl (.nil)) (fun w' h' => ⟨by rfl, h'.below⟩)
 try simp only [decide_eq_false_iff_not] at h1
 have hn0 : ¬ i = 0 := by have hq := h1; omega
 iterate 7 refine aS ?_
 refine o_q (q_load_old rfl rfl sz_3 (ht 1 _ rfl)) rfl ?_
 iterate 2 refine aS ?_
 exact s_retv (rs := [.tmp 4]) rfl (.tmp rfl (.nil)) (fun w' h' => ⟨by simp only [retV, mostN]; rw [if_neg hn0], h'.below⟩)
theorem c119 (w : World) (c0 : Nat) (k : Int) (x : TEnt) (bt : Nat) (j : Nat) (mo rm : Int) (a : Option Addr) (n cap : Nat) (hj : j ≤ 3) (hx : x.key.length ≤ 1000000) (hc0 : Rd w [] c0 0 (.pointer (some ⟨bt, 0, none⟩))) (ht : TbR w [] bt (j : Int) mo rm a n cap) : Calls Tryz.prog 119 #[.int .i64 k, .agg #[.string (bs x.key), .string (bs x.val)], .pointer (some ⟨c0, 0, none⟩)] w fun en w' => en = .returned (.int .i64 (entE (j : Int) x)) ∧ Below w.heap.size w w' := by
 refine enter (args := [_, _, _]) Tryz.func119 Tryz.ntmps119 rfl rfl (HS.refl w []) ?_
 iterate 2 refine aS ?_
 refine oBx fun b1 _ => ?_
 iterate 3 refine aS ?_
 refine s_draw [] mixed ?_
 refine d_q 0 [] rfl (q_load_old rfl rfl sz_103 (hc0)) (by kernel_rfl) (by kernel_rfl) (by kernel_rfl) rfl ?_
 refine dP 1 ?_
 refine dFa 2 ?_
 refine dFa 3 ?_
 refine d_q 4 [] rfl (q_load_old rfl rfl sz_3 (ht 0 _ rfl)) (by kernel_rfl) (by kernel_rfl) (by kernel_rfl) rfl ?_
 refine dLn 5 [] ?_
 refine d_q 6 [] rfl (q_call rfl fn_91 rfl (fun w1 h1 => c91 w1 j x hj hx)) (by kernel_rfl) (by kernel_rfl) (by kernel_rfl) rfl ?_
 refine dP 7 ?_
 refine dNi ?_
 exact s_retv (rs := [.tmp 5]) rfl (.tmp rfl (.nil)) (fun w' h' => ⟨rfl, h'.below⟩)
theorem c122 (w : World) (c0 c7 : Nat) (k : Nat) (us : Bool) (ea : Option Addr) (ec : Nat) (es : List TEnt) (kids : Value) (bt : Nat) (j : Nat) (mo rm : Int) (a : Option Addr) (n cap : Nat) (hj : j ≤ 3) (hk : k < es.length) (hl : es.length ≤ 1000000) (hx : ∀ x ∈ es, keyOk (j : Int) x.key = true ∧ x.key.length ≤ 1000000) (hc0 : Rd w [] c0 0 (.pointer (some ⟨bt, 0, none⟩))) (hc7 : Rd w [] c7 1 (.slice ea es.length ec)) (hes : Rw TEnt.vals 2 w [] ea es) (ht : TbR w [] bt (j : Int) mo rm a n cap) : Calls Tryz.prog 122 #[.int .i64 (k : Int), .agg #[.string (bs (nth es k).key), .string (bs (nth es k).val)], .pointer (some ⟨c0, 0, none⟩), .pointer (some ⟨c7, 0, none⟩)] w fun en w' => en = .returned (.int .i64 (ordE (j : Int) es k)) ∧ Below w.heap.size w w' := by
 refine enter (args := [_, _, _, _]) Tryz.func122 Tryz.ntmps122 rfl rfl (HS.refl w []) ?_
 iterate 2 refine aS ?_
 refine oBx fun b1 _ => ?_
 iterate 3 refine aS ?_
 refine s_draw [] mixed ?_
 refine dP 0 ?_
 refine dP 1 ?_
 refine dP 2 ?_
 apply d_split 9
 ·exact rfl
 ·intro hg2
  have hs3 := hg2; try simp only [decide_eq_true_eq] at hs3
  refine dOf 3 9 hg2 ?_
  refine dOf 4 9 hg2 ?_
  refine dOf 5 9 hg2 ?_
  refine dOf 6 9 hg2 ?_
  refine dOf 7 9 hg2 ?_
  refine dOf 8 9 hg2 ?_
  refine dOf 9 9 hg2 ?_
  refine dOf 10 9 hg2 ?_
  refine dOf 11 9 hg2 ?_
  refine dOf 12 9 hg2 ?_
  refine dOf 13 9 hg2 ?_
  refine dOf 14 9 hg2 ?_
  refine dOf 15 9 hg2 ?_
  refine dOf 16 9 hg2 ?_
  refine dOf 17 9 hg2 ?_
  refine dOf 18 9 hg2 ?_
  refine dOf 19 9 hg2 ?_
  refine d_p 20 rfl (p_pickt rfl rfl hg2 rfl) (by kernel_rfl) rfl rfl ?_
  refine d_q 21 [] rfl (q_call rfl fn_81 rfl (fun w1 h1 => c81 w1 _ _)) (by kernel_rfl) (by kernel_rfl) (by kernel_rfl) rfl ?_
  refine dP 22 ?_
  refine dNi ?_
  exact s_retv (rs := [.tmp 6]) rfl (.tmp rfl (.nil)) (fun w' h' => ⟨by simp only [retV, ordE]; first | (split <;> simp_all <;> done) | (simp_all; done) | (grind), h'.below⟩)
 intro hg4
 have hs5 := hg4; try simp only [decide_eq_false_iff_not] at hs5
 refine d_qon 3 9 [] rfl rfl rfl hg4 (q_load_old rfl rfl sz_103 (hc0)) (by kernel_rfl) (by kernel_rfl) (by kernel_rfl) rfl ?_
 refine dPo 4 9 hg4 ?_
 refine dFo 5 9 hg4 ?_
 refine dFo 6 9 hg4 ?_
 refine d_qon 7 9 [] rfl rfl rfl hg4 (q_load_old rfl rfl sz_108 (ht 5 _ rfl)) (by kernel_rfl) (by kernel_rfl) (by kernel_rfl) rfl ?_
 refine dFo 8 9 hg4 ?_
 refine d_qon 9 9 [] rfl rfl rfl hg4 (q_load_old rfl rfl sz_77 (hc7)) (by kernel_rfl) (by kernel_rfl) (by kernel_rfl) rfl ?_
 refine dPo 10 9 hg4 ?_
 refine dPo 11 9 hg4 ?_
 try refine dWr ?_
 refine d_pon 12 9 rfl rfl rfl hg4 (p_max2 rfl rfl rfl ) (by kernel_rfl) rfl rfl ?_
 refine d_pon 13 9 rfl rfl rfl hg4 (p_indexAddr rfl rfl rfl sl_77 (k - 1) (by omega) (by omega) (Rw.some hes (by omega))) (by kernel_rfl) rfl rfl ?_
 refine dFo 14 9 hg4 ?_
 refine d_qon 15 9 [] rfl rfl rfl hg4 (q_load_old rfl rfl sz_9 ((hes.rdj (i := k - 1) 0 (by omega) rfl))) (by kernel_rfl) (by kernel_rfl) (by kernel_rfl) rfl ?_
 refine dFo 16 9 hg4 ?_
 refine d_qon 17 9 [] rfl rfl rfl hg4 (q_load rfl rfl sz_9 aPk rfl) (by kernel_rfl) (by kernel_rfl) (by kernel_rfl) rfl ?_
 refine d_qon 18 9 [] rfl rfl rfl hg4 (q_callv rfl rfl (cmp_fn _) rfl (fun w1 h1 => cmp_calls w1 j (nth es (k - 1)).key (nth es k).key hj (hx _ (mem_nth (by omega))).1 (hx _ (mem_nth hk)).1 (hx _ (mem_nth (by omega))).2 (hx _ (mem_nth hk)).2)) (by kernel_rfl) (by kernel_rfl) (by kernel_rfl) rfl ?_
 refine dPo 19 9 hg4 ?_
 refine d_p 20 rfl (p_pickf rfl rfl hg4 rfl) (by kernel_rfl) rfl rfl ?_
 refine d_q 21 [] rfl (q_call rfl fn_81 rfl (fun w1 h1 => c81 w1 _ _)) (by kernel_rfl) (by kernel_rfl) (by kernel_rfl) rfl ?_
 refine dP 22 ?_
 refine dNi ?_
 exact s_retv (rs := [.tmp 6]) rfl (.tmp rfl (.nil)) (fun w' h' => ⟨by simp only [retV, ordE]; first | (split <;> simp_all <;> done) | (simp_all; done) | (grind), h'.below⟩)
theorem ki_191 : tki Tryz.prog 191 = some .u64 := by kernel_rfl
instance : TFd Tryz.prog 24 3 3 22 := ⟨by kernel_rfl⟩
theorem sz_22 : tsz Tryz.prog 22 = some (1, false) := by kernel_rfl
instance : TSz Tryz.prog 22 1 false := ⟨sz_22⟩
theorem fn_138 : isFn Tryz.prog 138 = true := by kernel_rfl
theorem sl_30 : tsl Tryz.prog 30 = some (3, 1, 8) := by kernel_rfl
theorem zr_3 : tzero Tryz.prog 3 = some [.int .i64 0] := by kernel_rfl
theorem fn_102 : isFn Tryz.prog 102 = true := by kernel_rfl
instance : TFd Tryz.prog 102 2 2 30 := ⟨by kernel_rfl⟩
theorem sz_30 : tsz Tryz.prog 30 = some (1, false) := by kernel_rfl
instance : TSz Tryz.prog 30 1 false := ⟨sz_30⟩
theorem c138 (w : World) (a : Option Addr) (cap : Nat) (l : List TEnt) (q : Nat) (cv : Array Value) (cs : List Int) (key : List UInt8) (hs : Rw TEnt.vals 2 w [] a l) (hm : l.length ≤ 1000000) (hq : isFn Tryz.prog q = true) (hb : cs.length = l.length) (hc : ∀ k w1, k < l.length → HS w [] [] w1 → Calls Tryz.prog q (#[] ++ [.agg (TEnt.vals (nth l k)).toArray, .string (bs key)].toArray ++ cv) w1 fun en w2 => en = .returned (.int .i64 (cs.getD k 0)) ∧ Below w1.heap.size w1 w2) : Calls Tryz.prog 138 #[.slice a l.length cap, .string (bs key), .func (.func q) #[] cv] w fun en w' => en = .returned (.tuple #[.int .i64 (bsL cs : Int), .bool (bsF' cs)]) ∧ Below w.heap.size w w' := by
 refine enter (args := [_, _, _]) Tryz.func138 Tryz.ntmps138 rfl rfl (HS.refl w []) ?_
 iterate 19 refine aS ?_
 refine s_loopI (α := Nat × Nat × Nat) [9, 10, 11, 15, 16, 17, 18, 19, 20, 21, 22, 23, 24, 25, 26, 27, 28, 29, 30, 31, 32, 33, 34] (fun x => [(9, .int .i64 (x.2.1 : Int)), (10, .int .i64 (x.2.2 : Int))]) (fun _ => _) (fun x => x.2.1 ≤ x.2.2 ∧ x.2.2 ≤ l.length ∧ x.2.2 - x.2.1 ≤ x.1 ∧ bsC cs x.1 x.2.1 x.2.2 = bsL cs) (fun x => x.1) (l.length, 0, l.length) ⟨by simp, by simp, by simp, by rw [← hb]; rfl⟩ aSx (fun w h => h.ent aEt) (fun ⟨m, lo, hi⟩ hx => ?_)
 dsimp only
 obtain ⟨hx1, hx2, hx3, hx4⟩ := hx
 simp only [] at hx1 hx2 hx3 hx4
 iterate 7 refine aS ?_
 refine s_cond rfl (fun h1 => ?_) fun h1 => ?_
 ·try simp only [decide_eq_true_eq] at h1
  iterate 7 refine aS ?_
  try refine oWr ?_
  refine o_p (p_conv_int rfl rfl ki_3 ki_191) rfl ?_
  rw [show IntKind.u64.wrap ((lo : Int) + (hi : Int)) = ((lo + hi : Nat) : Int) from u64w32 _ (by omega)]
  refine o_p (p_shr rfl rfl rfl (by decide) 1 rfl) rfl ?_
  refine o_p (p_conv_int rfl rfl ki_191 ki_3) rfl ?_
  try refine oWr ?_
  refine o_slot (show _ = Value.int .i64 (((lo + hi) / 2 : Nat) : Int) from by congr 1) ?_
  obtain ⟨q2, hq1, hq2⟩ := bsC_step (cs := cs) (show lo < hi by omega) hx3
  iterate 7 refine aS ?_
  refine o_p (p_indexAddr rfl rfl rfl sl_77 ((lo + hi) / 2) (by omega) (by omega) (Rw.some hs (by omega))) rfl ?_
  refine o_q (q_load_oldn _ rfl rfl sz_26 rfl (Rw.rd hs (i := (lo + hi) / 2) (by omega))) rfl ?_
  refine aS ?_
  refine o_q (q_callv rfl rfl hq rfl (fun w1 h1 => hc ((lo + hi) / 2) w1 (by omega) (h1.ent aEt))) rfl ?_
  iterate 2 refine aS ?_
  refine s_cond rfl (fun h2 => ?_) fun h2 => ?_
  ·try simp only [decide_eq_true_eq] at h2
   iterate 3 refine aS ?_
   try refine oWr ?_
   iterate 3 refine aS ?_
   exact s_backI (q2, (lo + hi) / 2 + 1, hi) (by (try simp only []); omega) ⟨by (try simp only []); omega, hx2, by (try simp only []); omega, by simp only []; rw [← hx4, hq2, if_pos h2]⟩ (by refine sl_c (congrArg (fun e => some (Value.int .i64 e)) (show (((lo + hi) / 2 : Nat) : Int) + 1 = (((lo + hi) / 2 + 1 : Nat) : Int) by omega)) ?_; repeat (first | exact sl_n | refine sl_c rfl ?_)) (fun w h => h.ent aEt)
  try simp only [decide_eq_false_iff_not] at h2
  iterate 5 refine aS ?_
  exact s_backI (q2, lo, (lo + hi) / 2) (by (try simp only []); omega) ⟨by (try simp only []); omega, by (try simp only []); omega, by (try simp only []); omega, by simp only []; rw [← hx4, hq2, if_neg h2]⟩ aSx (fun w h => h.ent aEt)
 try simp only [decide_eq_false_iff_not] at h1
 refine s_exit_to rfl ?_
 iterate 3 refine aS ?_
 have hlo : bsL cs = lo := by rw [← hx4, bsC_end _ _ _ _ (by omega)]
 iterate 4 refine aS ?_
 refine o_and 9 39 48 _ _ rfl
  (by
   intro hg3
   have hs4 := hg3; try simp only [decide_eq_true_eq] at hs4
   refine oOn 39 hg3 ?_
   refine aS ?_
   refine oOn 39 hg3 ?_
   refine aS ?_
   refine oOn 39 hg3 ?_
   refine aS ?_
   refine oOn 39 hg3 ?_
   refine o_p (p_indexAddr rfl rfl rfl sl_77 (lo) (by omega) (by omega) (Rw.some hs (by omega))) rfl ?_
   refine oOn 39 hg3 ?_
   refine o_q (q_load_oldn _ rfl rfl sz_26 rfl (Rw.rd hs (i := lo) (by omega))) rfl ?_
   refine oOn 39 hg3 ?_
   refine aS ?_
   refine oOn 39 hg3 ?_
   refine o_q (q_callv rfl rfl hq rfl (fun w1 h1 => hc lo w1 (by omega) (h1.ent aEt))) rfl ?_
   refine oOn 39 hg3 ?_
   refine aS ?_
   refine o_p (p_pickt rfl rfl hg3 rfl) rfl ?_
   refine aS ?_
   exact oJn 9 48)
  (by
   intro hg5
   have hs6 := hg5; try simp only [decide_eq_false_iff_not] at hs6
   refine oOf 39 hg5 ?_
   refine oOf 39 hg5 ?_
   refine oOf 39 hg5 ?_
   refine oOf 39 hg5 ?_
   refine oOf 39 hg5 ?_
   refine oOf 39 hg5 ?_
   refine oOf 39 hg5 ?_
   refine oOf 39 hg5 ?_
   refine o_p (p_pickf rfl rfl hg5 rfl) rfl ?_
   refine aS ?_
   exact oJn 9 48) ?_
 iterate 3 refine aS ?_
 exact s_retv (rs := [.tmp 6, .tmp 7]) rfl (.tmp rfl (.tmp rfl (.nil))) (fun w' h' => ⟨by simp only [retV, bsF', hlo]; first | (rw [hb]; simp; done) | (have : ¬ lo < cs.length := (by omega); simp [this]; done) | (have : lo < cs.length := (by omega); simp [this]; done) | (have : lo < cs.length := (by omega); have hl9 : lo < l.length := (by omega); simp only [this, hl9, decide_true, Bool.true_and, Bool.and_true]; rfl) | (have : lo < cs.length := (by omega); have hl9 : lo < l.length := (by omega); simp [this, hl9]), h'.below⟩)
theorem c139 (w : World) (c0 : Nat) (x : TEnt) (key : List UInt8) (bt : Nat) (j : Nat) (mo rm : Int) (a : Option Addr) (n cap : Nat) (hj : j ≤ 3) (hx : keyOk (j : Int) x.key = true) (hk : keyOk (j : Int) key = true) (hxl : x.key.length ≤ 1000000) (hkl : key.length ≤ 1000000) (hc0 : Rd w [] c0 0 (.pointer (some ⟨bt, 0, none⟩))) (ht : TbR w [] bt (j : Int) mo rm a n cap) : Calls Tryz.prog 139 #[.agg #[.string (bs x.key), .string (bs x.val)], .string (bs key), .pointer (some ⟨c0, 0, none⟩)] w fun en w' => en = .returned (.int .i64 (cmpK (j : Int) x.key key)) ∧ Below w.heap.size w w' := by
 refine enter (args := [_, _, _]) Tryz.func139 Tryz.ntmps139 rfl rfl (HS.refl w []) ?_
 iterate 2 refine aS ?_
 refine oBx fun b1 _ => ?_
 iterate 3 refine aS ?_
 refine s_draw [] mixed ?_
 refine d_q 0 [] rfl (q_load_old rfl rfl sz_103 (hc0)) (by kernel_rfl) (by kernel_rfl) (by kernel_rfl) rfl ?_
 refine dP 1 ?_
 refine dFa 2 ?_
 refine dFa 3 ?_
 refine d_q 4 [] rfl (q_load_old rfl rfl sz_108 (ht 5 _ rfl)) (by kernel_rfl) (by kernel_rfl) (by kernel_rfl) rfl ?_
 refine dFa 5 ?_
 refine dLd 6 [] ?_
 refine dP 7 ?_
 refine d_q 8 [] rfl (q_callv rfl rfl (cmp_fn _) rfl (fun w1 h1 => cmp_calls w1 j x.key key hj hx hk hxl hkl)) (by kernel_rfl) (by kernel_rfl) (by kernel_rfl) rfl ?_
 refine dP 9 ?_
 refine dNi ?_
 exact s_retv (rs := [.tmp 5]) rfl (.tmp rfl (.nil)) (fun w' h' => ⟨rfl, h'.below⟩)
theorem c102 (w : World) (bt : Nat) (j : Nat) (mo rm : Int) (a : Option Addr) (cap : Nat) (L : List LNd) (key : List UInt8) (i : Nat) (hj : j ≤ 3) (hi : i < L.length) (hl : L.length ≤ 1000) (hel : (nth L i).es.length ≤ 1000) (hK : ∀ i, i < L.length → ∀ x ∈ (nth L i).es, keyOk (j : Int) x.key = true ∧ x.key.length ≤ 1000000) (hk : keyOk (j : Int) key = true) (hkl : key.length ≤ 1000000) (hasc : Asc (j : Int) (nth L i).es) (hs : Nt w [] a L) (ht : TbR w [] bt (j : Int) mo rm a L.length cap) : Calls Tryz.prog 102 #[.pointer (some ⟨bt, 0, none⟩), .int .i64 (i : Int), .string (bs key)] w fun en w' => en = .returned (.tuple #[.int .i64 (plc (j : Int) (nth L i).es key : Int), .bool (fnd (j : Int) (nth L i).es key)]) ∧ Below w.heap.size w w' := by
 refine enter (args := [_, _, _]) Tryz.func102 Tryz.ntmps102 rfl rfl (HS.refl w []) ?_
 iterate 2 refine aS ?_
 refine oBx fun b1 _ => ?_
 iterate 9 refine aS ?_
 refine o_q (q_load_old rfl rfl sz_22 (ht 3 _ rfl)) rfl ?_
 refine aS ?_
 refine o_p (p_indexAddr rfl rfl rfl sl_22 (i) (by omega) (by omega) (Rw.some hs.1 (by omega))) rfl ?_
 refine aS ?_
 refine o_q (q_load_old rfl rfl sz_77 ((hs.1.rdj 1 hi rfl))) rfl ?_
 iterate 2 refine aS ?_
 refine o_q (q_call rfl fn_138 rfl (fun w1 h1 => by have h9 := c138 w1 (nth L i).ea (nth L i).ec (nth L i).es 139 #[.pointer (some ⟨b1, 0, none⟩)] (cmpsK (j : Int) (nth L i).es key) key ((hs.es hi).later h1) (by omega) (by kernel_rfl) (cmpsK_len _ _ _) (fun k w2 hk9 h2 => by rw [cmpsK_get hk9]; exact c139 w2 b1 (nth (nth L i).es k) key bt j mo rm a L.length cap hj (hK i hi _ (mem_nth hk9)).1 hk (hK i hi _ (mem_nth hk9)).2 hkl ((h1.rd_blk (Mc := []) aPk rfl (by simp)).next h2) ((ht.next h1).next h2)); rw [plc_bs hasc, fnd_bs hasc] at h9; exact h9)) rfl ?_
 iterate 5 refine aS ?_
 exact s_retv (rs := [.tmp 6, .tmp 7]) rfl (.tmp rfl (.tmp rfl (.nil))) (fun w' h' => ⟨rfl, h'.below⟩)
theorem pthN_step {co : Int} {ns : List Nd} {key : List UInt8} {f i : Nat} (h : ¬ (fnd co (nth ns i).es key = true ∨ (nth ns i).cs.length = 0)) : pthN co ns key (f + 1) i = (i :: (pthN co ns key f ((nth ns i).cs.getD (plc co (nth ns i).es key) 0).toNat).1, (pthN co ns key f ((nth ns i).cs.getD (plc co (nth ns i).es key) 0).toNat).2) := by
  rw [pthN, if_neg h]
theorem pthN_stop {co : Int} {ns : List Nd} {key : List UInt8} {f i : Nat} (h : fnd co (nth ns i).es key = true ∨ (nth ns i).cs.length = 0) : pthN co ns key (f + 1) i = ([i], plc co (nth ns i).es key, fnd co (nth ns i).es key) := by
  rw [pthN, if_pos h]
theorem inV_map (l : List Nat) : (l.map fun i : Nat => (i : Int)).flatMap inV = l.map fun i : Nat => Value.int .i64 (i : Int) := by
  induction l with
  | nil => rfl
  | cons x l ih =>
    rw [List.map_cons, List.flatMap_cons, List.map_cons, ih]
    rfl
theorem c68 (w : World) (bt : Nat) (j : Nat) (mo rm : Int) (a : Option Addr) (cap : Nat) (L : List LNd) (key : List UInt8) (hj : j ≤ 3) (h0 : 0 < L.length) (hB : Bd (pln L)) (hT : TOk (j : Int) (pln L)) (hK : ∀ i, i < L.length → ∀ x ∈ (nth L i).es, keyOk (j : Int) x.key = true ∧ x.key.length ≤ 1000000) (hk : keyOk (j : Int) key = true) (hkl : key.length ≤ 1000000) (hs : Nt w [] a L) (ht : TbR w [] bt (j : Int) mo rm a L.length cap) : Calls Tryz.prog 68 #[.pointer (some ⟨bt, 0, none⟩), .string (bs key)] w fun en w' => ∃ g : Option Addr × Nat, en = .returned (.tuple #[.slice g.1 (pathN (j : Int) (pln L) key).1.length g.2, .int .i64 ((pathN (j : Int) (pln L) key).2.1 : Int), .bool (pathN (j : Int) (pln L) key).2.2]) ∧ True ∧ HS w [] [.kids g.1 g.2 ((pathN (j : Int) (pln L) key).1.map fun i : Nat => (i : Int))] w' := by
 refine enter (args := [_, _]) Tryz.func68 Tryz.ntmps68 rfl rfl (HS.refl w []) ?_
 iterate 11 refine aS ?_
 refine s_loopI (α := (Option Addr × Nat) × List Nat × Nat × Nat) [4, 5, 6, 7, 8, 9, 10, 11, 12, 13, 14, 15, 16, 17, 18, 19, 20, 21, 22, 23, 24, 25, 26, 27, 28, 29, 30, 31, 32, 33, 34, 35, 36, 37, 38, 39, 40, 41, 42, 43, 44, 45, 46, 47] (fun x => [(4, .slice x.1.1 x.2.1.length x.1.2), (7, .int .i64 (x.2.2.1 : Int))]) (fun x => HS w [] [.own (.slice x.1.1 x.2.1.length x.1.2) 3 1 x.2.1.length (x.2.1.map fun i : Nat => Value.int .i64 (i : Int))]) (fun x => x.2.2.1 < L.length ∧ x.2.1.length + x.2.2.2 = L.length ∧ Gx.Way (pln L) (x.2.2.1 :: x.2.1.reverse) ∧ (pathN (j : Int) (pln L) key) = (x.2.1 ++ (pthN (j : Int) (pln L) key x.2.2.2 x.2.2.1).1, (pthN (j : Int) (pln L) key x.2.2.2 x.2.2.1).2)) (fun x => x.2.2.2) ((none, 0), [], 0, L.length) ⟨h0, by simp, rfl, by rw [pathN, pln_len]; rfl⟩ aSx (fun w h => (h.own_nil 3 1).ent aEt) (fun ⟨⟨ga, gc⟩, P, i, f⟩ hx => ?_)
 dsimp only
 obtain ⟨hi, hlen, hway, hpath⟩ := hx
 simp only [] at hi hlen hway hpath
 have hwl := way_len hT (by rw [pln_len]; exact h0) hway
 simp only [List.length_cons, List.length_reverse, pln_len] at hwl
 obtain ⟨f, rfl⟩ : ∃ f9, f = f9 + 1 := ⟨f - 1, by omega⟩
 have hni := pln_nth hi
 have hle := hB.len
 rw [pln_len] at hle
 have hes9 := hB.es i (by rw [pln_len]; exact hi)
 have hcs9 := hB.cs i (by rw [pln_len]; exact hi)
 rw [hni] at hes9 hcs9
 have hasc := hT.asc i (by rw [pln_len]; exact hi)
 rw [hni] at hasc
 iterate 5 refine aS ?_
 refine o_h (h_buildSlice (cs := [_]) rfl rfl sl_30 zr_3 rfl rfl rfl) rfl (fun b1 _ => ?_)
 refine o_h (h_appendS [_] rfl rfl rfl sl_30 Tryz.underlying30 zr_3 rfl aPk (src_blk aPk) rfl (by intro u hu; simp only [List.mem_cons, List.mem_nil_iff, or_false] at hu; subst hu; rfl) (by omega) (by simp only [maxLen]; omega)) rfl (fun b2 _ => ?_)
 iterate 7 refine aS ?_
 refine o_q (q_call rfl fn_102 rfl (fun w1 h1 => c102 w1 bt j mo rm a cap L key i hj hi (by omega) hes9 hK hk hkl hasc (hs.later h1.nil) (ht.next h1.nil))) rfl ?_
 iterate 11 refine aS ?_
 refine o_or 12 20 32 _ _ rfl
  (by
   intro hg3
   have hs4 := hg3; skip
   refine oOn 20 hg3 ?_
   refine aS ?_
   refine oOn 20 hg3 ?_
   refine aS ?_
   refine oOn 20 hg3 ?_
   refine aS ?_
   refine oOn 20 hg3 ?_
   refine aS ?_
   refine oOn 20 hg3 ?_
   refine o_q (q_load_old rfl rfl sz_22 (ht 3 _ rfl)) rfl ?_
   refine oOn 20 hg3 ?_
   refine aS ?_
   refine oOn 20 hg3 ?_
   refine o_p (p_indexAddr rfl rfl rfl sl_22 (i) (by omega) (by omega) (Rw.some hs.1 (by omega))) rfl ?_
   refine oOn 20 hg3 ?_
   refine aS ?_
   refine oOn 20 hg3 ?_
   refine o_q (q_load_old rfl rfl sz_30 ((hs.1.rdj 2 hi rfl))) rfl ?_
   refine oOn 20 hg3 ?_
   refine aS ?_
   refine oOn 20 hg3 ?_
   refine aS ?_
   refine o_p (p_pickf rfl rfl hg3 rfl) rfl ?_
   refine aS ?_
   exact oJn 12 32)
  (by
   intro hg5
   have hs6 := hg5; skip
   refine oOf 20 hg5 ?_
   refine oOf 20 hg5 ?_
   refine oOf 20 hg5 ?_
   refine oOf 20 hg5 ?_
   refine oOf 20 hg5 ?_
   refine oOf 20 hg5 ?_
   refine oOf 20 hg5 ?_
   refine oOf 20 hg5 ?_
   refine oOf 20 hg5 ?_
   refine oOf 20 hg5 ?_
   refine oOf 20 hg5 ?_
   refine o_p (p_pickt rfl rfl hg5 rfl) rfl ?_
   refine aS ?_
   exact oJn 12 32) ?_
 refine aS ?_
 refine s_cond rfl (fun h7 => ?_) fun h7 => ?_
 ·try simp only [Bool.or_eq_true, decide_eq_true_eq] at h7
  have hst : fnd (j : Int) (nth (pln L) i).es key = true ∨ (nth (pln L) i).cs.length = 0 := by rw [hni]; have hq := h7; first | exact hq | (simp at hq; simpa [LNd.pl] using hq)
  iterate 9 refine aS ?_
  exact s_retv (rs := [.tmp 4, .tmp 5, .tmp 6]) rfl (.tmp rfl (.tmp rfl (.tmp rfl (.nil)))) (fun w' h' => ⟨(b2.1, b2.2), by rw [hpath, pthN_stop hst, hni]; simp [retV, LNd.pl], trivial, by rw [hpath, pthN_stop hst]; have h2 := h'; unfold HA.kids; rw [inV_map]; simp only [List.length_map, List.length_append, List.length_singleton, List.map_append, List.map_cons, List.map_nil]; exact h2.ent aEt⟩)
 try simp only [Bool.or_eq_false_iff, decide_eq_false_iff_not] at h7
 have hst : ¬ (fnd (j : Int) (nth (pln L) i).es key = true ∨ (nth (pln L) i).cs.length = 0) := by rw [hni]; have hq := h7; first | exact hq | (simp at hq; simpa [LNd.pl] using hq)
 have hcl : (nth L i).cs.length = (nth L i).es.length + 1 := by rcases hT.shape i (by rw [pln_len]; exact hi) with h9 | h9; exact absurd (.inr h9) hst; rw [hni] at h9; exact h9
 have hple := plc_le (j : Int) key (nth L i).es
 have hpk : plc (j : Int) (nth L i).es key < (nth L i).cs.length := by omega
 have hkid := kid_in hT (by rw [pln_len]; exact hi) (i := i) (k := plc (j : Int) (nth L i).es key) (by rw [hni]; exact hpk)
 rw [hni, pln_len] at hkid
 simp only [LNd.pl] at hkid
 have hway2 := way_kid hway (by rw [pln_len]; exact hi) (k := plc (j : Int) (nth L i).es key) (by rw [hni]; exact hpk) (by rw [hni]; simp only [LNd.pl]; omega)
 rw [hni] at hway2
 simp only [LNd.pl] at hway2
 iterate 6 refine aS ?_
 refine o_q (q_load_old rfl rfl sz_22 (ht 3 _ rfl)) rfl ?_
 refine aS ?_
 refine o_p (p_indexAddr rfl rfl rfl sl_22 (i) (by omega) (by omega) (Rw.some hs.1 (by omega))) rfl ?_
 refine aS ?_
 refine o_q (q_load_old rfl rfl sz_30 ((hs.1.rdj 2 hi rfl))) rfl ?_
 refine aS ?_
 refine o_p (p_indexAddr rfl rfl rfl sl_30 (plc (j : Int) (nth L i).es key) (by omega) (by omega) (Rw.some (hs.cs hi) (by omega))) rfl ?_
 refine o_q (q_load_old rfl rfl sz_3 (((hs.cs hi).rdj 0 (i := plc (j : Int) (nth L i).es key) hpk rfl))) rfl ?_
 iterate 3 refine aS ?_
 exact s_backI ((b2.1, b2.2), P ++ [i], ((nth L i).cs.getD (plc (j : Int) (nth L i).es key) 0).toNat, f) (by (try simp only []); omega) ⟨by simp only []; omega, by simp only [List.length_append, List.length_singleton]; omega, by simp only [List.reverse_append, List.reverse_singleton, List.singleton_append]; exact hway2, by simp only []; rw [hpath, pthN_step hst]; simp [hni, LNd.pl]⟩ (by simp only [List.length_append, List.length_singleton]; rw [Int.toNat_of_nonneg (by omega)]; exact aSx) (fun w h => by have h2 := h; simp only [List.length_append, List.length_singleton, List.map_append, List.map_cons, List.map_nil]; exact h2.ent aEt)
theorem fn_121 : isFn Tryz.prog 121 = true := by kernel_rfl
instance : TFd Tryz.prog 102 0 0 4 := ⟨by kernel_rfl⟩
theorem sz_4 : tsz Tryz.prog 4 = some (1, false) := by kernel_rfl
instance : TSz Tryz.prog 4 1 false := ⟨sz_4⟩
theorem sz_136 : tsz Tryz.prog 136 = some (1, false) := by kernel_rfl
theorem zv_4 : tzv Tryz.prog 4 = some (.bool false) := by kernel_rfl
abbrev KI : Int → Value := fun n => Value.int .i64 n
theorem insK_mem {ks : List Int} {c x : Int} : x ∈ insK' ks c ↔ x = c ∨ x ∈ ks := by
  unfold insK'
  split
  · rename_i h
    constructor
    · exact fun h1 => .inr h1
    · rintro (rfl | h1)
      · exact h
      · exact h1
  · rw [List.mem_append, List.mem_singleton]
    exact Or.comm
theorem c121 (w : World) (i c : Int) (c0 c5 r : Nat) (ks seen : List Int) (bt : Nat) (j : Nat) (mo rm : Int) (a : Option Addr) (cap : Nat) (L : List LNd) (hw : HS w (fps [.mp r KI ks]) [.mp r KI ks] w) (hst : ∀ x, x ∈ ks ↔ x ∈ seen) (hc0 : Rd w (fps [.mp r KI ks]) c0 0 (.pointer (some ⟨bt, 0, none⟩))) (hc5 : Rd w (fps [.mp r KI ks]) c5 0 (.map (some r))) (ht : TbR w (fps [.mp r KI ks]) bt (j : Int) mo rm a L.length cap) (hs : Nt w (fps [.mp r KI ks]) a L) (hl : L.length ≤ 1000) : Calls Tryz.prog 121 #[.int .i64 i, .int .i64 c, .pointer (some ⟨c0, 0, none⟩), .pointer (some ⟨c5, 0, none⟩)] w fun en w' => ∃ g : List Int, en = .returned (.int .i64 (kidE1 (pln L) c seen)) ∧ (∀ x, x ∈ g ↔ x ∈ (kidS1 (pln L) c seen)) ∧ HS w (fps [.mp r KI ks]) [.mp r KI g] w' := by
 refine enter (args := [_, _, _, _]) Tryz.func121 Tryz.ntmps121 rfl rfl hw ?_
 iterate 8 refine aS ?_
 refine o_q (q_load_old rfl rfl sz_103 (hc0)) rfl ?_
 iterate 3 refine aS ?_
 refine o_q (q_load_old rfl rfl sz_22 (ht 3 _ rfl)) rfl ?_
 iterate 2 refine aS ?_
 try refine oWr ?_
 refine o_q (q_call rfl fn_93 rfl (fun w1 h1 => c93 w1 _ _ _)) rfl ?_
 iterate 2 refine aS ?_
 refine o_or 11 18 29 _ _ rfl
  (by
   intro hg1
   have hs2 := hg1; try simp only [Bool.not_eq_false', Bool.and_eq_true, decide_eq_true_eq] at hs2
   refine oOn 18 hg1 ?_
   refine o_q (q_load_old rfl rfl sz_103 (hc0)) rfl ?_
   refine oOn 18 hg1 ?_
   refine aS ?_
   refine oOn 18 hg1 ?_
   refine aS ?_
   refine oOn 18 hg1 ?_
   refine aS ?_
   refine oOn 18 hg1 ?_
   refine o_q (q_load_old rfl rfl sz_22 (ht 3 _ rfl)) rfl ?_
   refine oOn 18 hg1 ?_
   refine aS ?_
   refine oOn 18 hg1 ?_
   refine o_p (p_indexAddr rfl rfl rfl sl_22 c.toNat (by omega) (by omega) (Rw.some hs.1 (by omega))) rfl ?_
   refine oOn 18 hg1 ?_
   refine aS ?_
   refine oOn 18 hg1 ?_
   refine o_q (q_load_old rfl rfl sz_4 ((hs.1.rdj 0 (i := c.toNat) (by omega) rfl))) rfl ?_
   refine oOn 18 hg1 ?_
   refine aS ?_
   refine o_p (p_pickf rfl rfl hg1 rfl) rfl ?_
   refine aS ?_
   exact oJn 11 29)
  (by
   intro hg3
   have hs4 := hg3; try simp only [Bool.not_eq_true', Bool.and_eq_false_iff, decide_eq_false_iff_not] at hs4
   refine oOf 18 hg3 ?_
   refine oOf 18 hg3 ?_
   refine oOf 18 hg3 ?_
   refine oOf 18 hg3 ?_
   refine oOf 18 hg3 ?_
   refine oOf 18 hg3 ?_
   refine oOf 18 hg3 ?_
   refine oOf 18 hg3 ?_
   refine oOf 18 hg3 ?_
   refine oOf 18 hg3 ?_
   refine o_p (p_pickt rfl rfl hg3 rfl) rfl ?_
   refine aS ?_
   exact oJn 11 29) ?_
 refine aS ?_
 refine s_cond rfl (fun h5 => ?_) fun h5 => ?_
 ·try simp only [Bool.or_eq_true, Bool.not_eq_true', Bool.and_eq_false_iff, decide_eq_false_iff_not] at h5
  have hz : ¬ KidOk (pln L) c := by unfold KidOk; rw [pln_len]; intro h9; rw [pln_nth (by omega)] at h9; have hq := h5; simp [LNd.pl] at h9; rcases hq with hq | hq <;> simp_all <;> omega
  iterate 4 refine aS ?_
  exact s_retv (rs := [.tmp 6]) rfl (.tmp rfl (.nil)) (fun w' h' => ⟨ks, by unfold kidE1; rw [if_neg hz]; rfl, by unfold kidS1; rw [if_neg hz]; exact hst, h'.ent aEt⟩)
 try simp only [Bool.or_eq_false_iff, Bool.not_eq_false', Bool.and_eq_true, decide_eq_true_eq] at h5
 have hz : KidOk (pln L) c := by have hq := h5; have hq1 : 1 ≤ c ∧ c ≤ (L.length : Int) - 1 := (by first | omega | (simp at hq; omega)); unfold KidOk; rw [pln_len, pln_nth (by omega)]; exact ⟨hq1, by simp only [LNd.pl]; first | exact hq.2 | exact hq.2.2 | (simp at hq; first | exact hq.2 | exact hq.2.2)⟩
 iterate 3 refine aS ?_
 refine o_q (q_load_old rfl rfl sz_136 (hc5)) rfl ?_
 refine aS ?_
 refine o_q (q_lookup rfl rfl rfl Tryz.underlying136 zv_4 (key_int ki_3) aPk) rfl ?_
 refine aS ?_
 refine o_q (q_call rfl fn_81 rfl (fun w1 h1 => c81 w1 _ _)) rfl ?_
 iterate 4 refine aS ?_
 refine o_q (q_load_old rfl rfl sz_136 (hc5)) rfl ?_
 refine aS ?_
 refine o_h0 (h_mapUpdate (.inl rfl) rfl rfl rfl Tryz.underlying136 (key_int ki_3) aPt) (fun _ _ => ?_)
 iterate 6 refine aS ?_
 exact s_retv (rs := [.tmp 6]) rfl (.tmp rfl (.nil)) (fun w' h' => ⟨insK' ks c, by unfold kidE1; rw [if_pos hz]; simp only [retV]; by_cases h9 : c ∈ seen <;> simp [h9, (hst c)], by unfold kidS1; rw [if_pos hz]; intro x; rw [insK_mem, List.mem_cons, hst], h'.ent aEt⟩)
theorem c120 (w : World) (ca : Option Addr) (cc : Nat) (cs : List Int) (c0 c5 r : Nat) (ks seen : List Int) (bt : Nat) (j : Nat) (mo rm : Int) (a : Option Addr) (cap : Nat) (L : List LNd) (hw : HS w (fps [.mp r KI ks]) [.mp r KI ks] w) (hst : ∀ x, x ∈ ks ↔ x ∈ seen) (hc0 : Rd w (fps [.mp r KI ks]) c0 0 (.pointer (some ⟨bt, 0, none⟩))) (hc5 : Rd w (fps [.mp r KI ks]) c5 0 (.map (some r))) (ht : TbR w (fps [.mp r KI ks]) bt (j : Int) mo rm a L.length cap) (hs : Nt w (fps [.mp r KI ks]) a L) (hl : L.length ≤ 1000) (hcs : Rw inV 1 w (fps [.mp r KI ks]) ca cs) (hcl : cs.length ≤ 1000) : Calls Tryz.prog 120 #[.slice ca cs.length cc, .func (.func 121) #[] #[.pointer (some ⟨c0, 0, none⟩), .pointer (some ⟨c5, 0, none⟩)]] w fun en w' => ∃ g : Int × List Int, en = .returned (.tuple #[.int .i64 g.1, .int .i64 (kidsE (pln L) cs seen).1]) ∧ (∀ x, x ∈ g.2 ↔ x ∈ (kidsE (pln L) cs seen).2) ∧ HS w (fps [.mp r KI ks]) [.mp r KI g.2] w' := by
 refine enter (args := [_, _]) Tryz.func120 Tryz.ntmps120 rfl rfl hw ?_
 iterate 13 refine aS ?_
 refine s_loopI (α := Nat × List Int × List Int) [4, 5, 6, 7, 8, 11, 12, 13, 14, 15, 16, 17, 18, 19, 20, 21, 22, 23, 24] (fun x => [(11, .int .i64 (x.1 : Int))]) (fun x => HS w (fps [.mp r KI ks]) [.mp r KI x.2.1]) (fun x => x.1 ≤ cs.length ∧ (∀ y, y ∈ x.2.1 ↔ y ∈ x.2.2) ∧ (kidsE (pln L) cs seen) = kidsE (pln L) (cs.drop x.1) x.2.2) (fun x => cs.length - x.1) (0, ks, seen) ⟨Nat.zero_le _, hst, rfl⟩ aSx (fun w h => h.ent aEt) (fun ⟨k, K, S9⟩ hx => ?_)
 dsimp only
 obtain ⟨hk1, hk2, hk3⟩ := hx
 simp only [] at hk1 hk2 hk3
 iterate 5 refine aS ?_
 refine s_cond rfl (fun h1 => ?_) fun h1 => ?_
 ·try simp only [decide_eq_true_eq] at h1
  have hkl : k < cs.length := by omega
  iterate 6 refine aS ?_
  refine o_p (p_indexAddr rfl rfl rfl sl_30 (k) (by omega) (by omega) (Rw.some hcs (by omega))) rfl ?_
  refine o_q (q_load_old rfl rfl sz_3 ((hcs.rdj 0 (i := k) (by omega) rfl))) rfl ?_
  iterate 8 refine aS ?_
  refine o_h (h_callvF (Cs := [.mp r KI K]) rfl rfl fn_121 rfl aPs (fun w1 h1 hf => c121 w1 (k : Int) (cs.getD k 0) c0 c5 r K S9 bt j mo rm a cap L hf hk2 (h1.keep hc0) (h1.keep hc5) (ht.keep h1) (hs.keep h1) hl)) rfl (fun b2 hkG => ?_)
  have hkg := hkG
  iterate 7 refine aS ?_
  refine s_cond rfl (fun h3 => ?_) fun h3 => ?_
  ·try simp only [Bool.not_eq_true', decide_eq_false_iff_not] at h3
   iterate 7 refine aS ?_
   exact s_retv (rs := [.tmp 4, .tmp 5]) rfl (.tmp rfl (.tmp rfl (.nil))) (fun w' h' => ⟨((k : Int), b2), by rw [hk3, kids_drop hkl, kidsE_cons, if_neg h3]; rfl, by rw [hk3, kids_drop hkl, kidsE_cons, if_neg h3]; exact hkG, h'.ent aEt⟩)
  try simp only [Bool.not_eq_false', decide_eq_true_eq] at h3
  iterate 4 refine aS ?_
  try refine oWr ?_
  iterate 2 refine aS ?_
  exact s_backI (k + 1, b2, kidS1 (pln L) (cs.getD k 0) S9) (by (try simp only []); omega) ⟨by (try simp only []); omega, hkg, by simp only []; rw [hk3, kids_drop hkl, kidsE_cons, if_pos h3]⟩ aSx (fun w h => h.ent aEt)
 try simp only [decide_eq_false_iff_not] at h1
 refine s_exit_to rfl ?_
 iterate 5 refine aS ?_
 exact s_retv (rs := [.tmp 4, .tmp 5]) rfl (.tmp rfl (.tmp rfl (.nil))) (fun w' h' => ⟨(0, K), by rw [hk3, List.drop_of_length_le (by omega)]; rfl, by rw [hk3, List.drop_of_length_le (by omega)]; exact hk2, h'.ent aEt⟩)
theorem sz_102 : tsz Tryz.prog 102 = some (3, true) := by kernel_rfl
instance : TSz Tryz.prog 102 3 true := ⟨sz_102⟩
theorem fn_118 : isFn Tryz.prog 118 = true := by kernel_rfl
theorem fn_89 : isFn Tryz.prog 89 = true := by kernel_rfl
theorem fn_120 : isFn Tryz.prog 120 = true := by kernel_rfl
theorem nE1_a {t : Tre} {i : Nat} {es : List TEnt} {cs : List Int} (h : nth t.ns i = ⟨true, es, cs⟩) (b : Bool) (hb : b = true ↔ (cs.length = 0 ∨ cs.length = es.length + 1)) : (if (bif decide ((es.length : Int) ≤ mostN t.mo t.rm i) then (0 : Int) else 16) = 0 then (bif b then (0 : Int) else 10) else (bif decide ((es.length : Int) ≤ mostN t.mo t.rm i) then (0 : Int) else 16)) = nE1 t i := by
  unfold nE1
  rw [h]
  by_cases h1 : (es.length : Int) ≤ mostN t.mo t.rm i
  · rw [decide_eq_true h1, if_pos h1]
    by_cases h2 : cs.length = 0 ∨ cs.length = es.length + 1
    · rw [if_pos h2, hb.2 h2]
      rfl
    · rw [if_neg h2, show b = false by cases b; rfl; exact absurd (hb.1 rfl) h2]
      rfl
  · rw [decide_eq_false h1, if_neg h1]
    rfl
theorem c82 (w : World) (i r : Nat) (ks seen : List Int) (bt : Nat) (j : Nat) (mo rm : Int) (a : Option Addr) (cap : Nat) (L : List LNd) (hw : HS w (fps [.mp r KI ks]) [.mp r KI ks] w) (hst : ∀ x, x ∈ ks ↔ x ∈ seen) (ht : TbR w (fps [.mp r KI ks]) bt (j : Int) mo rm a L.length cap) (hs : Nt w (fps [.mp r KI ks]) a L) (hl : L.length ≤ 1000) (hj : j ≤ 3) (hi : i < L.length) (hel : (nth L i).es.length ≤ 1000) (hcl : (nth L i).cs.length ≤ 1000) (hkl : ∀ x ∈ (nth L i).es, x.key.length ≤ 1000000) : Calls Tryz.prog 82 #[.pointer (some ⟨bt, 0, none⟩), .int .i64 (i : Int), .map (some r)] w fun en w' => ∃ g : List Int, en = .returned (.int .i64 (nodE (⟨(j : Int), mo, rm, pln L⟩ : Tre) i seen).1) ∧ (∀ x, x ∈ g ↔ x ∈ (nodE (⟨(j : Int), mo, rm, pln L⟩ : Tre) i seen).2) ∧ HS w (fps [.mp r KI ks]) [.mp r KI g] w' := by
 have hn : nth (pln L) i = (nth L i).pl := pln_nth hi
 have hE2 : nE2 (⟨(j : Int), mo, rm, pln L⟩ : Tre) i = if nE1 (⟨(j : Int), mo, rm, pln L⟩ : Tre) i = 0 then (eachF ((nth L i).es.map (entE (j : Int))) 0).2 else nE1 (⟨(j : Int), mo, rm, pln L⟩ : Tre) i := by unfold nE2 entsE; rw [hn]; rfl
 have hE3 : nE3 (⟨(j : Int), mo, rm, pln L⟩ : Tre) i seen = if nE2 (⟨(j : Int), mo, rm, pln L⟩ : Tre) i = 0 then kidsE (pln L) (nth L i).cs seen else (nE2 (⟨(j : Int), mo, rm, pln L⟩ : Tre) i, seen) := by unfold nE3; rw [hn]; rfl
 have hE4 : nE4 (⟨(j : Int), mo, rm, pln L⟩ : Tre) i seen = if (nE3 (⟨(j : Int), mo, rm, pln L⟩ : Tre) i seen).1 = 0 then (eachF ((List.range (nth L i).es.length).map (ordE (j : Int) (nth L i).es)) 0).2 else (nE3 (⟨(j : Int), mo, rm, pln L⟩ : Tre) i seen).1 := by unfold nE4 ordsE; rw [hn]; rfl
 refine enter (args := [_, _, _]) Tryz.func82 Tryz.ntmps82 rfl rfl hw ?_
 iterate 2 refine aS ?_
 refine oBx fun b1 _ => ?_
 refine oBx fun b2 _ => ?_
 iterate 8 refine aS ?_
 refine o_q (q_load_old rfl rfl sz_22 (ht 3 _ rfl)) rfl ?_
 refine aS ?_
 refine o_p (p_indexAddr rfl rfl rfl sl_22 (i) (by omega) (by omega) (Rw.some hs.1 (by omega))) rfl ?_
 refine o_q (q_load_oldn _ rfl rfl sz_102 rfl (Rw.rd hs.1 hi)) rfl ?_
 refine oAl (fun b3 _ => ?_) zr_102
 refine oSt ?_
 iterate 8 refine aS ?_
 refine s_cond rfl (fun h4 => ?_) fun h4 => ?_
 ·try simp only [Bool.not_eq_true'] at h4
  have hu : (nth (pln L) i).us = false := by rw [hn]; have hq := h4; simpa [LNd.pl] using hq
  iterate 5 refine aS ?_
  refine o_and 10 22 32 _ _ rfl
   (by
    intro hg5
    have hs6 := hg5; try simp only [decide_eq_true_eq] at hs6
    refine oOn 22 hg5 ?_
    refine aS ?_
    refine oOn 22 hg5 ?_
    refine aS ?_
    refine oOn 22 hg5 ?_
    refine aS ?_
    refine oOn 22 hg5 ?_
    refine aS ?_
    refine oOn 22 hg5 ?_
    refine aS ?_
    refine oOn 22 hg5 ?_
    refine o_q (q_load_old rfl rfl sz_22 (ht 3 _ rfl)) rfl ?_
    refine oOn 22 hg5 ?_
    refine aS ?_
    refine oOn 22 hg5 ?_
    refine aS ?_
    try refine oWr ?_
    refine oOn 22 hg5 ?_
    refine aS ?_
    refine o_p (p_pickt rfl rfl hg5 rfl) rfl ?_
    refine aS ?_
    exact oJn 10 32)
   (by
    intro hg7
    have hs8 := hg7; try simp only [decide_eq_false_iff_not] at hs8
    refine oOf 22 hg7 ?_
    refine oOf 22 hg7 ?_
    refine oOf 22 hg7 ?_
    refine oOf 22 hg7 ?_
    refine oOf 22 hg7 ?_
    refine oOf 22 hg7 ?_
    refine oOf 22 hg7 ?_
    refine oOf 22 hg7 ?_
    refine oOf 22 hg7 ?_
    refine o_p (p_pickf rfl rfl hg7 rfl) rfl ?_
    refine aS ?_
    exact oJn 10 32) ?_
  refine aS ?_
  refine o_and 9 33 42 _ _ rfl
   (by
    intro hg9
    have hs10 := hg9; try simp only [Bool.and_eq_true, decide_eq_true_eq] at hs10
    refine oOn 33 hg9 ?_
    refine aS ?_
    refine oOn 33 hg9 ?_
    refine aS ?_
    refine oOn 33 hg9 ?_
    refine aS ?_
    refine oOn 33 hg9 ?_
    refine aS ?_
    refine oOn 33 hg9 ?_
    refine aS ?_
    refine oOn 33 hg9 ?_
    refine aS ?_
    refine oOn 33 hg9 ?_
    refine aS ?_
    try refine oWr ?_
    refine oOn 33 hg9 ?_
    refine aS ?_
    refine o_p (p_pickt rfl rfl hg9 rfl) rfl ?_
    refine aS ?_
    exact oJn 9 42)
   (by
    intro hg11
    have hs12 := hg11; try simp only [Bool.and_eq_false_iff, decide_eq_false_iff_not] at hs12
    refine oOf 33 hg11 ?_
    refine oOf 33 hg11 ?_
    refine oOf 33 hg11 ?_
    refine oOf 33 hg11 ?_
    refine oOf 33 hg11 ?_
    refine oOf 33 hg11 ?_
    refine oOf 33 hg11 ?_
    refine oOf 33 hg11 ?_
    refine o_p (p_pickf rfl rfl hg11 rfl) rfl ?_
    refine aS ?_
    exact oJn 9 42) ?_
  refine o_q (q_call rfl fn_81 rfl (fun w1 h1 => c81 w1 _ _)) rfl ?_
  iterate 2 refine aS ?_
  exact s_retv (rs := [.tmp 6]) rfl (.tmp rfl (.nil)) (fun w' h' => ⟨ks, by unfold nodE; simp only []; rw [if_neg (by rw [hu]; decide), hn]; simp only [retV, LNd.pl]; simp only [cond_eq_ite, Bool.and_eq_true, decide_eq_true_eq, pln_len]; (split <;> split <;> first | rfl | omega), by unfold nodE; simp only []; rw [if_neg (by rw [hu]; decide)]; split <;> exact hst, h'.ent aEt⟩)
 try simp only [Bool.not_eq_false'] at h4
 have hu : (nth (pln L) i).us = true := by rw [hn]; have hq := h4; simpa [LNd.pl] using hq
 have hN1 : nth ((⟨(j : Int), mo, rm, pln L⟩ : Tre)).ns i = ⟨true, (nth L i).es, (nth L i).cs⟩ := by show nth (pln L) i = _; rw [hn] at hu ⊢; simp only [LNd.pl] at hu ⊢; rw [hu]
 rw [nodE_used (⟨(j : Int), mo, rm, pln L⟩ : Tre) i hu]
 iterate 2 refine aS ?_
 refine s_weaken (L' := [(1, _), (3, _), (5, _), (6, _), (7, _)]) aSx (fun _ h => h) ?_
 refine s_cutI (α := Unit) [8, 44, 45, 46, 47, 48, 49, 50, 51, 52, 53, 54, 55, 56, 57, 58, 59, 60, 61, 62, 63, 64, 65, 66, 67, 68] (fun _ => [(8, .int .i64 (nE1 (⟨(j : Int), mo, rm, pln L⟩ : Tre) i))]) (fun _ => HS w (fps [.mp r KI ks]) [.blk b1 103 1 [.pointer (some ⟨bt, 0, none⟩)], .blk b2 136 1 [.map (some r)], .blk b3 102 3 (nth L i).vals, .mp r KI ks]) (fun _ => True) ?_ ?_
 ·skip
  refine s_draw [] mixed ?_
  refine dFa 0 ?_
  refine dLd 1 [] ?_
  refine d_p 2 rfl (p_len_slice rfl rfl Tryz.underlying77) (by kernel_rfl) rfl rfl ?_
  refine dLd 3 [] ?_
  refine dP 4 ?_
  refine d_q 5 [] rfl (q_call rfl fn_118 rfl (fun w1 h1 => c118 w1 bt j mo rm a L.length cap i (ht.next h1))) (by kernel_rfl) (by kernel_rfl) (by kernel_rfl) rfl ?_
  refine dP 6 ?_
  refine d_q 7 [] rfl (q_call rfl fn_81 rfl (fun w1 h1 => c81 w1 _ _)) (by kernel_rfl) (by kernel_rfl) (by kernel_rfl) rfl ?_
  refine dFa 8 ?_
  refine dLd 9 [] ?_
  refine d_p 10 rfl (p_len_slice rfl rfl Tryz.underlying30) (by kernel_rfl) rfl rfl ?_
  refine dP 11 ?_
  refine dP 12 ?_
  apply d_split 56
  ·exact rfl
  ·intro hg13
   have hs14 := hg13; try simp only [decide_eq_true_eq] at hs14
   refine dOf 13 56 hg13 ?_
   refine dOf 14 56 hg13 ?_
   refine dOf 15 56 hg13 ?_
   refine dOf 16 56 hg13 ?_
   refine dOf 17 56 hg13 ?_
   refine dOf 18 56 hg13 ?_
   refine dOf 19 56 hg13 ?_
   refine dOf 20 56 hg13 ?_
   refine d_p 21 rfl (p_pickt rfl rfl hg13 rfl) (by kernel_rfl) rfl rfl ?_
   refine d_q 22 [] rfl (q_call rfl fn_81 rfl (fun w1 h1 => c81 w1 _ _)) (by kernel_rfl) (by kernel_rfl) (by kernel_rfl) rfl ?_
   refine d_h 23 rfl (h_buildSlice (cs := [_, _]) rfl rfl sl_165 zr_31 rfl rfl rfl) (by kernel_rfl) (fun w h => h.ent aEt) rfl (fun b15 _ => ?_)
   refine dBa ?_
   refine d_q 24 [] rfl (q_call rfl fn_75 rfl (fun w1 h1 => f75 h1 aPk (by rfl) (by rfl) (by decide))) (by kernel_rfl) (by kernel_rfl) (by kernel_rfl) rfl ?_
   refine d_slot (show _ = Value.int .i64 (nE1 (⟨(j : Int), mo, rm, pln L⟩ : Tre) i) from by congr 1; rw [firstW2]; exact nE1_a hN1 _ (by first | (simp only [true_iff]; left; have hq := hg13; simp at hq ⊢; omega) | (have hq : ¬ (((nth L i).cs.length : Int) = 0) := of_decide_eq_false hg13; rw [decide_eq_true_eq]; omega))) ?_
   refine dP 25 ?_
   refine dNi ?_
   exact s_joinI () trivial aSx (fun w h => h.ent aEt)
  intro hg16
  have hs17 := hg16; try simp only [decide_eq_false_iff_not] at hs17
  refine dFo 13 56 hg16 ?_
  refine d_qon 14 56 [] rfl rfl rfl hg16 (q_load rfl rfl sz_30 aPk rfl) (by kernel_rfl) (by kernel_rfl) (by kernel_rfl) rfl ?_
  refine d_pon 15 56 rfl rfl rfl hg16 (p_len_slice rfl rfl Tryz.underlying30) (by kernel_rfl) rfl rfl ?_
  refine dFo 16 56 hg16 ?_
  refine d_qon 17 56 [] rfl rfl rfl hg16 (q_load rfl rfl sz_77 aPk rfl) (by kernel_rfl) (by kernel_rfl) (by kernel_rfl) rfl ?_
  refine d_pon 18 56 rfl rfl rfl hg16 (p_len_slice rfl rfl Tryz.underlying77) (by kernel_rfl) rfl rfl ?_
  refine dPo 19 56 hg16 ?_
  try refine dWr ?_
  refine dPo 20 56 hg16 ?_
  refine d_p 21 rfl (p_pickf rfl rfl hg16 rfl) (by kernel_rfl) rfl rfl ?_
  refine d_q 22 [] rfl (q_call rfl fn_81 rfl (fun w1 h1 => c81 w1 _ _)) (by kernel_rfl) (by kernel_rfl) (by kernel_rfl) rfl ?_
  refine d_h 23 rfl (h_buildSlice (cs := [_, _]) rfl rfl sl_165 zr_31 rfl rfl rfl) (by kernel_rfl) (fun w h => h.ent aEt) rfl (fun b18 _ => ?_)
  refine dBa ?_
  refine d_q 24 [] rfl (q_call rfl fn_75 rfl (fun w1 h1 => f75 h1 aPk (by rfl) (by rfl) (by decide))) (by kernel_rfl) (by kernel_rfl) (by kernel_rfl) rfl ?_
  refine d_slot (show _ = Value.int .i64 (nE1 (⟨(j : Int), mo, rm, pln L⟩ : Tre) i) from by congr 1; rw [firstW2]; exact nE1_a hN1 _ (by first | (simp only [true_iff]; left; have hq := hg16; simp at hq ⊢; omega) | (have hq : ¬ (((nth L i).cs.length : Int) = 0) := of_decide_eq_false hg16; rw [decide_eq_true_eq]; omega))) ?_
  refine dP 25 ?_
  refine dNi ?_
  exact s_joinI () trivial aSx (fun w h => h.ent aEt)
 intro _ _
 iterate 6 refine aS ?_
 refine s_cutI (α := Unit) [8, 71, 72, 73, 74, 75, 76, 77] (fun _ => [(8, .int .i64 (nE2 (⟨(j : Int), mo, rm, pln L⟩ : Tre) i))]) (fun _ => HS w (fps [.mp r KI ks]) [.blk b1 103 1 [.pointer (some ⟨bt, 0, none⟩)], .blk b2 136 1 [.map (some r)], .blk b3 102 3 (nth L i).vals, .mp r KI ks]) (fun _ => True) ?_ ?_
 ·skip
  refine s_cond rfl (fun h19 => ?_) fun h19 => ?_
  ·try simp only [decide_eq_true_eq] at h19
   iterate 4 refine aS ?_
   refine o_q (q_call rfl fn_89 rfl (fun w1 h1 => c89 w1 (nth L i).ea (nth L i).ec (nth L i).es 119 #[.pointer (some ⟨b1, 0, none⟩)] ((nth L i).es.map (entE (j : Int))) ((hs.es hi).later h1) (by omega) (by kernel_rfl) (by simp) (fun k w2 hk9 _ h2 => by rw [ents_get hk9]; exact c119 w2 b1 (k : Int) (nth (nth L i).es k) bt j mo rm a L.length cap hj (hkl _ (mem_nth hk9)) ((h1.rd_blk (Mc := []) (b := b1) aPk rfl (by simp)).next h2) ((ht.next h1).next h2)))) rfl ?_
   iterate 5 refine aS ?_
   exact s_joinI () trivial (by rw [hE2, if_pos h19]; exact aSx) (fun w h => h.ent aEt)
  try simp only [decide_eq_false_iff_not] at h19
  refine aS ?_
  exact s_joinI () trivial (by rw [hE2, if_neg h19]; exact aSx) (fun w h => h.ent aEt)
 intro _ _
 iterate 6 refine aS ?_
 refine s_cutI (α := List Int) [8, 80, 81, 82, 83, 84, 85, 86] (fun _ => [(8, .int .i64 (nE3 (⟨(j : Int), mo, rm, pln L⟩ : Tre) i seen).1)]) (fun q => HS w (fps [.mp r KI ks]) [.blk b1 103 1 [.pointer (some ⟨bt, 0, none⟩)], .blk b2 136 1 [.map (some r)], .blk b3 102 3 (nth L i).vals, .mp r KI q]) (fun q => ∀ x, x ∈ q ↔ x ∈ (nE3 (⟨(j : Int), mo, rm, pln L⟩ : Tre) i seen).2) ?_ ?_
 ·skip
  refine s_cond rfl (fun h20 => ?_) fun h20 => ?_
  ·try simp only [decide_eq_true_eq] at h20
   iterate 4 refine aS ?_
   refine o_h (h_callF (Cs := [.mp r KI ks]) rfl fn_120 rfl aPs (fun w1 h1 hf => c120 w1 (nth L i).ca (nth L i).cc (nth L i).cs b1 b2 r ks seen bt j mo rm a cap L hf hst (h1.rd_blkF aPs (b := b1) aPk rfl) (h1.rd_blkF aPs (b := b2) aPk rfl) ((ht.keep h1).mono (fps_pick aPs)) ((hs.keep h1).mono (fps_pick aPs)) hl (((hs.cs hi).keep h1).mono (fps_pick aPs)) hcl)) rfl (fun b21 hkG => ?_)
   iterate 5 refine aS ?_
   exact s_joinI b21.2 (by rw [hE3, if_pos h20]; exact hkG) (by rw [hE3, if_pos h20]; exact aSx) (fun w h => h.ent aEt)
  try simp only [decide_eq_false_iff_not] at h20
  refine aS ?_
  exact s_joinI ks (by rw [hE3, if_neg h20]; exact hst) (by rw [hE3, if_neg h20]; exact aSx) (fun w h => h.ent aEt)
 intro ks2 hks2
 iterate 6 refine aS ?_
 refine s_cutI (α := Unit) [8, 89, 90, 91, 92, 93, 94, 95] (fun _ => [(8, .int .i64 (nE4 (⟨(j : Int), mo, rm, pln L⟩ : Tre) i seen))]) (fun _ => HS w (fps [.mp r KI ks]) [.blk b1 103 1 [.pointer (some ⟨bt, 0, none⟩)], .blk b2 136 1 [.map (some r)], .blk b3 102 3 (nth L i).vals, .mp r KI ks2]) (fun _ => True) ?_ ?_
 ·skip
  refine s_cond rfl (fun h22 => ?_) fun h22 => ?_
  ·try simp only [decide_eq_true_eq] at h22
   have he0 := ents_ok (nE2_0 _ _ (nE3_0 _ _ h22))
   rw [hn] at he0
   have hkok : ∀ x ∈ (nth L i).es, keyOk (j : Int) x.key = true ∧ x.key.length ≤ 1000000 := fun x hx => ⟨entE_key (he0 x hx), hkl x hx⟩
   iterate 4 refine aS ?_
   refine o_q (q_call rfl fn_89 rfl (fun w1 h1 => c89 w1 (nth L i).ea (nth L i).ec (nth L i).es 122 #[.pointer (some ⟨b1, 0, none⟩), .pointer (some ⟨b3, 0, none⟩)] ((List.range (nth L i).es.length).map (ordE (j : Int) (nth L i).es)) ((hs.es hi).later h1) (by omega) (by kernel_rfl) (by simp) (fun k w2 hk9 _ h2 => by rw [ords_get hk9]; exact c122 w2 b1 b3 k true (nth L i).ea (nth L i).ec (nth L i).es (.bool true) bt j mo rm a L.length cap hj hk9 (by omega) hkok ((h1.rd_blk (Mc := []) (b := b1) aPk rfl (by simp)).next h2) ((h1.rd_blk (Mc := []) (b := b3) aPk rfl (by simp)).next h2) (((hs.es hi).later h1).later h2) ((ht.next h1).next h2)))) rfl ?_
   iterate 5 refine aS ?_
   exact s_joinI () trivial (by rw [hE4, if_pos h22]; exact aSx) (fun w h => h.ent aEt)
  try simp only [decide_eq_false_iff_not] at h22
  refine aS ?_
  exact s_joinI () trivial (by rw [hE4, if_neg h22]; exact aSx) (fun w h => h.ent aEt)
 intro _ _
 iterate 5 refine aS ?_
 exact s_retv (rs := [.tmp 6]) rfl (.tmp rfl (.nil)) (fun w' h' => ⟨ks2, rfl, hks2, h'.ent aEt⟩)
end Go.Proofs
