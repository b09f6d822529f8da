/- Contracts of the program's functions, proved by walking them with the rules of the Gx texts; without conditions beyond those that each contract names. -/
import Derived.WalkKit
import Derived.Deep.Draws
import Derived.TacticsIn
import Derived.OrdersIn
import Derived.RangeFuncLeaves
import Derived.Lib.Strings
import Derived.Laws.BytesArg
import Derived.Laws.IdiomStrings
import Derived.Deep.Quiet
import Derived.ProofKit
import Derived.OpenShut
import Derived.Laws.StructEq
import Derived.ChangeKeysEq
import Derived.Laws.Externs
import Derived.Lib.Overlaps
import Derived.Carry
import Derived.Laws.Small
import Derived.Lib.Bytealg
import Derived.Test.YtfappgmkbnddiaaGreatProg
import Derived.KernelRfl
import Derived.Lib.Builder
import Derived.Laws.Pointers
import Derived.RangeFuncRecord
import Derived.Test.YtfappgmkbnddiaaGreatP4
namespace Go.Proofs
open Go Go.RowKit Gx
set_option linter.unusedVariables false
set_option linter.unusedSimpArgs false
attribute [local irreducible] Go.Calls Gx.S Gx.O Gx.D Gx.OpP Gx.OpQ Gx.OpH
set_option maxRecDepth 20000
theorem fn_72 : isFn Tryz.prog 72 = true := by kernel_rfl
theorem fn_108 : isFn Tryz.prog 108 = true := by kernel_rfl
theorem oth_tk {α : Type} (l : List α) : others l (l.length - 1) = l.take (l.length - 1) := by
  unfold others
  rw [List.drop_of_length_le (by omega), List.append_nil]
theorem ins_end {α : Type} (l : List α) (x : α) : insAt l l.length x = l ++ [x] := by
  unfold insAt
  rw [List.take_length, List.drop_length]
theorem gone_comm {ns : List Nd} {p f : Nat} (hp : p < ns.length) (hne : p ≠ f) (es : List TEnt) (cs : List Int) : csN (esN (ns.set f ⟨false, [], []⟩) p es) p cs = (csN (esN ns p es) p cs).set f ⟨false, [], []⟩ := by
  rw [csN_esN (by rw [List.length_set]; exact hp), csN_esN hp, List.set_comm _ _ hne, nth_set_nd, if_neg (fun h => hne h.1.symm)]
theorem mrg_eq {ns : List Nd} {p q a b : Nat} {P A B : Nd} (hp : p < ns.length) (hpb : p ≠ b) (hP : nth ns p = P) (hA : nth ns a = A) (hB : nth ns b = B) : csN (esN ((csN (esN ns a (A.es ++ nth P.es q :: B.es)) a (A.cs ++ B.cs)).set b ⟨false, [], []⟩) p (others P.es q)) p (others P.cs (q + 1)) = mrgN ns p q a b := by
  subst hP hA hB
  rw [gone_comm (by rw [csN_len, esN_len]; exact hp) hpb]
  rfl
set_option maxHeartbeats 2000000 in
theorem c73f (w : World) (bt : Nat) (j : Nat) (mo rm : Int) (gn cap : Nat) (L : List LNd) (p e x : Nat) (f : Nat) (hw : HS w (fps [.blk bt 24 4 [.int .i64 (j : Int), .int .i64 mo, .int .i64 rm, .slice (some ⟨gn, 0, none⟩) (L).length cap], .blk gn 102 (cap * 3) ((L).flatMap LNd.vals), .star ((L).map (subN 26))]) [.blk bt 24 4 [.int .i64 (j : Int), .int .i64 mo, .int .i64 rm, .slice (some ⟨gn, 0, none⟩) (L).length cap], .blk gn 102 (cap * 3) ((L).flatMap LNd.vals), .star ((L).map (subN 26))] w) (hnc : L.length ≤ cap) (hcm : cap ≤ maxLen) (hok : FilOk mo (pln L) p (e + 1)) (hx : kdN (pln L) p (e + 1) = x) (hix : ixR (nth (pln L) p).cs (x : Int) = (e + 1)) (hf0 : kdN (pln L) p e = f) (hrc : mo / 2 < ((nth (pln L) f).es.length : Int)) : Calls Tryz.prog 73 #[.pointer (some ⟨bt, 0, none⟩), .int .i64 (p : Int), .int .i64 (x : Int)] w fun en w' => ∃ g : (Nat × Nat) × List LNd, en = .returned (.tuple #[]) ∧ (pln g.2 = givF (pln L) p e f x ∧ g.2.length ≤ g.1.2 ∧ g.1.2 ≤ maxLen) ∧ HS w (fps [.blk bt 24 4 [.int .i64 (j : Int), .int .i64 mo, .int .i64 rm, .slice (some ⟨gn, 0, none⟩) (L).length cap], .blk gn 102 (cap * 3) ((L).flatMap LNd.vals), .star ((L).map (subN 26))]) [.blk bt 24 4 [.int .i64 (j : Int), .int .i64 mo, .int .i64 rm, .slice (some ⟨g.1.1, 0, none⟩) (g.2).length g.1.2], .blk g.1.1 102 (g.1.2 * 3) ((g.2).flatMap LNd.vals), .star ((g.2).map (subN 26))] w' := by
 have hpl := hok.pl
 have hkl := hok.kl
 have hsh := hok.sh
 have hln := hok.len
 have hmo := hok.mo0
 have hsp := hok.sm p
 rw [pln_len] at hpl hln
 have hPN := pln_nth hpl
 rw [hPN] at hkl hsh hsp hix
 simp only [LNd.pl] at hkl hsh hsp hix
 have hx0 := hx
 have hklx : (e + 1) < (nth L p).pl.cs.length := hkl
 have hkx := hok.kid (e + 1) (by rw [hPN]; exact hklx)
 rw [hx0, pln_len] at hkx
 obtain ⟨_, hxl, hpx⟩ := hkx
 have hcx := hok.kd (x := (e + 1)) (by rw [hPN]; exact hklx)
 rw [hx0, hPN] at hcx
 simp only [LNd.pl] at hcx
 have hNx := pln_nth hxl
 have hsx := hok.sm x
 rw [hNx] at hsx
 simp only [LNd.pl] at hsx
 have hklf : e < (nth L p).pl.cs.length := by show _ < (nth L p).cs.length; omega
 have hkf := hok.kid e (by rw [hPN]; exact hklf)
 rw [hf0, pln_len] at hkf
 obtain ⟨_, hfl, hpf⟩ := hkf
 have hcf := hok.kd (x := e) (by rw [hPN]; exact hklf)
 rw [hf0, hPN] at hcf
 simp only [LNd.pl] at hcf
 have hNf := pln_nth hfl
 have hsf := hok.sm f
 rw [hNf] at hsf
 simp only [LNd.pl] at hsf
 have hxf : x ≠ f := by rw [← hx0, ← hf0]; exact hok.dis _ _ (by rw [hPN]; exact hklx) (by rw [hPN]; exact hklf) (by omega)
 rw [hNf] at hrc
 simp only [LNd.pl] at hrc
 refine enter (args := [_, _, _]) Tryz.func73 Tryz.ntmps73 rfl rfl hw ?_
 iterate 7 refine aS ?_
 refine o_q (q_call rfl fn_100 rfl (fun w1 h1 => by have h9 := c100 w1 j mo rm (some ⟨gn, 0, none⟩) cap L p (x : Int) hpl (HS.nt_at h1 aPk aPk) (by omega) (by omega); rw [hix] at h9; exact h9)) rfl ?_
 iterate 9 refine aS ?_
 refine o_p (p_indexAddr rfl rfl rfl sl_22 (p) (by omega) (by omega) rfl) rfl ?_
 refine o_slot (show _ = Value.pointer (some ⟨gn, p * 3, none⟩) from by rw [Nat.zero_add]) ?_
 refine o_q (q_load_atn _ rfl rfl sz_102 rfl (fun w h => HS.nd_cells hpl h aPk)) rfl ?_
 refine oAl (fun b1 _ => ?_) zr_102
 refine oSt ?_
 iterate 8 refine aS ?_
 refine o_p (p_indexAddr rfl rfl rfl sl_22 (x) (by omega) (by omega) rfl) rfl ?_
 refine o_slot (show _ = Value.pointer (some ⟨gn, x * 3, none⟩) from by rw [Nat.zero_add]) ?_
 refine o_q (q_load_atn _ rfl rfl sz_102 rfl (fun w h => HS.nd_cells hxl h aPk)) rfl ?_
 refine oAl (fun b2 _ => ?_) zr_102
 refine oSt ?_
 iterate 7 refine aS ?_
 refine o_p (p_quo_nn rfl rfl rfl (by omega) (by omega) (by omega)) rfl ?_
 iterate 4 refine aS ?_
 refine s_weaken (L' := [(0, _), (1, _), (2, _), (6, _), (7, _), (8, _), (9, _)]) aSx (fun _ h => h) ?_
 iterate 4 refine aS ?_
 refine s_cond rfl (fun h3 => ?_) fun h3 => ?_
 ·try simp only [decide_eq_true_eq] at h3
  refine s_fact (fun w h => HS.cs_some hpl (by omega) h aPk) fun hgc => ?_
  obtain ⟨gc9, hgc⟩ := hgc
  refine s_fact (fun w h => HS.es_room hpl h aPk) fun hrP => ?_
  refine s_fact (fun w h => HS.es_room hxl h aPk) fun hrX => ?_
  refine s_fact (fun w h => HS.cs_room hxl h aPk) fun hrXc => ?_
  refine s_fact (fun w h => HS.cs_room hpl h aPk) fun hrPc => ?_
  refine s_fact (fun w h => HS.es_some hpl (by omega) h aPk) fun hge => ?_
  obtain ⟨gp9, hge⟩ := hge
  refine s_fact (fun w h => HS.es_some hfl (by omega) h aPk) fun hgf => ?_
  obtain ⟨gf9, hgf⟩ := hgf
  refine s_fact (fun w h => HS.es_room hfl h aPk) fun hrF => ?_
  refine s_fact (fun w h => HS.cs_room hfl h aPk) fun hrFc => ?_
  iterate 6 refine aS ?_
  try refine oWr ?_
  refine o_p (p_indexAddr rfl rfl rfl sl_30 (e) (by omega) (by omega) hgc) rfl ?_
  refine o_q (q_load_at rfl rfl sz_3 (fun w h => HS.cs_rd hpl (by omega) hgc h aPk)) rfl ?_
  refine o_slot (show _ = Value.int .i64 (f : Int) from by rw [hcf]) ?_
  iterate 9 refine aS ?_
  refine o_p (p_indexAddr rfl rfl rfl sl_22 (f) (by omega) (by omega) rfl) rfl ?_
  refine o_slot (show _ = Value.pointer (some ⟨gn, f * 3, none⟩) from by rw [Nat.zero_add]) ?_
  refine o_q (q_load_atn _ rfl rfl sz_102 rfl (fun w h => HS.nd_cells hfl h aPk)) rfl ?_
  refine oAl (fun b4 _ => ?_) zr_102
  refine oSt ?_
  iterate 7 refine aS ?_
  try refine oWr ?_
  refine o_slot (show _ = Value.int .i64 ((((nth L f).es.length - 1) : Nat) : Int) from by congr 1; omega) ?_
  iterate 8 refine aS ?_
  refine s_cond rfl (fun h5 => ?_) fun h5 => ?_
  ·try simp only [decide_eq_true_eq] at h5
   refine aS ?_
   refine s_weaken (L' := [(0, _), (1, _), (2, _), (6, _), (7, _), (8, _), (9, _), (10, _), (11, _), (12, _)]) aSx (fun _ h => h) ?_
   refine s_drawB [.blk bt 24 4 [.int .i64 (j : Int), .int .i64 mo, .int .i64 rm, .slice (some ⟨gn, 0, none⟩) L.length cap], .blk gn 102 (cap * 3) (L.flatMap LNd.vals), .star (L.map (subN 26)), .blk b1 102 3 (LNd.vals (nth L p)), .blk b2 102 3 (LNd.vals (nth L x)), .blk b4 102 3 (LNd.vals (nth L f))] [16] mixed ?_
   refine dP 0 ?_
   refine dP 1 ?_
   refine dFa 2 ?_
   refine dLd 3 [[]] ?_
   refine dP 4 ?_
   refine dFa 5 ?_
   refine dLd 6 [[]] ?_
   refine dFa 7 ?_
   refine dLd 8 [[]] ?_
   refine dP 9 ?_
   refine dP 10 ?_
   try refine dWr ?_
   refine d_p 11 rfl (p_indexAddr rfl rfl rfl sl_77 (e) (by omega) (by omega) hge) (by kernel_rfl) rfl rfl ?_
   refine d_q 12 [[]] rfl (q_load_atn _ rfl rfl sz_26 rfl (fun w h => HS.es_rd hpl (by omega) hge h aPk)) (by kernel_rfl) (by kernel_rfl) (by kernel_rfl) rfl ?_
   refine d_h 13 rfl (h_call rfl fn_62 rfl (fun w1 h1 => c62 w1 (nth L x).ea (nth L x).ec (nth L x).es 0 (nth (nth L p).es e) (HS.es_row hxl h1 aPk) (by omega) (Nat.zero_le _) hrX.1)) (by kernel_rfl) (fun w h => h.ent aEt) rfl (fun b6 _ => ?_)
   refine d_p 14 rfl (p_indexAddr rfl rfl rfl sl_22 (x) (by omega) (by omega) rfl) (by kernel_rfl) rfl rfl ?_
   refine d_slot (show _ = Value.pointer (some ⟨gn, x * 3, none⟩) from by rw [Nat.zero_add]) ?_
   refine dFa 15 ?_
   refine dSt 16 ?_ (hl := (by rw [flat_length nv3]; show _ + 1 ≤ _; omega))
   refine dTu [] ?_
   refine dNi ?_
   refine aS ?_
   refine s_ex (fun w h => HS.es_set (gn := gn) (cap := cap) (ea := b6.1) (ec := b6.2) (es := insAt (nth L x).es 0 (nth (nth L p).es e)) hxl h aPk aPk aPk) fun L1 => ?_
   refine s_fact (fun w h => h.1) fun hS1 => ?_
   refine s_class (fun w h => h.2) ?_
   have hp1 : p < L1.length := by rw [hS1.len]; exact hpl
   have hf1 : f < L1.length := by rw [hS1.len]; exact hfl
   have hP1 : nth L1 p = nth L p := hS1.other hpl (Ne.symm hpx)
   have hPl1 : (nth L1 p).es.length = (nth L p).es.length := by rw [hP1]
   have hF1 : nth L1 f = nth L f := hS1.other hfl hxf
   have hge1 : (nth L1 p).ea = some ⟨gp9, 0, none⟩ := by rw [hP1]; exact hge
   have hgf1 : (nth L1 f).ea = some ⟨gf9, 0, none⟩ := by rw [hF1]; exact hgf
   refine s_class (fun w h => HS.es_open hp1 (by rw [hP1]; omega) hge1 h aPk) ?_
   refine s_draw [16] mixed ?_
   refine dP 0 ?_
   refine dP 1 ?_
   refine dFa 2 ?_
   refine dLd 3 [[]] ?_
   refine dP 4 ?_
   refine d_p 5 rfl (p_indexAddr rfl rfl rfl sl_22 (p) (by omega) (by omega) rfl) (by kernel_rfl) rfl rfl ?_
   refine d_slot (show _ = Value.pointer (some ⟨gn, p * 3, none⟩) from by rw [Nat.zero_add]) ?_
   refine dFa 6 ?_
   refine d_q 7 [[]] rfl (q_load_at rfl rfl sz_77 (fun w h => HS.nd_cell hp1 h aPk 1 rfl (by decide))) (by kernel_rfl) (by kernel_rfl) (by kernel_rfl) rfl ?_
   refine dP 8 ?_
   refine dP 9 ?_
   try refine dWr ?_
   refine dFa 10 ?_
   refine dLd 11 [[]] ?_
   refine dP 12 ?_
   refine d_p 13 rfl (p_indexAddr rfl rfl rfl sl_77 (((nth L f).es.length - 1)) (by omega) (by omega) hgf) (by kernel_rfl) rfl rfl ?_
   refine d_q 14 [[]] rfl (q_load_atn _ rfl rfl sz_26 rfl (fun w h => hF1 ▸ HS.es_rdB hf1 hpf (k := ((nth L f).es.length - 1)) (by rw [hF1]; omega) hgf1 h aPk)) (by kernel_rfl) (by kernel_rfl) (by kernel_rfl) rfl ?_
   refine d_p 15 rfl (p_indexAddr rfl rfl rfl sl_77 (e) (by omega) (by omega) hge1) (by kernel_rfl) rfl rfl ?_
   refine d_slot (show _ = Value.pointer (some ⟨gp9, e * 2, none⟩) from by rw [Nat.zero_add]) ?_
   refine dSt 16 ?_ (hl := (by rw [flat_length ev2]; show _ + 2 ≤ _; omega))
   refine dTu [] ?_
   refine dNi ?_
   refine aS ?_
   refine s_weaken (L' := [(0, _), (1, _), (2, _), (6, _), (7, _), (8, _), (9, _), (10, _), (11, _), (12, _)]) aSx (fun _ h => h) ?_
   refine s_ex (fun w h => HS.es_upd (gn := gn) (cap := cap) (g := gp9) (k := e) (x := nth (nth L f).es ((nth L f).es.length - 1)) hp1 (by rw [hP1]; omega) hge1 h aPk aPk aPk (by rw [hP1]; exact hrP)) fun L2 => ?_
   refine s_fact (fun w h => h.1) fun hS2 => ?_
   refine s_class (fun w h => h.2) ?_
   have hf2 : f < L2.length := by rw [hS2.len]; exact hf1
   have hF2 : nth L2 f = nth L f := by rw [hS2.other hf1 hpf, hF1]
   have hx2 : x < L2.length := by rw [hS2.len, hS1.len]; exact hxl
   refine s_drawB [.blk bt 24 4 [.int .i64 (j : Int), .int .i64 mo, .int .i64 rm, .slice (some ⟨gn, 0, none⟩) L.length cap], .blk gn 102 (cap * 3) (L2.flatMap LNd.vals), .star (L2.map (subN 26)), .blk b1 102 3 (LNd.vals (nth L p)), .blk b2 102 3 (LNd.vals (nth L x)), .blk b4 102 3 (LNd.vals (nth L f))] [11] mixed ?_
   refine dP 0 ?_
   refine dP 1 ?_
   refine dFa 2 ?_
   refine dLd 3 [[]] ?_
   refine dP 4 ?_
   refine dFa 5 ?_
   refine dLd 6 [[]] ?_
   refine dP 7 ?_
   refine d_h 8 rfl (h_call rfl fn_72 rfl (fun w1 h1 => c72 w1 (nth L f).ea (nth L f).ec (nth L f).es ((nth L f).es.length - 1) (hF2 ▸ HS.es_row hf2 h1 aPk) (by omega) (by omega) hrF.1)) (by kernel_rfl) (fun w h => h.ent aEt) rfl (fun b7 _ => ?_)
   refine d_p 9 rfl (p_indexAddr rfl rfl rfl sl_22 (f) (by omega) (by omega) rfl) (by kernel_rfl) rfl rfl ?_
   refine d_slot (show _ = Value.pointer (some ⟨gn, f * 3, none⟩) from by rw [Nat.zero_add]) ?_
   refine dFa 10 ?_
   refine dSt 11 ?_ (hl := (by rw [flat_length nv3]; show _ + 1 ≤ _; omega))
   refine dTu [] ?_
   refine dNi ?_
   iterate 4 refine aS ?_
   refine o_ex (fun w h => HS.es_set (gn := gn) (cap := cap) (ea := b7.1) (ec := b7.2) (es := others (nth L f).es ((nth L f).es.length - 1)) hf2 h aPk aPk aPk) fun L3 => ?_
   refine o_fact (fun w h => h.1) fun hS3 => ?_
   refine o_class (fun w h => h.2) ?_
   have hf3 : f < L3.length := by rw [hS3.len]; exact hf2
   have hx3 : x < L3.length := by rw [hS3.len]; exact hx2
   have hX3 : nth L3 x = nth L1 x := by rw [hS3.other hx2 (Ne.symm hxf), hS2.other (by rw [hS1.len]; exact hxl) hpx]
   have hcx3 : (nth L3 x).ca = (nth L x).ca ∧ (nth L3 x).cc = (nth L x).cc ∧ (nth L3 x).cs = (nth L x).cs := by rw [hX3, hS1.at_]; exact ⟨rfl, rfl, rfl⟩
   have hcf3 : (nth L3 f).ca = (nth L f).ca ∧ (nth L3 f).cc = (nth L f).cc ∧ (nth L3 f).cs = (nth L f).cs := by rw [hS3.at_, hF2]; exact ⟨rfl, rfl, rfl⟩
   have hln3 : L3.length = L.length := by rw [hS3.len, hS2.len, hS1.len]
   iterate 3 refine aS ?_
   try refine oWr ?_
   iterate 7 refine aS ?_
   refine s_weaken (L' := [(0, _), (1, _), (2, _), (6, _), (7, _), (8, _), (9, _), (10, _), (11, _), (13, _), (114, _)]) aSx (fun _ h => h) ?_
   refine s_cutI (α := List LNd) [115, 116, 117, 118, 119, 120, 121, 122, 123, 124, 125, 126, 127, 128, 129, 130, 131, 132, 133, 134, 135, 136, 137, 138, 139, 140] (fun _ => []) (fun y => HS w (fps [.blk bt 24 4 [.int .i64 (j : Int), .int .i64 mo, .int .i64 rm, .slice (some ⟨gn, 0, none⟩) (L).length cap], .blk gn 102 (cap * 3) ((L).flatMap LNd.vals), .star ((L).map (subN 26))]) [.blk bt 24 4 [.int .i64 (j : Int), .int .i64 mo, .int .i64 rm, .slice (some ⟨gn, 0, none⟩) (y).length cap], .blk gn 102 (cap * 3) ((y).flatMap LNd.vals), .star ((y).map (subN 26))]) (fun y => pln y = (givF (pln L) p e f x) ∧ y.length = L.length) ?_ ?_
   ·skip
    refine s_cond rfl (fun h8 => ?_) fun h8 => ?_
    ·try simp only [decide_eq_true_eq] at h8
     have hcz : 0 < (nth L f).cs.length := by have hq := h8; omega
     refine s_fact (fun w h => HS.cs_some hf3 (by rw [hcf3.2.2]; exact hcz) h aPk) fun hgk => ?_
     obtain ⟨gk9, hgk⟩ := hgk
     have hgk0 : (nth L f).ca = some ⟨gk9, 0, none⟩ := by rw [← hcf3.1]; exact hgk
     refine aS ?_
     refine s_drawB [.blk bt 24 4 [.int .i64 (j : Int), .int .i64 mo, .int .i64 rm, .slice (some ⟨gn, 0, none⟩) L.length cap], .blk gn 102 (cap * 3) (L3.flatMap LNd.vals), .star (L3.map (subN 26)), .blk b1 102 3 (LNd.vals (nth L p)), .blk b2 102 3 (LNd.vals (nth L x)), .blk b4 102 3 (LNd.vals (nth L f))] [15] mixed ?_
     refine dP 0 ?_
     refine dP 1 ?_
     refine dFa 2 ?_
     refine dLd 3 [[]] ?_
     refine dP 4 ?_
     refine dFa 5 ?_
     refine dLd 6 [[]] ?_
     refine dFa 7 ?_
     refine dLd 8 [[]] ?_
     refine dP 9 ?_
     refine d_slot (show _ = Value.int .i64 ((((nth L f).cs.length - 1) : Nat) : Int) from by congr 1; omega) ?_
     refine d_p 10 rfl (p_indexAddr rfl rfl rfl sl_30 (((nth L f).cs.length - 1)) (by omega) (by omega) hgk0) (by kernel_rfl) rfl rfl ?_
     refine d_q 11 [[]] rfl (q_load_at rfl rfl sz_3 (fun w h => hcf3.2.2 ▸ HS.cs_rd hf3 (k := ((nth L f).cs.length - 1)) (by rw [hcf3.2.2]; omega) hgk h aPk)) (by kernel_rfl) (by kernel_rfl) (by kernel_rfl) rfl ?_
     refine d_h 12 rfl (h_call rfl fn_101 rfl (fun w1 h1 => c101 w1 (nth L x).ca (nth L x).cc (nth L x).cs 0 ((nth L f).cs.getD ((nth L f).cs.length - 1) 0) (cs_rowE hcx3 (HS.cs_row hx3 h1 aPk)) (by omega) (Nat.zero_le _) hrXc.1)) (by kernel_rfl) (fun w h => h.ent aEt) rfl (fun b9 _ => ?_)
     refine d_p 13 rfl (p_indexAddr rfl rfl rfl sl_22 (x) (by omega) (by omega) rfl) (by kernel_rfl) rfl rfl ?_
     refine d_slot (show _ = Value.pointer (some ⟨gn, x * 3, none⟩) from by rw [Nat.zero_add]) ?_
     refine dFa 14 ?_
     refine dSt 15 ?_ (hl := (by rw [flat_length nv3]; show _ + 1 ≤ _; omega))
     refine dTu [] ?_
     refine dNi ?_
     refine s_ex (fun w h => HS.cs_set (gn := gn) (cap := cap) (ca := b9.1) (cc := b9.2) (cs := insAt (nth L x).cs 0 ((nth L f).cs.getD ((nth L f).cs.length - 1) 0)) hx3 h aPk aPk aPk) fun L4 => ?_
     refine s_fact (fun w h => h.1) fun hS4 => ?_
     refine s_class (fun w h => h.2) ?_
     have hf4 : f < L4.length := by rw [hS4.len]; exact hf3
     have hcf4 : (nth L4 f).ca = (nth L f).ca ∧ (nth L4 f).cc = (nth L f).cc ∧ (nth L4 f).cs = (nth L f).cs := by rw [hS4.other hf3 hxf]; exact hcf3
     refine s_drawB [.blk bt 24 4 [.int .i64 (j : Int), .int .i64 mo, .int .i64 rm, .slice (some ⟨gn, 0, none⟩) L.length cap], .blk gn 102 (cap * 3) (L4.flatMap LNd.vals), .star (L4.map (subN 26)), .blk b1 102 3 (LNd.vals (nth L p)), .blk b2 102 3 (LNd.vals (nth L x)), .blk b4 102 3 (LNd.vals (nth L f))] [11] mixed ?_
     refine dP 0 ?_
     refine dP 1 ?_
     refine dFa 2 ?_
     refine dLd 3 [[]] ?_
     refine dP 4 ?_
     refine dFa 5 ?_
     refine dLd 6 [[]] ?_
     refine dP 7 ?_
     refine d_slot (show _ = Value.int .i64 ((((nth L f).cs.length - 1) : Nat) : Int) from by congr 1; omega) ?_
     refine d_h 8 rfl (h_call rfl fn_108 rfl (fun w1 h1 => c108 w1 (nth L f).ca (nth L f).cc (nth L f).cs ((nth L f).cs.length - 1) (cs_rowE hcf4 (HS.cs_row hf4 h1 aPk)) (by omega) (by omega) hrFc.1)) (by kernel_rfl) (fun w h => h.ent aEt) rfl (fun b10 _ => ?_)
     refine d_p 9 rfl (p_indexAddr rfl rfl rfl sl_22 (f) (by omega) (by omega) rfl) (by kernel_rfl) rfl rfl ?_
     refine d_slot (show _ = Value.pointer (some ⟨gn, f * 3, none⟩) from by rw [Nat.zero_add]) ?_
     refine dFa 10 ?_
     refine dSt 11 ?_ (hl := (by rw [flat_length nv3]; show _ + 1 ≤ _; omega))
     refine dTu [] ?_
     refine dNi ?_
     refine s_ex (fun w h => HS.cs_set (gn := gn) (cap := cap) (ca := b10.1) (cc := b10.2) (cs := others (nth L f).cs ((nth L f).cs.length - 1)) hf4 h aPk aPk aPk) fun L5 => ?_
     refine s_fact (fun w h => h.1) fun hS5 => ?_
     refine s_class (fun w h => h.2) ?_
     have hz5 : L5.length = L.length := by rw [hS5.len, hS4.len, hln3]
     exact s_joinI L5 ⟨by rw [hS5.cs, hS4.cs, hS3.es, hS2.es, hS1.es, hP1, oth_tk, oth_tk]; exact (givF_1 hPN hNf hNx hcz).symm, hz5⟩ aSx (fun w h => by rw [hz5]; exact h.ent aEt)
    try simp only [decide_eq_false_iff_not] at h8
    have hcz : (nth L f).cs.length = 0 := by have hq := h8; omega
    refine aS ?_
    exact s_joinI L3 ⟨by rw [hS3.es, hS2.es, hS1.es, hP1, oth_tk]; exact (givF_0 hPN hNf hNx hcz).symm, hln3⟩ aSx (fun w h => by rw [hln3]; exact h.ent aEt)
   intro LZ hLZ
   obtain ⟨hLZ1, hLZ2⟩ := hLZ
   exact s_ret0 rfl (fun w' h' => ⟨((gn, cap), LZ), rfl, ⟨hLZ1, by simp only []; omega, hcm⟩, h'.ent aEt⟩)
  try simp only [decide_eq_false_iff_not] at h5
  exfalso; first | omega | (simp at h5; done) | (simp_all; done)
 try simp only [decide_eq_false_iff_not] at h3
 exfalso; first | omega | (simp at h3; done) | (simp_all; done)
set_option maxHeartbeats 2000000 in
theorem c73b (w : World) (bt : Nat) (j : Nat) (mo rm : Int) (gn cap : Nat) (L : List LNd) (p k x : Nat) (f : Nat) (hw : HS w (fps [.blk bt 24 4 [.int .i64 (j : Int), .int .i64 mo, .int .i64 rm, .slice (some ⟨gn, 0, none⟩) (L).length cap], .blk gn 102 (cap * 3) ((L).flatMap LNd.vals), .star ((L).map (subN 26))]) [.blk bt 24 4 [.int .i64 (j : Int), .int .i64 mo, .int .i64 rm, .slice (some ⟨gn, 0, none⟩) (L).length cap], .blk gn 102 (cap * 3) ((L).flatMap LNd.vals), .star ((L).map (subN 26))] w) (hnc : L.length ≤ cap) (hcm : cap ≤ maxLen) (hok : FilOk mo (pln L) p k) (hx : kdN (pln L) p k = x) (hix : ixR (nth (pln L) p).cs (x : Int) = k) (hf0 : kdN (pln L) p (k + 1) = f) (hrc : mo / 2 < ((nth (pln L) f).es.length : Int)) (hno : ¬ (0 < k ∧ mo / 2 < ((nth (pln L) (kdN (pln L) p (k - 1))).es.length : Int))) (hkb : k + 1 < (nth (pln L) p).cs.length) : Calls Tryz.prog 73 #[.pointer (some ⟨bt, 0, none⟩), .int .i64 (p : Int), .int .i64 (x : Int)] w fun en w' => ∃ g : (Nat × Nat) × List LNd, en = .returned (.tuple #[]) ∧ (pln g.2 = givB (pln L) p k f x ∧ g.2.length ≤ g.1.2 ∧ g.1.2 ≤ maxLen) ∧ HS w (fps [.blk bt 24 4 [.int .i64 (j : Int), .int .i64 mo, .int .i64 rm, .slice (some ⟨gn, 0, none⟩) (L).length cap], .blk gn 102 (cap * 3) ((L).flatMap LNd.vals), .star ((L).map (subN 26))]) [.blk bt 24 4 [.int .i64 (j : Int), .int .i64 mo, .int .i64 rm, .slice (some ⟨g.1.1, 0, none⟩) (g.2).length g.1.2], .blk g.1.1 102 (g.1.2 * 3) ((g.2).flatMap LNd.vals), .star ((g.2).map (subN 26))] w' := by
 have hpl := hok.pl
 have hkl := hok.kl
 have hsh := hok.sh
 have hln := hok.len
 have hmo := hok.mo0
 have hsp := hok.sm p
 rw [pln_len] at hpl hln
 have hPN := pln_nth hpl
 rw [hPN] at hkl hsh hsp hix
 simp only [LNd.pl] at hkl hsh hsp hix
 have hx0 := hx
 have hklx : k < (nth L p).pl.cs.length := hkl
 have hkx := hok.kid k (by rw [hPN]; exact hklx)
 rw [hx0, pln_len] at hkx
 obtain ⟨_, hxl, hpx⟩ := hkx
 have hcx := hok.kd (x := k) (by rw [hPN]; exact hklx)
 rw [hx0, hPN] at hcx
 simp only [LNd.pl] at hcx
 have hNx := pln_nth hxl
 have hsx := hok.sm x
 rw [hNx] at hsx
 simp only [LNd.pl] at hsx
 rw [hPN] at hkb
 simp only [LNd.pl] at hkb
 have hklf : (k + 1) < (nth L p).pl.cs.length := by show _ < (nth L p).cs.length; omega
 have hkf := hok.kid (k + 1) (by rw [hPN]; exact hklf)
 rw [hf0, pln_len] at hkf
 obtain ⟨_, hfl, hpf⟩ := hkf
 have hcf := hok.kd (x := (k + 1)) (by rw [hPN]; exact hklf)
 rw [hf0, hPN] at hcf
 simp only [LNd.pl] at hcf
 have hNf := pln_nth hfl
 have hsf := hok.sm f
 rw [hNf] at hsf
 simp only [LNd.pl] at hsf
 have hxf : x ≠ f := by rw [← hx0, ← hf0]; exact hok.dis _ _ (by rw [hPN]; exact hklx) (by rw [hPN]; exact hklf) (by omega)
 rw [hNf] at hrc
 simp only [LNd.pl] at hrc
 refine enter (args := [_, _, _]) Tryz.func73 Tryz.ntmps73 rfl rfl hw ?_
 iterate 7 refine aS ?_
 refine o_q (q_call rfl fn_100 rfl (fun w1 h1 => by have h9 := c100 w1 j mo rm (some ⟨gn, 0, none⟩) cap L p (x : Int) hpl (HS.nt_at h1 aPk aPk) (by omega) (by omega); rw [hix] at h9; exact h9)) rfl ?_
 iterate 9 refine aS ?_
 refine o_p (p_indexAddr rfl rfl rfl sl_22 (p) (by omega) (by omega) rfl) rfl ?_
 refine o_slot (show _ = Value.pointer (some ⟨gn, p * 3, none⟩) from by rw [Nat.zero_add]) ?_
 refine o_q (q_load_atn _ rfl rfl sz_102 rfl (fun w h => HS.nd_cells hpl h aPk)) rfl ?_
 refine oAl (fun b1 _ => ?_) zr_102
 refine oSt ?_
 iterate 8 refine aS ?_
 refine o_p (p_indexAddr rfl rfl rfl sl_22 (x) (by omega) (by omega) rfl) rfl ?_
 refine o_slot (show _ = Value.pointer (some ⟨gn, x * 3, none⟩) from by rw [Nat.zero_add]) ?_
 refine o_q (q_load_atn _ rfl rfl sz_102 rfl (fun w h => HS.nd_cells hxl h aPk)) rfl ?_
 refine oAl (fun b2 _ => ?_) zr_102
 refine oSt ?_
 iterate 7 refine aS ?_
 refine o_p (p_quo_nn rfl rfl rfl (by omega) (by omega) (by omega)) rfl ?_
 refine o_fact (fun w h => HS.cs_some hpl (by omega) h aPk) fun hgc => ?_
 obtain ⟨gc9, hgc⟩ := hgc
 refine o_fact (fun w h => HS.es_room hpl h aPk) fun hrP => ?_
 refine o_fact (fun w h => HS.es_room hxl h aPk) fun hrX => ?_
 refine o_fact (fun w h => HS.cs_room hxl h aPk) fun hrXc => ?_
 refine o_fact (fun w h => HS.cs_room hpl h aPk) fun hrPc => ?_
 refine o_fact (fun w h => HS.es_some hpl (by omega) h aPk) fun hge => ?_
 obtain ⟨gp9, hge⟩ := hge
 refine o_fact (fun w h => HS.es_some hfl (by omega) h aPk) fun hgf => ?_
 obtain ⟨gf9, hgf⟩ := hgf
 refine o_fact (fun w h => HS.es_room hfl h aPk) fun hrF => ?_
 refine o_fact (fun w h => HS.cs_room hfl h aPk) fun hrFc => ?_
 iterate 4 refine aS ?_
 refine s_weaken (L' := [(0, _), (1, _), (2, _), (6, _), (7, _), (8, _), (9, _)]) aSx (fun _ h => h) ?_
 iterate 4 refine aS ?_
 refine s_cutI (α := Unit) [10, 11, 12, 13, 46, 47, 48, 49, 50, 51, 52, 53, 54, 55, 56, 57, 58, 59, 60, 61, 62, 63, 64, 65, 66, 67, 68, 69, 70, 71, 72, 73, 74, 75, 76, 77, 78, 79, 80, 81, 82, 83, 84, 85, 86, 87, 88, 89, 90, 91, 92, 93, 94, 95, 96, 97, 98, 99, 100, 101, 102, 103, 104, 105, 106, 107, 108, 109, 110, 111, 112, 113, 114, 115, 116, 117, 118, 119, 120, 121, 122, 123, 124, 125, 126, 127, 128, 129, 130, 131, 132, 133, 134, 135, 136, 137, 138, 139, 140] (fun _ => []) (fun _ => HS w (fps [.blk bt 24 4 [.int .i64 (j : Int), .int .i64 mo, .int .i64 rm, .slice (some ⟨gn, 0, none⟩) (L).length cap], .blk gn 102 (cap * 3) ((L).flatMap LNd.vals), .star ((L).map (subN 26))]) [.blk bt 24 4 [.int .i64 (j : Int), .int .i64 mo, .int .i64 rm, .slice (some ⟨gn, 0, none⟩) L.length cap], .blk gn 102 (cap * 3) (L.flatMap LNd.vals), .star (L.map (subN 26)), .blk b1 102 3 (LNd.vals (nth L p)), .blk b2 102 3 (LNd.vals (nth L x))]) (fun _ => True) ?_ ?_
 ·skip
  refine s_cond rfl (fun h3 => ?_) fun h3 => ?_
  ·try simp only [decide_eq_true_eq] at h3
   have hk0 : 0 < k := by have hq := h3; omega
   have hkl9 : k - 1 < (nth L p).pl.cs.length := by show _ < (nth L p).cs.length; omega
   have hy0 : (kdN (pln L) p (k - 1)) = (kdN (pln L) p (k - 1)) := rfl
   have hk9 := hok.kid (k - 1) (by rw [hPN]; exact hkl9)
   rw [pln_len] at hk9
   obtain ⟨_, hyl, hpy⟩ := hk9
   have hcy := hok.kd (x := k - 1) (by rw [hPN]; exact hkl9)
   rw [show nth (pln L) p = (nth L p).pl from hPN] at hcy
   simp only [LNd.pl] at hcy
   have hNy := pln_nth hyl
   have hsy := hok.sm (kdN (pln L) p (k - 1))
   rw [hNy] at hsy
   simp only [LNd.pl] at hsy
   iterate 6 refine aS ?_
   try refine oWr ?_
   refine o_p (p_indexAddr rfl rfl rfl sl_30 (k - 1) (by omega) (by omega) hgc) rfl ?_
   refine o_q (q_load_at rfl rfl sz_3 (fun w h => HS.cs_rd hpl (by omega) hgc h aPk)) rfl ?_
   refine o_slot (show _ = Value.int .i64 ((kdN (pln L) p (k - 1)) : Int) from by rw [← hcy]) ?_
   iterate 9 refine aS ?_
   refine o_p (p_indexAddr rfl rfl rfl sl_22 ((kdN (pln L) p (k - 1))) (by omega) (by omega) rfl) rfl ?_
   refine o_slot (show _ = Value.pointer (some ⟨gn, (kdN (pln L) p (k - 1)) * 3, none⟩) from by rw [Nat.zero_add]) ?_
   refine o_q (q_load_atn _ rfl rfl sz_102 rfl (fun w h => HS.nd_cells hyl h aPk)) rfl ?_
   refine oAl (fun b4 _ => ?_) zr_102
   refine oSt ?_
   iterate 7 refine aS ?_
   try refine oWr ?_
   iterate 8 refine aS ?_
   refine s_cond rfl (fun h5 => ?_) fun h5 => ?_
   ·try simp only [decide_eq_true_eq] at h5
    exfalso; have hq := h5; exact hno ⟨hk0, by rw [hNy]; show _ < ((nth L (kdN (pln L) p (k - 1))).es.length : Int); omega⟩
   try simp only [decide_eq_false_iff_not] at h5
   refine aS ?_
   exact s_joinI () trivial aSx (fun w h => h.ent aEt)
  try simp only [decide_eq_false_iff_not] at h3
  refine aS ?_
  exact s_joinI () trivial aSx (fun w h => h.ent aEt)
 intro _ _
 iterate 5 refine aS ?_
 try refine oWr ?_
 iterate 5 refine aS ?_
 refine s_cond rfl (fun h6 => ?_) fun h6 => ?_
 ·try simp only [decide_eq_true_eq] at h6
  iterate 6 refine aS ?_
  try refine oWr ?_
  refine o_p (p_indexAddr rfl rfl rfl sl_30 (k + 1) (by omega) (by omega) hgc) rfl ?_
  refine o_q (q_load_at rfl rfl sz_3 (fun w h => HS.cs_rd hpl (by omega) hgc h aPk)) rfl ?_
  refine o_slot (show _ = Value.int .i64 (f : Int) from by rw [hcf]) ?_
  iterate 9 refine aS ?_
  refine o_p (p_indexAddr rfl rfl rfl sl_22 (f) (by omega) (by omega) rfl) rfl ?_
  refine o_slot (show _ = Value.pointer (some ⟨gn, f * 3, none⟩) from by rw [Nat.zero_add]) ?_
  refine o_q (q_load_atn _ rfl rfl sz_102 rfl (fun w h => HS.nd_cells hfl h aPk)) rfl ?_
  refine oAl (fun b7 _ => ?_) zr_102
  refine oSt ?_
  iterate 2 refine aS ?_
  refine s_weaken (L' := [(0, _), (1, _), (2, _), (6, _), (7, _), (8, _), (9, _), (14, _), (15, _)]) aSx (fun _ h => h) ?_
  iterate 7 refine aS ?_
  refine s_cond rfl (fun h8 => ?_) fun h8 => ?_
  ·try simp only [decide_eq_true_eq] at h8
   refine aS ?_
   refine s_drawB [.blk bt 24 4 [.int .i64 (j : Int), .int .i64 mo, .int .i64 rm, .slice (some ⟨gn, 0, none⟩) L.length cap], .blk gn 102 (cap * 3) (L.flatMap LNd.vals), .star (L.map (subN 26)), .blk b1 102 3 (LNd.vals (nth L p)), .blk b2 102 3 (LNd.vals (nth L x)), .blk b7 102 3 (LNd.vals (nth L f))] [18] mixed ?_
   refine dP 0 ?_
   refine dP 1 ?_
   refine dFa 2 ?_
   refine dLd 3 [[]] ?_
   refine dP 4 ?_
   refine dFa 5 ?_
   refine dLd 6 [[]] ?_
   refine dFa 7 ?_
   refine dLd 8 [[]] ?_
   refine d_p 9 rfl (p_len_slice rfl rfl Tryz.underlying77) (by kernel_rfl) rfl rfl ?_
   refine dFa 10 ?_
   refine dLd 11 [[]] ?_
   refine dP 12 ?_
   refine d_p 13 rfl (p_indexAddr rfl rfl rfl sl_77 (k) (by omega) (by omega) hge) (by kernel_rfl) rfl rfl ?_
   refine d_q 14 [[]] rfl (q_load_atn _ rfl rfl sz_26 rfl (fun w h => HS.es_rd hpl (by omega) hge h aPk)) (by kernel_rfl) (by kernel_rfl) (by kernel_rfl) rfl ?_
   refine d_h 15 rfl (h_call rfl fn_62 rfl (fun w1 h1 => c62 w1 (nth L x).ea (nth L x).ec (nth L x).es (nth L x).es.length (nth (nth L p).es k) (HS.es_row hxl h1 aPk) (by omega) (Nat.le_refl _) hrX.1)) (by kernel_rfl) (fun w h => h.ent aEt) rfl (fun b9 _ => ?_)
   refine d_p 16 rfl (p_indexAddr rfl rfl rfl sl_22 (x) (by omega) (by omega) rfl) (by kernel_rfl) rfl rfl ?_
   refine d_slot (show _ = Value.pointer (some ⟨gn, x * 3, none⟩) from by rw [Nat.zero_add]) ?_
   refine dFa 17 ?_
   refine dSt 18 ?_ (hl := (by rw [flat_length nv3]; show _ + 1 ≤ _; omega))
   refine dTu [] ?_
   refine dNi ?_
   refine aS ?_
   refine s_weaken (L' := [(0, _), (1, _), (2, _), (6, _), (7, _), (8, _), (14, _), (15, _)]) aSx (fun _ h => h) ?_
   refine s_ex (fun w h => HS.es_set (gn := gn) (cap := cap) (ea := b9.1) (ec := b9.2) (es := insAt (nth L x).es (nth L x).es.length (nth (nth L p).es k)) hxl h aPk aPk aPk) fun L1 => ?_
   refine s_fact (fun w h => h.1) fun hS1 => ?_
   refine s_class (fun w h => h.2) ?_
   have hp1 : p < L1.length := by rw [hS1.len]; exact hpl
   have hf1 : f < L1.length := by rw [hS1.len]; exact hfl
   have hP1 : nth L1 p = nth L p := hS1.other hpl (Ne.symm hpx)
   have hPl1 : (nth L1 p).es.length = (nth L p).es.length := by rw [hP1]
   have hF1 : nth L1 f = nth L f := hS1.other hfl hxf
   have hge1 : (nth L1 p).ea = some ⟨gp9, 0, none⟩ := by rw [hP1]; exact hge
   have hgf1 : (nth L1 f).ea = some ⟨gf9, 0, none⟩ := by rw [hF1]; exact hgf
   refine s_class (fun w h => HS.es_open hp1 (by rw [hP1]; omega) hge1 h aPk) ?_
   refine s_draw [14] mixed ?_
   refine dP 0 ?_
   refine dP 1 ?_
   refine dFa 2 ?_
   refine dLd 3 [[]] ?_
   refine dP 4 ?_
   refine d_p 5 rfl (p_indexAddr rfl rfl rfl sl_22 (p) (by omega) (by omega) rfl) (by kernel_rfl) rfl rfl ?_
   refine d_slot (show _ = Value.pointer (some ⟨gn, p * 3, none⟩) from by rw [Nat.zero_add]) ?_
   refine dFa 6 ?_
   refine d_q 7 [[]] rfl (q_load_at rfl rfl sz_77 (fun w h => HS.nd_cell hp1 h aPk 1 rfl (by decide))) (by kernel_rfl) (by kernel_rfl) (by kernel_rfl) rfl ?_
   refine dP 8 ?_
   refine dFa 9 ?_
   refine dLd 10 [[]] ?_
   refine d_p 11 rfl (p_indexAddr rfl rfl rfl sl_77 (0) (by omega) (by omega) hgf) (by kernel_rfl) rfl rfl ?_
   refine d_q 12 [[]] rfl (q_load_atn _ rfl rfl sz_26 rfl (fun w h => hF1 ▸ HS.es_rdB hf1 hpf (k := 0) (by rw [hF1]; omega) hgf1 h aPk)) (by kernel_rfl) (by kernel_rfl) (by kernel_rfl) rfl ?_
   refine d_p 13 rfl (p_indexAddr rfl rfl rfl sl_77 (k) (by omega) (by omega) hge1) (by kernel_rfl) rfl rfl ?_
   refine d_slot (show _ = Value.pointer (some ⟨gp9, k * 2, none⟩) from by rw [Nat.zero_add]) ?_
   refine dSt 14 ?_ (hl := (by rw [flat_length ev2]; show _ + 2 ≤ _; omega))
   refine dTu [] ?_
   refine dNi ?_
   refine aS ?_
   refine s_ex (fun w h => HS.es_upd (gn := gn) (cap := cap) (g := gp9) (k := k) (x := nth (nth L f).es 0) hp1 (by rw [hP1]; omega) hge1 h aPk aPk aPk (by rw [hP1]; exact hrP)) fun L2 => ?_
   refine s_fact (fun w h => h.1) fun hS2 => ?_
   refine s_class (fun w h => h.2) ?_
   have hf2 : f < L2.length := by rw [hS2.len]; exact hf1
   have hF2 : nth L2 f = nth L f := by rw [hS2.other hf1 hpf, hF1]
   have hx2 : x < L2.length := by rw [hS2.len, hS1.len]; exact hxl
   refine s_drawB [.blk bt 24 4 [.int .i64 (j : Int), .int .i64 mo, .int .i64 rm, .slice (some ⟨gn, 0, none⟩) L.length cap], .blk gn 102 (cap * 3) (L2.flatMap LNd.vals), .star (L2.map (subN 26)), .blk b1 102 3 (LNd.vals (nth L p)), .blk b2 102 3 (LNd.vals (nth L x)), .blk b7 102 3 (LNd.vals (nth L f))] [10] mixed ?_
   refine dP 0 ?_
   refine dP 1 ?_
   refine dFa 2 ?_
   refine dLd 3 [[]] ?_
   refine dP 4 ?_
   refine dFa 5 ?_
   refine dLd 6 [[]] ?_
   refine d_h 7 rfl (h_call rfl fn_72 rfl (fun w1 h1 => c72 w1 (nth L f).ea (nth L f).ec (nth L f).es 0 (hF2 ▸ HS.es_row hf2 h1 aPk) (by omega) (by omega) hrF.1)) (by kernel_rfl) (fun w h => h.ent aEt) rfl (fun b10 _ => ?_)
   refine d_p 8 rfl (p_indexAddr rfl rfl rfl sl_22 (f) (by omega) (by omega) rfl) (by kernel_rfl) rfl rfl ?_
   refine d_slot (show _ = Value.pointer (some ⟨gn, f * 3, none⟩) from by rw [Nat.zero_add]) ?_
   refine dFa 9 ?_
   refine dSt 10 ?_ (hl := (by rw [flat_length nv3]; show _ + 1 ≤ _; omega))
   refine dTu [] ?_
   refine dNi ?_
   iterate 2 refine aS ?_
   refine s_weaken (L' := [(0, _), (1, _), (2, _), (6, _), (7, _), (8, _), (14, _), (15, _)]) aSx (fun _ h => h) ?_
   iterate 2 refine aS ?_
   refine o_ex (fun w h => HS.es_set (gn := gn) (cap := cap) (ea := b10.1) (ec := b10.2) (es := others (nth L f).es 0) hf2 h aPk aPk aPk) fun L3 => ?_
   refine o_fact (fun w h => h.1) fun hS3 => ?_
   refine o_class (fun w h => h.2) ?_
   have hf3 : f < L3.length := by rw [hS3.len]; exact hf2
   have hx3 : x < L3.length := by rw [hS3.len]; exact hx2
   have hX3 : nth L3 x = nth L1 x := by rw [hS3.other hx2 (Ne.symm hxf), hS2.other (by rw [hS1.len]; exact hxl) hpx]
   have hcx3 : (nth L3 x).ca = (nth L x).ca ∧ (nth L3 x).cc = (nth L x).cc ∧ (nth L3 x).cs = (nth L x).cs := by rw [hX3, hS1.at_]; exact ⟨rfl, rfl, rfl⟩
   have hcf3 : (nth L3 f).ca = (nth L f).ca ∧ (nth L3 f).cc = (nth L f).cc ∧ (nth L3 f).cs = (nth L f).cs := by rw [hS3.at_, hF2]; exact ⟨rfl, rfl, rfl⟩
   have hln3 : L3.length = L.length := by rw [hS3.len, hS2.len, hS1.len]
   iterate 4 refine aS ?_
   refine s_cutI (α := List LNd) [211, 212, 213, 214, 215, 216, 217, 218, 219, 220, 221, 222, 223, 224, 225, 226, 227, 228, 229, 230, 231, 232, 233, 234, 235, 236, 237] (fun _ => []) (fun y => HS w (fps [.blk bt 24 4 [.int .i64 (j : Int), .int .i64 mo, .int .i64 rm, .slice (some ⟨gn, 0, none⟩) (L).length cap], .blk gn 102 (cap * 3) ((L).flatMap LNd.vals), .star ((L).map (subN 26))]) [.blk bt 24 4 [.int .i64 (j : Int), .int .i64 mo, .int .i64 rm, .slice (some ⟨gn, 0, none⟩) (y).length cap], .blk gn 102 (cap * 3) ((y).flatMap LNd.vals), .star ((y).map (subN 26))]) (fun y => pln y = (givB (pln L) p k f x) ∧ y.length = L.length) ?_ ?_
   ·skip
    refine s_cond rfl (fun h11 => ?_) fun h11 => ?_
    ·try simp only [decide_eq_true_eq] at h11
     have hcz : 0 < (nth L f).cs.length := by have hq := h11; omega
     refine s_fact (fun w h => HS.cs_some hf3 (by rw [hcf3.2.2]; exact hcz) h aPk) fun hgk => ?_
     obtain ⟨gk9, hgk⟩ := hgk
     have hgk0 : (nth L f).ca = some ⟨gk9, 0, none⟩ := by rw [← hcf3.1]; exact hgk
     refine aS ?_
     refine s_drawB [.blk bt 24 4 [.int .i64 (j : Int), .int .i64 mo, .int .i64 rm, .slice (some ⟨gn, 0, none⟩) L.length cap], .blk gn 102 (cap * 3) (L3.flatMap LNd.vals), .star (L3.map (subN 26)), .blk b1 102 3 (LNd.vals (nth L p)), .blk b2 102 3 (LNd.vals (nth L x)), .blk b7 102 3 (LNd.vals (nth L f))] [17] mixed ?_
     refine dP 0 ?_
     refine dP 1 ?_
     refine dFa 2 ?_
     refine dLd 3 [[]] ?_
     refine dP 4 ?_
     refine dFa 5 ?_
     refine dLd 6 [[]] ?_
     refine dFa 7 ?_
     refine dLd 8 [[]] ?_
     refine d_p 9 rfl (p_len_slice rfl rfl Tryz.underlying30) (by kernel_rfl) rfl rfl ?_
     refine dFa 10 ?_
     refine dLd 11 [[]] ?_
     refine d_p 12 rfl (p_indexAddr rfl rfl rfl sl_30 (0) (by omega) (by omega) hgk0) (by kernel_rfl) rfl rfl ?_
     refine d_q 13 [[]] rfl (q_load_at rfl rfl sz_3 (fun w h => hcf3.2.2 ▸ HS.cs_rd hf3 (k := 0) (by rw [hcf3.2.2]; omega) hgk h aPk)) (by kernel_rfl) (by kernel_rfl) (by kernel_rfl) rfl ?_
     refine d_h 14 rfl (h_call rfl fn_101 rfl (fun w1 h1 => c101 w1 (nth L x).ca (nth L x).cc (nth L x).cs (nth L x).cs.length ((nth L f).cs.getD 0 0) (cs_rowE hcx3 (HS.cs_row hx3 h1 aPk)) (by omega) (Nat.le_refl _) hrXc.1)) (by kernel_rfl) (fun w h => h.ent aEt) rfl (fun b12 _ => ?_)
     refine d_p 15 rfl (p_indexAddr rfl rfl rfl sl_22 (x) (by omega) (by omega) rfl) (by kernel_rfl) rfl rfl ?_
     refine d_slot (show _ = Value.pointer (some ⟨gn, x * 3, none⟩) from by rw [Nat.zero_add]) ?_
     refine dFa 16 ?_
     refine dSt 17 ?_ (hl := (by rw [flat_length nv3]; show _ + 1 ≤ _; omega))
     refine dTu [] ?_
     refine dNi ?_
     refine s_ex (fun w h => HS.cs_set (gn := gn) (cap := cap) (ca := b12.1) (cc := b12.2) (cs := insAt (nth L x).cs (nth L x).cs.length ((nth L f).cs.getD 0 0)) hx3 h aPk aPk aPk) fun L4 => ?_
     refine s_fact (fun w h => h.1) fun hS4 => ?_
     refine s_class (fun w h => h.2) ?_
     have hf4 : f < L4.length := by rw [hS4.len]; exact hf3
     have hcf4 : (nth L4 f).ca = (nth L f).ca ∧ (nth L4 f).cc = (nth L f).cc ∧ (nth L4 f).cs = (nth L f).cs := by rw [hS4.other hf3 hxf]; exact hcf3
     refine s_drawB [.blk bt 24 4 [.int .i64 (j : Int), .int .i64 mo, .int .i64 rm, .slice (some ⟨gn, 0, none⟩) L.length cap], .blk gn 102 (cap * 3) (L4.flatMap LNd.vals), .star (L4.map (subN 26)), .blk b1 102 3 (LNd.vals (nth L p)), .blk b2 102 3 (LNd.vals (nth L x)), .blk b7 102 3 (LNd.vals (nth L f))] [10] mixed ?_
     refine dP 0 ?_
     refine dP 1 ?_
     refine dFa 2 ?_
     refine dLd 3 [[]] ?_
     refine dP 4 ?_
     refine dFa 5 ?_
     refine dLd 6 [[]] ?_
     refine d_h 7 rfl (h_call rfl fn_108 rfl (fun w1 h1 => c108 w1 (nth L f).ca (nth L f).cc (nth L f).cs 0 (cs_rowE hcf4 (HS.cs_row hf4 h1 aPk)) (by omega) (by omega) hrFc.1)) (by kernel_rfl) (fun w h => h.ent aEt) rfl (fun b13 _ => ?_)
     refine d_p 8 rfl (p_indexAddr rfl rfl rfl sl_22 (f) (by omega) (by omega) rfl) (by kernel_rfl) rfl rfl ?_
     refine d_slot (show _ = Value.pointer (some ⟨gn, f * 3, none⟩) from by rw [Nat.zero_add]) ?_
     refine dFa 9 ?_
     refine dSt 10 ?_ (hl := (by rw [flat_length nv3]; show _ + 1 ≤ _; omega))
     refine dTu [] ?_
     refine dNi ?_
     refine s_ex (fun w h => HS.cs_set (gn := gn) (cap := cap) (ca := b13.1) (cc := b13.2) (cs := others (nth L f).cs 0) hf4 h aPk aPk aPk) fun L5 => ?_
     refine s_fact (fun w h => h.1) fun hS5 => ?_
     refine s_class (fun w h => h.2) ?_
     have hz5 : L5.length = L.length := by rw [hS5.len, hS4.len, hln3]
     exact s_joinI L5 ⟨by rw [hS5.cs, hS4.cs, hS3.es, hS2.es, hS1.es, hP1, ins_end, ins_end]; exact (givB_1 hPN hNf hNx hcz).symm, hz5⟩ aSx (fun w h => by rw [hz5]; exact h.ent aEt)
    try simp only [decide_eq_false_iff_not] at h11
    have hcz : (nth L f).cs.length = 0 := by have hq := h11; omega
    refine aS ?_
    exact s_joinI L3 ⟨by rw [hS3.es, hS2.es, hS1.es, hP1, ins_end]; exact (givB_0 hPN hNf hNx hcz).symm, hln3⟩ aSx (fun w h => by rw [hln3]; exact h.ent aEt)
   intro LZ hLZ
   obtain ⟨hLZ1, hLZ2⟩ := hLZ
   exact s_ret0 rfl (fun w' h' => ⟨((gn, cap), LZ), rfl, ⟨hLZ1, by simp only []; omega, hcm⟩, h'.ent aEt⟩)
  try simp only [decide_eq_false_iff_not] at h8
  exfalso; first | omega | (simp at h8; done) | (simp_all; done)
 try simp only [decide_eq_false_iff_not] at h6
 exfalso; first | omega | (simp at h6; done) | (simp_all; done)
set_option maxHeartbeats 2000000 in
theorem c73m (w : World) (bt : Nat) (j : Nat) (mo rm : Int) (gn cap : Nat) (L : List LNd) (p k x : Nat) (q a b : Nat) (hw : HS w (fps [.blk bt 24 4 [.int .i64 (j : Int), .int .i64 mo, .int .i64 rm, .slice (some ⟨gn, 0, none⟩) (L).length cap], .blk gn 102 (cap * 3) ((L).flatMap LNd.vals), .star ((L).map (subN 26))]) [.blk bt 24 4 [.int .i64 (j : Int), .int .i64 mo, .int .i64 rm, .slice (some ⟨gn, 0, none⟩) (L).length cap], .blk gn 102 (cap * 3) ((L).flatMap LNd.vals), .star ((L).map (subN 26))] w) (hnc : L.length ≤ cap) (hcm : cap ≤ maxLen) (hok : FilOk mo (pln L) p k) (hx : kdN (pln L) p k = x) (hix : ixR (nth (pln L) p).cs (x : Int) = k) (hno : ¬ (0 < k ∧ mo / 2 < ((nth (pln L) (kdN (pln L) p (k - 1))).es.length : Int))) (hnb : ¬ (k + 1 < (nth (pln L) p).cs.length ∧ mo / 2 < ((nth (pln L) (kdN (pln L) p (k + 1))).es.length : Int))) (h2 : 2 ≤ (nth (pln L) p).cs.length) (hq0 : q = if k = 0 then 0 else k - 1) (ha0 : kdN (pln L) p q = a) (hb0 : kdN (pln L) p (q + 1) = b) : Calls Tryz.prog 73 #[.pointer (some ⟨bt, 0, none⟩), .int .i64 (p : Int), .int .i64 (x : Int)] w fun en w' => ∃ g : (Nat × Nat) × List LNd, en = .returned (.tuple #[]) ∧ (pln g.2 = mrgN (pln L) p q a b ∧ g.2.length ≤ g.1.2 ∧ g.1.2 ≤ maxLen) ∧ HS w (fps [.blk bt 24 4 [.int .i64 (j : Int), .int .i64 mo, .int .i64 rm, .slice (some ⟨gn, 0, none⟩) (L).length cap], .blk gn 102 (cap * 3) ((L).flatMap LNd.vals), .star ((L).map (subN 26))]) [.blk bt 24 4 [.int .i64 (j : Int), .int .i64 mo, .int .i64 rm, .slice (some ⟨g.1.1, 0, none⟩) (g.2).length g.1.2], .blk g.1.1 102 (g.1.2 * 3) ((g.2).flatMap LNd.vals), .star ((g.2).map (subN 26))] w' := by
 have hpl := hok.pl
 have hkl := hok.kl
 have hsh := hok.sh
 have hln := hok.len
 have hmo := hok.mo0
 have hsp := hok.sm p
 rw [pln_len] at hpl hln
 have hPN := pln_nth hpl
 rw [hPN] at hkl hsh hsp hix
 simp only [LNd.pl] at hkl hsh hsp hix
 have hx0 := hx
 have hklx : k < (nth L p).pl.cs.length := hkl
 have hkx := hok.kid k (by rw [hPN]; exact hklx)
 rw [hx0, pln_len] at hkx
 obtain ⟨_, hxl, hpx⟩ := hkx
 have hcx := hok.kd (x := k) (by rw [hPN]; exact hklx)
 rw [hx0, hPN] at hcx
 simp only [LNd.pl] at hcx
 have hNx := pln_nth hxl
 have hsx := hok.sm x
 rw [hNx] at hsx
 simp only [LNd.pl] at hsx
 rw [hPN] at h2
 simp only [LNd.pl] at h2
 have hqk : (k = 0 → q = 0) ∧ (k ≠ 0 → q + 1 = k) := by rw [hq0]; constructor <;> intro h9 <;> (first | rw [if_pos h9] | (rw [if_neg h9]; omega))
 have hql : q + 1 < (nth L p).cs.length := by (rcases Nat.eq_zero_or_pos k with h9 | h9); (have := hqk.1 h9; omega); (have := hqk.2 (by omega); omega)
 have hkla : q < (nth L p).pl.cs.length := by show _ < (nth L p).cs.length; omega
 have hklb : q + 1 < (nth L p).pl.cs.length := hql
 have hka := hok.kid q (by rw [hPN]; exact hkla)
 rw [ha0, pln_len] at hka
 obtain ⟨_, hal, hpa⟩ := hka
 have hca := hok.kd (x := q) (by rw [hPN]; exact hkla)
 rw [ha0, hPN] at hca
 simp only [LNd.pl] at hca
 have hNa := pln_nth hal
 have hsa := hok.sm a
 rw [hNa] at hsa
 simp only [LNd.pl] at hsa
 have hkb := hok.kid (q + 1) (by rw [hPN]; exact hklb)
 rw [hb0, pln_len] at hkb
 obtain ⟨_, hbl, hpb⟩ := hkb
 have hcb := hok.kd (x := (q + 1)) (by rw [hPN]; exact hklb)
 rw [hb0, hPN] at hcb
 simp only [LNd.pl] at hcb
 have hNb := pln_nth hbl
 have hsb := hok.sm b
 rw [hNb] at hsb
 simp only [LNd.pl] at hsb
 have hab : a ≠ b := by rw [← ha0, ← hb0]; exact hok.dis _ _ (by rw [hPN]; exact hkla) (by rw [hPN]; exact hklb) (by omega)
 refine enter (args := [_, _, _]) Tryz.func73 Tryz.ntmps73 rfl rfl hw ?_
 iterate 7 refine aS ?_
 refine o_q (q_call rfl fn_100 rfl (fun w1 h1 => by have h9 := c100 w1 j mo rm (some ⟨gn, 0, none⟩) cap L p (x : Int) hpl (HS.nt_at h1 aPk aPk) (by omega) (by omega); rw [hix] at h9; exact h9)) rfl ?_
 iterate 9 refine aS ?_
 refine o_p (p_indexAddr rfl rfl rfl sl_22 (p) (by omega) (by omega) rfl) rfl ?_
 refine o_slot (show _ = Value.pointer (some ⟨gn, p * 3, none⟩) from by rw [Nat.zero_add]) ?_
 refine o_q (q_load_atn _ rfl rfl sz_102 rfl (fun w h => HS.nd_cells hpl h aPk)) rfl ?_
 refine oAl (fun b1 _ => ?_) zr_102
 refine oSt ?_
 iterate 8 refine aS ?_
 refine o_p (p_indexAddr rfl rfl rfl sl_22 (x) (by omega) (by omega) rfl) rfl ?_
 refine o_slot (show _ = Value.pointer (some ⟨gn, x * 3, none⟩) from by rw [Nat.zero_add]) ?_
 refine o_q (q_load_atn _ rfl rfl sz_102 rfl (fun w h => HS.nd_cells hxl h aPk)) rfl ?_
 refine oAl (fun b2 _ => ?_) zr_102
 refine oSt ?_
 iterate 7 refine aS ?_
 refine o_p (p_quo_nn rfl rfl rfl (by omega) (by omega) (by omega)) rfl ?_
 refine o_fact (fun w h => HS.cs_some hpl (by omega) h aPk) fun hgc => ?_
 obtain ⟨gc9, hgc⟩ := hgc
 refine o_fact (fun w h => HS.es_room hpl h aPk) fun hrP => ?_
 refine o_fact (fun w h => HS.es_room hxl h aPk) fun hrX => ?_
 refine o_fact (fun w h => HS.cs_room hxl h aPk) fun hrXc => ?_
 refine o_fact (fun w h => HS.cs_room hpl h aPk) fun hrPc => ?_
 refine o_fact (fun w h => HS.es_some hpl (by omega) h aPk) fun hge => ?_
 obtain ⟨gp9, hge⟩ := hge
 refine o_fact (fun w h => HS.es_room hal h aPk) fun hrA => ?_
 iterate 4 refine aS ?_
 refine s_weaken (L' := [(0, _), (1, _), (2, _), (6, _), (7, _), (8, _), (9, _)]) aSx (fun _ h => h) ?_
 iterate 4 refine aS ?_
 refine s_cutI (α := Unit) [10, 11, 12, 13, 46, 47, 48, 49, 50, 51, 52, 53, 54, 55, 56, 57, 58, 59, 60, 61, 62, 63, 64, 65, 66, 67, 68, 69, 70, 71, 72, 73, 74, 75, 76, 77, 78, 79, 80, 81, 82, 83, 84, 85, 86, 87, 88, 89, 90, 91, 92, 93, 94, 95, 96, 97, 98, 99, 100, 101, 102, 103, 104, 105, 106, 107, 108, 109, 110, 111, 112, 113, 114, 115, 116, 117, 118, 119, 120, 121, 122, 123, 124, 125, 126, 127, 128, 129, 130, 131, 132, 133, 134, 135, 136, 137, 138, 139, 140] (fun _ => []) (fun _ => HS w (fps [.blk bt 24 4 [.int .i64 (j : Int), .int .i64 mo, .int .i64 rm, .slice (some ⟨gn, 0, none⟩) (L).length cap], .blk gn 102 (cap * 3) ((L).flatMap LNd.vals), .star ((L).map (subN 26))]) [.blk bt 24 4 [.int .i64 (j : Int), .int .i64 mo, .int .i64 rm, .slice (some ⟨gn, 0, none⟩) L.length cap], .blk gn 102 (cap * 3) (L.flatMap LNd.vals), .star (L.map (subN 26)), .blk b1 102 3 (LNd.vals (nth L p)), .blk b2 102 3 (LNd.vals (nth L x))]) (fun _ => True) ?_ ?_
 ·skip
  refine s_cond rfl (fun h3 => ?_) fun h3 => ?_
  ·try simp only [decide_eq_true_eq] at h3
   have hk0 : 0 < k := by have hq := h3; omega
   have hkl9 : k - 1 < (nth L p).pl.cs.length := by show _ < (nth L p).cs.length; omega
   have hy0 : (kdN (pln L) p (k - 1)) = (kdN (pln L) p (k - 1)) := rfl
   have hk9 := hok.kid (k - 1) (by rw [hPN]; exact hkl9)
   rw [pln_len] at hk9
   obtain ⟨_, hyl, hpy⟩ := hk9
   have hcy := hok.kd (x := k - 1) (by rw [hPN]; exact hkl9)
   rw [show nth (pln L) p = (nth L p).pl from hPN] at hcy
   simp only [LNd.pl] at hcy
   have hNy := pln_nth hyl
   have hsy := hok.sm (kdN (pln L) p (k - 1))
   rw [hNy] at hsy
   simp only [LNd.pl] at hsy
   iterate 6 refine aS ?_
   try refine oWr ?_
   refine o_p (p_indexAddr rfl rfl rfl sl_30 (k - 1) (by omega) (by omega) hgc) rfl ?_
   refine o_q (q_load_at rfl rfl sz_3 (fun w h => HS.cs_rd hpl (by omega) hgc h aPk)) rfl ?_
   refine o_slot (show _ = Value.int .i64 ((kdN (pln L) p (k - 1)) : Int) from by rw [← hcy]) ?_
   iterate 9 refine aS ?_
   refine o_p (p_indexAddr rfl rfl rfl sl_22 ((kdN (pln L) p (k - 1))) (by omega) (by omega) rfl) rfl ?_
   refine o_slot (show _ = Value.pointer (some ⟨gn, (kdN (pln L) p (k - 1)) * 3, none⟩) from by rw [Nat.zero_add]) ?_
   refine o_q (q_load_atn _ rfl rfl sz_102 rfl (fun w h => HS.nd_cells hyl h aPk)) rfl ?_
   refine oAl (fun b4 _ => ?_) zr_102
   refine oSt ?_
   iterate 7 refine aS ?_
   try refine oWr ?_
   iterate 8 refine aS ?_
   refine s_cond rfl (fun h5 => ?_) fun h5 => ?_
   ·try simp only [decide_eq_true_eq] at h5
    exfalso; have hq := h5; exact hno ⟨hk0, by rw [hNy]; show _ < ((nth L (kdN (pln L) p (k - 1))).es.length : Int); omega⟩
   try simp only [decide_eq_false_iff_not] at h5
   refine aS ?_
   exact s_joinI () trivial aSx (fun w h => h.ent aEt)
  try simp only [decide_eq_false_iff_not] at h3
  refine aS ?_
  exact s_joinI () trivial aSx (fun w h => h.ent aEt)
 intro _ _
 iterate 5 refine aS ?_
 try refine oWr ?_
 iterate 5 refine aS ?_
 refine s_cutI (α := Unit) [14, 15, 147, 148, 149, 150, 151, 152, 153, 154, 155, 156, 157, 158, 159, 160, 161, 162, 163, 164, 165, 166, 167, 168, 169, 170, 171, 172, 173, 174, 175, 176, 177, 178, 179, 180, 181, 182, 183, 184, 185, 186, 187, 188, 189, 190, 191, 192, 193, 194, 195, 196, 197, 198, 199, 200, 201, 202, 203, 204, 205, 206, 207, 208, 209, 210, 211, 212, 213, 214, 215, 216, 217, 218, 219, 220, 221, 222, 223, 224, 225, 226, 227, 228, 229, 230, 231, 232, 233, 234, 235, 236, 237] (fun _ => []) (fun _ => HS w (fps [.blk bt 24 4 [.int .i64 (j : Int), .int .i64 mo, .int .i64 rm, .slice (some ⟨gn, 0, none⟩) (L).length cap], .blk gn 102 (cap * 3) ((L).flatMap LNd.vals), .star ((L).map (subN 26))]) [.blk bt 24 4 [.int .i64 (j : Int), .int .i64 mo, .int .i64 rm, .slice (some ⟨gn, 0, none⟩) L.length cap], .blk gn 102 (cap * 3) (L.flatMap LNd.vals), .star (L.map (subN 26)), .blk b1 102 3 (LNd.vals (nth L p)), .blk b2 102 3 (LNd.vals (nth L x))]) (fun _ => True) ?_ ?_
 ·skip
  refine s_cond rfl (fun h6 => ?_) fun h6 => ?_
  ·try simp only [decide_eq_true_eq] at h6
   have hkl8 : k + 1 < (nth L p).pl.cs.length := by have hq := h6; show _ < (nth L p).cs.length; omega
   have hk8 := hok.kid (k + 1) (by rw [hPN]; exact hkl8)
   rw [pln_len] at hk8
   obtain ⟨_, hzl, hpz⟩ := hk8
   have hcz := hok.kd (x := k + 1) (by rw [hPN]; exact hkl8)
   rw [show nth (pln L) p = (nth L p).pl from hPN] at hcz
   simp only [LNd.pl] at hcz
   have hNz := pln_nth hzl
   have hsz := hok.sm (kdN (pln L) p (k + 1))
   rw [hNz] at hsz
   simp only [LNd.pl] at hsz
   iterate 6 refine aS ?_
   try refine oWr ?_
   refine o_p (p_indexAddr rfl rfl rfl sl_30 (k + 1) (by omega) (by omega) hgc) rfl ?_
   refine o_q (q_load_at rfl rfl sz_3 (fun w h => HS.cs_rd hpl (k := k + 1) hkl8 hgc h aPk)) rfl ?_
   refine o_slot (show _ = Value.int .i64 ((kdN (pln L) p (k + 1)) : Int) from by rw [← hcz]) ?_
   iterate 9 refine aS ?_
   refine o_p (p_indexAddr rfl rfl rfl sl_22 ((kdN (pln L) p (k + 1))) (by omega) (by omega) rfl) rfl ?_
   refine o_slot (show _ = Value.pointer (some ⟨gn, (kdN (pln L) p (k + 1)) * 3, none⟩) from by rw [Nat.zero_add]) ?_
   refine o_q (q_load_atn _ rfl rfl sz_102 rfl (fun w h => HS.nd_cells hzl h aPk)) rfl ?_
   refine oAl (fun b7 _ => ?_) zr_102
   refine oSt ?_
   iterate 2 refine aS ?_
   refine s_weaken (L' := [(0, _), (1, _), (2, _), (6, _), (7, _), (8, _), (9, _), (14, _), (15, _), (44, _), (45, _), (141, _), (142, _), (143, _), (144, _), (145, _), (146, _)]) aSx (fun _ h => h) ?_
   iterate 7 refine aS ?_
   refine s_cond rfl (fun h8 => ?_) fun h8 => ?_
   ·try simp only [decide_eq_true_eq] at h8
    exfalso; have hq := h8; exact hnb ⟨by rw [hPN]; exact hkl8, by rw [hNz]; show _ < ((nth L (kdN (pln L) p (k + 1))).es.length : Int); omega⟩
   try simp only [decide_eq_false_iff_not] at h8
   refine aS ?_
   exact s_joinI () trivial aSx (fun w h => h.ent aEt)
  try simp only [decide_eq_false_iff_not] at h6
  refine aS ?_
  exact s_joinI () trivial aSx (fun w h => h.ent aEt)
 intro _ _
 iterate 8 refine aS ?_
 refine s_cond rfl (fun h9 => ?_) fun h9 => ?_
 ·try simp only [decide_eq_true_eq] at h9
  exfalso; first | omega | (simp at h9; done) | (simp_all; done)
 try simp only [decide_eq_false_iff_not] at h9
 iterate 5 refine aS ?_
 try refine oWr ?_
 iterate 8 refine aS ?_
 refine s_weaken (L' := [(0, _), (1, _), (7, _), (16, _), (245, _)]) aSx (fun _ h => h) ?_
 refine s_cutI (α := Unit) [16] (fun _ => [(16, .int .i64 (q : Int))]) (fun _ => HS w (fps [.blk bt 24 4 [.int .i64 (j : Int), .int .i64 mo, .int .i64 rm, .slice (some ⟨gn, 0, none⟩) (L).length cap], .blk gn 102 (cap * 3) ((L).flatMap LNd.vals), .star ((L).map (subN 26))]) [.blk bt 24 4 [.int .i64 (j : Int), .int .i64 mo, .int .i64 rm, .slice (some ⟨gn, 0, none⟩) L.length cap], .blk gn 102 (cap * 3) (L.flatMap LNd.vals), .star (L.map (subN 26)), .blk b1 102 3 (LNd.vals (nth L p)), .blk b2 102 3 (LNd.vals (nth L x))]) (fun _ => True) ?_ ?_
 ·skip
  refine s_cond rfl (fun h10 => ?_) fun h10 => ?_
  ·try simp only [decide_eq_true_eq] at h10
   iterate 3 refine aS ?_
   have hqz : q = 0 := hqk.1 (by have hq := h10; omega)
   exact s_joinI () trivial (by rw [hqz]; exact aSx) (fun w h => h.ent aEt)
  try simp only [decide_eq_false_iff_not] at h10
  refine aS ?_
  have hqz : ((k : Int) - 1) = (q : Int) := by have h9 := hqk.2 (by have hq := h10; omega); omega
  exact s_joinI () trivial (by rw [← hqz]; exact aSx) (fun w h => h.ent aEt)
 intro _ _
 refine aS ?_
 refine s_draw [] mixed ?_
 refine dFa 0 ?_
 refine dLd 1 [] ?_
 refine dP 2 ?_
 refine d_p 3 rfl (p_indexAddr rfl rfl rfl sl_30 (q) (by omega) (by omega) hgc) (by kernel_rfl) rfl rfl ?_
 refine d_q 4 [] rfl (q_load_at rfl rfl sz_3 (fun w h => HS.cs_rd hpl (k := q) (by omega) hgc h aPk)) (by kernel_rfl) (by kernel_rfl) (by kernel_rfl) rfl ?_
 refine d_slot (show _ = Value.int .i64 (a : Int) from by rw [hca]) ?_
 refine dFa 5 ?_
 refine dLd 6 [] ?_
 refine dP 7 ?_
 refine dP 8 ?_
 try refine dWr ?_
 refine d_p 9 rfl (p_indexAddr rfl rfl rfl sl_30 (q + 1) (by omega) (by omega) hgc) (by kernel_rfl) rfl rfl ?_
 refine d_q 10 [] rfl (q_load_at rfl rfl sz_3 (fun w h => HS.cs_rd hpl (k := q + 1) (by omega) hgc h aPk)) (by kernel_rfl) (by kernel_rfl) (by kernel_rfl) rfl ?_
 refine d_slot (show _ = Value.int .i64 (b : Int) from by rw [hcb]) ?_
 refine dP 11 ?_
 refine dP 12 ?_
 refine dNi ?_
 refine aS ?_
 refine s_drawB [.blk bt 24 4 [.int .i64 (j : Int), .int .i64 mo, .int .i64 rm, .slice (some ⟨gn, 0, none⟩) L.length cap], .blk gn 102 (cap * 3) (L.flatMap LNd.vals), .star (L.map (subN 26)), .blk b1 102 3 (LNd.vals (nth L p)), .blk b2 102 3 (LNd.vals (nth L x))] [39] mixed ?_
 refine dP 0 ?_
 refine dP 1 ?_
 refine dFa 2 ?_
 refine dLd 3 [[]] ?_
 refine dP 4 ?_
 refine dP 5 ?_
 refine dP 6 ?_
 refine dFa 7 ?_
 refine dLd 8 [[]] ?_
 refine dP 9 ?_
 refine d_p 10 rfl (p_indexAddr rfl rfl rfl sl_22 (a) (by omega) (by omega) rfl) (by kernel_rfl) rfl rfl ?_
 refine d_slot (show _ = Value.pointer (some ⟨gn, a * 3, none⟩) from by rw [Nat.zero_add]) ?_
 refine dFa 11 ?_
 refine d_q 12 [[]] rfl (q_load_at rfl rfl sz_77 (fun w h => HS.nd_cell hal h aPk 1 rfl (by decide))) (by kernel_rfl) (by kernel_rfl) (by kernel_rfl) rfl ?_
 refine dP 13 ?_
 refine dP 14 ?_
 refine dFa 15 ?_
 refine dLd 16 [[]] ?_
 refine dP 17 ?_
 refine d_p 18 rfl (p_indexAddr rfl rfl rfl sl_22 (a) (by omega) (by omega) rfl) (by kernel_rfl) rfl rfl ?_
 refine d_slot (show _ = Value.pointer (some ⟨gn, a * 3, none⟩) from by rw [Nat.zero_add]) ?_
 refine dFa 19 ?_
 refine d_q 20 [[]] rfl (q_load_at rfl rfl sz_77 (fun w h => HS.nd_cell hal h aPk 1 rfl (by decide))) (by kernel_rfl) (by kernel_rfl) (by kernel_rfl) rfl ?_
 refine d_p 21 rfl (p_len_slice rfl rfl Tryz.underlying77) (by kernel_rfl) rfl rfl ?_
 refine dFa 22 ?_
 refine dLd 23 [[]] ?_
 refine dP 24 ?_
 refine d_p 25 rfl (p_indexAddr rfl rfl rfl sl_77 (q) (by omega) (by omega) hge) (by kernel_rfl) rfl rfl ?_
 refine d_q 26 [[]] rfl (q_load_atn _ rfl rfl sz_26 rfl (fun w h => HS.es_rd hpl (k := q) (by omega) hge h aPk)) (by kernel_rfl) (by kernel_rfl) (by kernel_rfl) rfl ?_
 refine dP 28 ?_
 refine dP 29 ?_
 refine dFa 30 ?_
 refine dLd 31 [[]] ?_
 refine dP 32 ?_
 refine d_p 33 rfl (p_indexAddr rfl rfl rfl sl_22 (b) (by omega) (by omega) rfl) (by kernel_rfl) rfl rfl ?_
 refine d_slot (show _ = Value.pointer (some ⟨gn, b * 3, none⟩) from by rw [Nat.zero_add]) ?_
 refine dFa 34 ?_
 refine d_q 35 [[]] rfl (q_load_at rfl rfl sz_77 (fun w h => HS.nd_cell hbl h aPk 1 rfl (by decide))) (by kernel_rfl) (by kernel_rfl) (by kernel_rfl) rfl ?_
 refine d_h 27 rfl (h_call rfl fn_62 rfl (fun w1 h1 => c62 w1 (nth L a).ea (nth L a).ec (nth L a).es (nth L a).es.length (nth (nth L p).es q) (HS.es_row hal h1 aPk) (by omega) (Nat.le_refl _) hrA.1)) (by kernel_rfl) (fun w h => h.ent aEt) rfl (fun b11 _ => ?_)
 refine d_h 36 rfl (h_appendS ((nth L b).es.flatMap TEnt.vals) rfl rfl rfl sl_77 Tryz.underlying77 zr_26 rfl aPk (fun w h => Rw.src ev2 (HS.es_row hbl h aPk) (HS.refl _ [])) (by rw [flat_length ev2]) (flat_one ev1 _) (by (try rw [ins_end]); (try simp only [List.length_append, List.length_singleton]); omega) (by simp only [maxLen]; (try rw [ins_end]); (try simp only [List.length_append, List.length_singleton]); omega)) (by kernel_rfl) (fun w h => h.ent aEt) rfl (fun b12 _ => ?_)
 refine d_p 37 rfl (p_indexAddr rfl rfl rfl sl_22 (a) (by omega) (by omega) rfl) (by kernel_rfl) rfl rfl ?_
 refine d_slot (show _ = Value.pointer (some ⟨gn, a * 3, none⟩) from by rw [Nat.zero_add]) ?_
 refine dFa 38 ?_
 refine dSt 39 ?_ (hl := (by rw [flat_length nv3]; show _ + 1 ≤ _; omega))
 refine dTu [] ?_
 refine dNi ?_
 refine aS ?_
 refine s_weaken (L' := [(0, _), (1, _), (7, _), (16, _), (17, _), (18, _)]) aSx (fun _ h => h) ?_
 refine s_ex (fun w h => HS.es_setN (gn := gn) (cap := cap) (ea := b12.1) (ec := b12.2) (es := (nth L a).es ++ (nth (nth L p).es q) :: (nth L b).es) (n := (insAt (nth L a).es (nth L a).es.length (nth (nth L p).es q)).length + (nth L b).es.length) (xs := (insAt (nth L a).es (nth L a).es.length (nth (nth L p).es q)).flatMap TEnt.vals ++ (nth L b).es.flatMap TEnt.vals) hal (by rw [ins_end]; simp only [List.length_append, List.length_cons, List.length_nil]; omega) (by rw [ins_end]; simp only [List.flatMap_append, List.flatMap_cons, List.flatMap_nil, List.append_nil, List.append_assoc]) h aPk aPk aPk) fun L1 => ?_
 refine s_fact (fun w h => h.1) fun hS1 => ?_
 refine s_class (fun w h => h.2) ?_
 have ha1 : a < L1.length := by rw [hS1.len]; exact hal
 have hb1 : b < L1.length := by rw [hS1.len]; exact hbl
 have hAc1 : (nth L1 a).cs = (nth L a).cs := by rw [hS1.at_]
 have hBc1 : (nth L1 b).cs = (nth L b).cs := by rw [hS1.other hbl hab]
 have hAl1 : (nth L1 a).cs.length ≤ 900 := by rw [hAc1]; exact hsa.2
 have hBl1 : (nth L1 b).cs.length ≤ 900 := by rw [hBc1]; exact hsb.2
 refine s_drawB [.blk bt 24 4 [.int .i64 (j : Int), .int .i64 mo, .int .i64 rm, .slice (some ⟨gn, 0, none⟩) L.length cap], .blk gn 102 (cap * 3) (L1.flatMap LNd.vals), .star (L1.map (subN 26)), .blk b1 102 3 (LNd.vals (nth L p)), .blk b2 102 3 (LNd.vals (nth L x))] [26] mixed ?_
 refine dP 0 ?_
 refine dP 1 ?_
 refine dFa 2 ?_
 refine dLd 3 [[]] ?_
 refine dP 4 ?_
 refine dP 6 ?_
 refine dP 7 ?_
 refine dFa 8 ?_
 refine dLd 9 [[]] ?_
 refine dP 10 ?_
 refine d_p 11 rfl (p_indexAddr rfl rfl rfl sl_22 (a) (by omega) (by omega) rfl) (by kernel_rfl) rfl rfl ?_
 refine d_slot (show _ = Value.pointer (some ⟨gn, a * 3, none⟩) from by rw [Nat.zero_add]) ?_
 refine dFa 12 ?_
 refine d_q 13 [[]] rfl (q_load_at rfl rfl sz_30 (fun w h => HS.nd_cell ha1 h aPk 2 rfl (by decide))) (by kernel_rfl) (by kernel_rfl) (by kernel_rfl) rfl ?_
 refine dP 15 ?_
 refine dP 16 ?_
 refine dFa 17 ?_
 refine dLd 18 [[]] ?_
 refine dP 19 ?_
 refine d_p 20 rfl (p_indexAddr rfl rfl rfl sl_22 (b) (by omega) (by omega) rfl) (by kernel_rfl) rfl rfl ?_
 refine d_slot (show _ = Value.pointer (some ⟨gn, b * 3, none⟩) from by rw [Nat.zero_add]) ?_
 refine dFa 21 ?_
 refine d_q 22 [[]] rfl (q_load_at rfl rfl sz_30 (fun w h => HS.nd_cell hb1 h aPk 2 rfl (by decide))) (by kernel_rfl) (by kernel_rfl) (by kernel_rfl) rfl ?_
 refine d_h 5 rfl (h_buildSlice0 rfl sl_30) (by kernel_rfl) (fun w h => h.ent aEt) rfl (fun b13 _ => ?_)
 refine d_h 14 rfl (h_appendS ((nth L1 a).cs.flatMap inV) rfl rfl rfl sl_30 Tryz.underlying30 zr_3 rfl aPk (fun w h => Rw.src iv1 (HS.cs_row ha1 h aPk) (HS.refl _ [])) (by rw [flat_length iv1]) (flat_one iv1c _) (by (try rw [ins_end]); (try simp only [List.length_append, List.length_singleton]); omega) (by simp only [maxLen]; (try rw [ins_end]); (try simp only [List.length_append, List.length_singleton]); omega)) (by kernel_rfl) (fun w h => h.ent aEt) rfl (fun b14 _ => ?_)
 refine d_h 23 rfl (h_appendS ((nth L1 b).cs.flatMap inV) rfl rfl rfl sl_30 Tryz.underlying30 zr_3 rfl aPk (fun w h => Rw.src iv1 (HS.cs_row hb1 h aPk) (HS.refl _ [])) (by rw [flat_length iv1]) (flat_one iv1c _) (by (try rw [ins_end]); (try simp only [List.length_append, List.length_singleton]); omega) (by simp only [maxLen]; (try rw [ins_end]); (try simp only [List.length_append, List.length_singleton]); omega)) (by kernel_rfl) (fun w h => h.ent aEt) rfl (fun b15 _ => ?_)
 refine d_p 24 rfl (p_indexAddr rfl rfl rfl sl_22 (a) (by omega) (by omega) rfl) (by kernel_rfl) rfl rfl ?_
 refine d_slot (show _ = Value.pointer (some ⟨gn, a * 3, none⟩) from by rw [Nat.zero_add]) ?_
 refine dFa 25 ?_
 refine dSt 26 ?_ (hl := (by rw [flat_length nv3]; show _ + 1 ≤ _; omega))
 refine dTu [] ?_
 refine dNi ?_
 refine aS ?_
 refine s_weaken (L' := [(0, _), (1, _), (7, _), (16, _), (18, _)]) aSx (fun _ h => h) ?_
 iterate 2 refine aS ?_
 refine o_ex (fun w h => HS.cs_setN (gn := gn) (cap := cap) (ca := b15.1) (cc := b15.2) (cs := (nth L1 a).cs ++ (nth L1 b).cs) (n := 0 + (nth L1 a).cs.length + (nth L1 b).cs.length) (xs := [] ++ (nth L1 a).cs.flatMap inV ++ (nth L1 b).cs.flatMap inV) ha1 (by simp only [List.length_append]; omega) (by simp only [List.flatMap_append, List.nil_append]) h aPk aPk aPk) fun L2 => ?_
 refine o_fact (fun w h => h.1) fun hS2 => ?_
 refine o_class (fun w h => h.2) ?_
 have hb2 : b < L2.length := by rw [hS2.len]; exact hb1
 iterate 4 refine aS ?_
 refine o_p (p_build (cs := [_, _, _]) rfl rfl pl_102 zr_102 rfl) rfl ?_
 refine o_p (p_indexAddr rfl rfl rfl sl_22 (b) (by omega) (by omega) rfl) rfl ?_
 refine o_slot (show _ = Value.pointer (some ⟨gn, b * 3, none⟩) from by rw [Nat.zero_add]) ?_
 refine o_h0 (h_store rfl rfl rfl sz_102 rfl aPt (by rw [flat_length nv3]; show _ + 3 ≤ _; omega) rfl) (fun _ _ => ?_)
 iterate 2 refine aS ?_
 refine s_ex (fun w h => HS.node_gone (i := b) (gn := gn) (cap := cap) hb2 h aPk aPk) fun L3 => ?_
 refine s_fact (fun w h => h.1) fun hS3 => ?_
 refine s_class (fun w h => h.2) ?_
 have hp3 : p < L3.length := by rw [hS3.len, hS2.len, hS1.len]; exact hpl
 have hP3 : nth L3 p = nth L p := by rw [hS3.other (by rw [hS2.len, hS1.len]; exact hpl) (Ne.symm hpb), hS2.other (by rw [hS1.len]; exact hpl) (Ne.symm hpa), hS1.other hpl (Ne.symm hpa)]
 refine s_drawB [.blk bt 24 4 [.int .i64 (j : Int), .int .i64 mo, .int .i64 rm, .slice (some ⟨gn, 0, none⟩) L.length cap], .blk gn 102 (cap * 3) (L3.flatMap LNd.vals), .star (L3.map (subN 26)), .blk b1 102 3 (LNd.vals (nth L p)), .blk b2 102 3 (LNd.vals (nth L x))] [11] mixed ?_
 refine dP 0 ?_
 refine dP 1 ?_
 refine dFa 2 ?_
 refine dLd 3 [[]] ?_
 refine dP 4 ?_
 refine dFa 5 ?_
 refine dLd 6 [[]] ?_
 refine dP 7 ?_
 refine d_h 8 rfl (h_call rfl fn_72 rfl (fun w1 h1 => c72 w1 (nth L p).ea (nth L p).ec (nth L p).es q (hP3 ▸ HS.es_row hp3 h1 aPk) (by omega) (by omega) hrP.1)) (by kernel_rfl) (fun w h => h.ent aEt) rfl (fun b16 _ => ?_)
 refine d_p 9 rfl (p_indexAddr rfl rfl rfl sl_22 (p) (by omega) (by omega) rfl) (by kernel_rfl) rfl rfl ?_
 refine d_slot (show _ = Value.pointer (some ⟨gn, p * 3, none⟩) from by rw [Nat.zero_add]) ?_
 refine dFa 10 ?_
 refine dSt 11 ?_ (hl := (by rw [flat_length nv3]; show _ + 1 ≤ _; omega))
 refine dTu [] ?_
 refine dNi ?_
 refine s_ex (fun w h => HS.es_set (gn := gn) (cap := cap) (ea := b16.1) (ec := b16.2) (es := others (nth L p).es q) hp3 h aPk aPk aPk) fun L4 => ?_
 refine s_fact (fun w h => h.1) fun hS4 => ?_
 refine s_class (fun w h => h.2) ?_
 have hp4 : p < L4.length := by rw [hS4.len]; exact hp3
 have hcp4 : (nth L4 p).ca = (nth L p).ca ∧ (nth L4 p).cc = (nth L p).cc ∧ (nth L4 p).cs = (nth L p).cs := by rw [hS4.at_, hP3]; exact ⟨rfl, rfl, rfl⟩
 refine s_drawB [.blk bt 24 4 [.int .i64 (j : Int), .int .i64 mo, .int .i64 rm, .slice (some ⟨gn, 0, none⟩) L.length cap], .blk gn 102 (cap * 3) (L4.flatMap LNd.vals), .star (L4.map (subN 26)), .blk b1 102 3 (LNd.vals (nth L p)), .blk b2 102 3 (LNd.vals (nth L x))] [12] mixed ?_
 refine dP 0 ?_
 refine dP 1 ?_
 refine dFa 2 ?_
 refine dLd 3 [[]] ?_
 refine dP 4 ?_
 refine dFa 5 ?_
 refine dLd 6 [[]] ?_
 refine dP 7 ?_
 refine dP 8 ?_
 try refine dWr ?_
 refine d_h 9 rfl (h_call rfl fn_108 rfl (fun w1 h1 => c108 w1 (nth L p).ca (nth L p).cc (nth L p).cs (q + 1) (cs_rowE hcp4 (HS.cs_row hp4 h1 aPk)) (by omega) (by omega) hrPc.1)) (by kernel_rfl) (fun w h => h.ent aEt) rfl (fun b17 _ => ?_)
 refine d_p 10 rfl (p_indexAddr rfl rfl rfl sl_22 (p) (by omega) (by omega) rfl) (by kernel_rfl) rfl rfl ?_
 refine d_slot (show _ = Value.pointer (some ⟨gn, p * 3, none⟩) from by rw [Nat.zero_add]) ?_
 refine dFa 11 ?_
 refine dSt 12 ?_ (hl := (by rw [flat_length nv3]; show _ + 1 ≤ _; omega))
 refine dTu [] ?_
 refine dNi ?_
 exact s_end0 rfl (fun w' h' => by obtain ⟨L5, hS5, hC⟩ := HS.cs_set (gn := gn) (cap := cap) (ca := b17.1) (cc := b17.2) (cs := others (nth L p).cs (q + 1)) hp4 h' aPk aPk aPk; have hz5 : L5.length = L.length := (by rw [hS5.len, hS4.len, hS3.len, hS2.len, hS1.len]); exact ⟨((gn, cap), L5), rfl, ⟨by rw [hS5.cs, hS4.es, hS3.pl, hS2.cs, hS1.es, hAc1, hBc1]; exact mrg_eq (P := (nth L p).pl) (A := (nth L a).pl) (B := (nth L b).pl) (by rw [pln_len]; exact hpl) hpb hPN hNa hNb, by simp only []; omega, hcm⟩, by simp only []; rw [hz5]; exact hC.ent aEt⟩)
set_option maxHeartbeats 2000000 in
theorem c73z (w : World) (bt : Nat) (j : Nat) (mo rm : Int) (gn cap : Nat) (L : List LNd) (p k x : Nat) (hw : HS w (fps [.blk bt 24 4 [.int .i64 (j : Int), .int .i64 mo, .int .i64 rm, .slice (some ⟨gn, 0, none⟩) (L).length cap], .blk gn 102 (cap * 3) ((L).flatMap LNd.vals), .star ((L).map (subN 26))]) [.blk bt 24 4 [.int .i64 (j : Int), .int .i64 mo, .int .i64 rm, .slice (some ⟨gn, 0, none⟩) (L).length cap], .blk gn 102 (cap * 3) ((L).flatMap LNd.vals), .star ((L).map (subN 26))] w) (hnc : L.length ≤ cap) (hcm : cap ≤ maxLen) (hok : FilOk mo (pln L) p k) (hx : kdN (pln L) p k = x) (hix : ixR (nth (pln L) p).cs (x : Int) = k) (h2 : ¬ 2 ≤ (nth (pln L) p).cs.length) : Calls Tryz.prog 73 #[.pointer (some ⟨bt, 0, none⟩), .int .i64 (p : Int), .int .i64 (x : Int)] w fun en w' => ∃ g : (Nat × Nat) × List LNd, en = .returned (.tuple #[]) ∧ (pln g.2 = pln L ∧ g.2.length ≤ g.1.2 ∧ g.1.2 ≤ maxLen) ∧ HS w (fps [.blk bt 24 4 [.int .i64 (j : Int), .int .i64 mo, .int .i64 rm, .slice (some ⟨gn, 0, none⟩) (L).length cap], .blk gn 102 (cap * 3) ((L).flatMap LNd.vals), .star ((L).map (subN 26))]) [.blk bt 24 4 [.int .i64 (j : Int), .int .i64 mo, .int .i64 rm, .slice (some ⟨g.1.1, 0, none⟩) (g.2).length g.1.2], .blk g.1.1 102 (g.1.2 * 3) ((g.2).flatMap LNd.vals), .star ((g.2).map (subN 26))] w' := by
 have hpl := hok.pl
 have hkl := hok.kl
 have hsh := hok.sh
 have hln := hok.len
 have hmo := hok.mo0
 have hsp := hok.sm p
 rw [pln_len] at hpl hln
 have hPN := pln_nth hpl
 rw [hPN] at hkl hsh hsp hix
 simp only [LNd.pl] at hkl hsh hsp hix
 have hx0 := hx
 have hklx : k < (nth L p).pl.cs.length := hkl
 have hkx := hok.kid k (by rw [hPN]; exact hklx)
 rw [hx0, pln_len] at hkx
 obtain ⟨_, hxl, hpx⟩ := hkx
 have hcx := hok.kd (x := k) (by rw [hPN]; exact hklx)
 rw [hx0, hPN] at hcx
 simp only [LNd.pl] at hcx
 have hNx := pln_nth hxl
 have hsx := hok.sm x
 rw [hNx] at hsx
 simp only [LNd.pl] at hsx
 rw [hPN] at h2
 simp only [LNd.pl] at h2
 refine enter (args := [_, _, _]) Tryz.func73 Tryz.ntmps73 rfl rfl hw ?_
 iterate 7 refine aS ?_
 refine o_q (q_call rfl fn_100 rfl (fun w1 h1 => by have h9 := c100 w1 j mo rm (some ⟨gn, 0, none⟩) cap L p (x : Int) hpl (HS.nt_at h1 aPk aPk) (by omega) (by omega); rw [hix] at h9; exact h9)) rfl ?_
 iterate 9 refine aS ?_
 refine o_p (p_indexAddr rfl rfl rfl sl_22 (p) (by omega) (by omega) rfl) rfl ?_
 refine o_slot (show _ = Value.pointer (some ⟨gn, p * 3, none⟩) from by rw [Nat.zero_add]) ?_
 refine o_q (q_load_atn _ rfl rfl sz_102 rfl (fun w h => HS.nd_cells hpl h aPk)) rfl ?_
 refine oAl (fun b1 _ => ?_) zr_102
 refine oSt ?_
 iterate 8 refine aS ?_
 refine o_p (p_indexAddr rfl rfl rfl sl_22 (x) (by omega) (by omega) rfl) rfl ?_
 refine o_slot (show _ = Value.pointer (some ⟨gn, x * 3, none⟩) from by rw [Nat.zero_add]) ?_
 refine o_q (q_load_atn _ rfl rfl sz_102 rfl (fun w h => HS.nd_cells hxl h aPk)) rfl ?_
 refine oAl (fun b2 _ => ?_) zr_102
 refine oSt ?_
 iterate 7 refine aS ?_
 refine o_p (p_quo_nn rfl rfl rfl (by omega) (by omega) (by omega)) rfl ?_
 iterate 4 refine aS ?_
 refine s_weaken (L' := [(0, _), (1, _), (2, _), (6, _), (7, _), (8, _), (9, _)]) aSx (fun _ h => h) ?_
 iterate 4 refine aS ?_
 refine s_cond rfl (fun h3 => ?_) fun h3 => ?_
 ·try simp only [decide_eq_true_eq] at h3
  exfalso; first | omega | (simp at h3; done) | (simp_all; done)
 try simp only [decide_eq_false_iff_not] at h3
 iterate 6 refine aS ?_
 try refine oWr ?_
 iterate 5 refine aS ?_
 refine s_cond rfl (fun h4 => ?_) fun h4 => ?_
 ·try simp only [decide_eq_true_eq] at h4
  exfalso; first | omega | (simp at h4; done) | (simp_all; done)
 try simp only [decide_eq_false_iff_not] at h4
 iterate 9 refine aS ?_
 refine s_cond rfl (fun h5 => ?_) fun h5 => ?_
 ·try simp only [decide_eq_true_eq] at h5
  exact s_ret0 rfl (fun w' h' => ⟨((gn, cap), L), rfl, ⟨rfl, hnc, hcm⟩, h'.ent aEt⟩)
 try simp only [decide_eq_false_iff_not] at h5
 exfalso; first | omega | (simp at h5; done) | (simp_all; done)
theorem fil_cases {mo : Int} {ns : List Nd} {p k : Nat} (hk : k < (nth ns p).cs.length) : filP mo ns p k =
    if 0 < k ∧ mo / 2 < ((nth ns (kdN ns p (k - 1))).es.length : Int) then givF ns p (k - 1) (kdN ns p (k - 1)) (kdN ns p k)
    else if k + 1 < (nth ns p).cs.length ∧ mo / 2 < ((nth ns (kdN ns p (k + 1))).es.length : Int) then givB ns p k (kdN ns p (k + 1)) (kdN ns p k)
    else if 2 ≤ (nth ns p).cs.length then mrgN ns p (if k = 0 then 0 else k - 1) (kdN ns p (if k = 0 then 0 else k - 1)) (kdN ns p ((if k = 0 then 0 else k - 1) + 1)) else ns := by
  have e1 : richN mo ns p ((k : Int) - 1) = decide (0 < k ∧ mo / 2 < ((nth ns (kdN ns p (k - 1))).es.length : Int)) := by
    rcases Nat.eq_zero_or_pos k with h0 | h0
    · subst h0
      rw [rich_f rfl (by rw [decide_eq_false (by omega)]; rfl), decide_eq_false (fun h => absurd h.1 (Nat.lt_irrefl _))]
    · rw [rich_t rfl (by omega), show ((k : Int) - 1).toNat = k - 1 by omega]
      by_cases h : mo / 2 < ((nth ns (kdN ns p (k - 1))).es.length : Int)
      · rw [decide_eq_true h, decide_eq_true (show _ ∧ _ from ⟨h0, h⟩)]
      · rw [decide_eq_false h, decide_eq_false (fun h9 => h h9.2)]
  have e2 : richN mo ns p ((k : Int) + 1) = decide (k + 1 < (nth ns p).cs.length ∧ mo / 2 < ((nth ns (kdN ns p (k + 1))).es.length : Int)) := by
    by_cases h0 : k + 1 < (nth ns p).cs.length
    · rw [rich_t rfl (by omega), show ((k : Int) + 1).toNat = k + 1 by omega]
      by_cases h : mo / 2 < ((nth ns (kdN ns p (k + 1))).es.length : Int)
      · rw [decide_eq_true h, decide_eq_true (show _ ∧ _ from ⟨h0, h⟩)]
      · rw [decide_eq_false h, decide_eq_false (fun h9 => h h9.2)]
    · rw [rich_f rfl (by rw [decide_eq_false (show ¬ (k : Int) + 1 ≤ ((nth ns p).cs.length : Int) - 1 by omega), Bool.and_false]), decide_eq_false (fun h => h0 h.1)]
  unfold filP
  rw [e1, e2]
  by_cases h1 : 0 < k ∧ mo / 2 < ((nth ns (kdN ns p (k - 1))).es.length : Int)
  · rw [if_pos (decide_eq_true h1), if_pos h1]
  · rw [if_neg (by rw [decide_eq_false h1]; decide), if_neg h1]
    by_cases h2 : k + 1 < (nth ns p).cs.length ∧ mo / 2 < ((nth ns (kdN ns p (k + 1))).es.length : Int)
    · rw [if_pos (decide_eq_true h2), if_pos h2]
    · rw [if_neg (by rw [decide_eq_false h2]; decide), if_neg h2]
      rcases Nat.eq_zero_or_pos k with h0 | h0
      · subst h0
        rw [if_neg (Nat.lt_irrefl _), if_pos (rfl : (0 : Nat) = 0)]
        by_cases h3 : 1 < (nth ns p).cs.length
        · rw [if_pos h3, if_pos (by omega)]
        · rw [if_neg h3, if_neg (by omega)]
      · rw [if_pos h0, if_pos (by omega), if_neg (by omega), show k - 1 + 1 = k by omega]
theorem c73 (w : World) (bt : Nat) (j : Nat) (mo rm : Int) (gn cap : Nat) (L : List LNd) (p k x : Nat) (hw : HS w (fps [.blk bt 24 4 [.int .i64 (j : Int), .int .i64 mo, .int .i64 rm, .slice (some ⟨gn, 0, none⟩) (L).length cap], .blk gn 102 (cap * 3) ((L).flatMap LNd.vals), .star ((L).map (subN 26))]) [.blk bt 24 4 [.int .i64 (j : Int), .int .i64 mo, .int .i64 rm, .slice (some ⟨gn, 0, none⟩) (L).length cap], .blk gn 102 (cap * 3) ((L).flatMap LNd.vals), .star ((L).map (subN 26))] w) (hnc : L.length ≤ cap) (hcm : cap ≤ maxLen) (hok : FilOk mo (pln L) p k) (hx : kdN (pln L) p k = x) (hix : ixR (nth (pln L) p).cs (x : Int) = k) : Calls Tryz.prog 73 #[.pointer (some ⟨bt, 0, none⟩), .int .i64 (p : Int), .int .i64 (x : Int)] w fun en w' => ∃ g : (Nat × Nat) × List LNd, en = .returned (.tuple #[]) ∧ (pln g.2 = filP mo (pln L) p k ∧ g.2.length ≤ g.1.2 ∧ g.1.2 ≤ maxLen) ∧ HS w (fps [.blk bt 24 4 [.int .i64 (j : Int), .int .i64 mo, .int .i64 rm, .slice (some ⟨gn, 0, none⟩) (L).length cap], .blk gn 102 (cap * 3) ((L).flatMap LNd.vals), .star ((L).map (subN 26))]) [.blk bt 24 4 [.int .i64 (j : Int), .int .i64 mo, .int .i64 rm, .slice (some ⟨g.1.1, 0, none⟩) (g.2).length g.1.2], .blk g.1.1 102 (g.1.2 * 3) ((g.2).flatMap LNd.vals), .star ((g.2).map (subN 26))] w' := by
  rw [fil_cases hok.kl, hx]
  by_cases h1 : 0 < k ∧ mo / 2 < ((nth (pln L) (kdN (pln L) p (k - 1))).es.length : Int)
  · rw [if_pos h1]
    obtain ⟨e, rfl⟩ : ∃ e, k = e + 1 := ⟨k - 1, by omega⟩
    exact c73f w bt j mo rm gn cap L p e x (kdN (pln L) p e) hw hnc hcm hok hx hix rfl h1.2
  · rw [if_neg h1]
    by_cases h2 : k + 1 < (nth (pln L) p).cs.length ∧ mo / 2 < ((nth (pln L) (kdN (pln L) p (k + 1))).es.length : Int)
    · rw [if_pos h2]
      exact c73b w bt j mo rm gn cap L p k x (kdN (pln L) p (k + 1)) hw hnc hcm hok hx hix rfl h2.2 h1 h2.1
    · rw [if_neg h2]
      by_cases h3 : 2 ≤ (nth (pln L) p).cs.length
      · rw [if_pos h3]
        exact c73m w bt j mo rm gn cap L p k x (if k = 0 then 0 else k - 1) _ _ hw hnc hcm hok hx hix h1 h2 h3 rfl rfl rfl
      · rw [if_neg h3]
        exact c73z w bt j mo rm gn cap L p k x hw hnc hcm hok hx hix h3
theorem fn_73 : isFn Tryz.prog 73 = true := by kernel_rfl
theorem rot_pl {L : List LNd} {c : Nat} (h0 : 0 < L.length) (hc : c < L.length) (hu : (nth (pln L) 0).us = true) (hk : (nth (pln L) c).us = true) : ((pln L).set 0 (nth (pln L) c)).set c ⟨false, [], []⟩ = ((pln L).set 0 (LNd.pl { nth L c with us := (nth L 0).us })).set c (LNd.pl LNd.gone) := by
  rw [pln_nth h0] at hu
  rw [pln_nth hc] at hk ⊢
  have e : LNd.pl { nth L c with us := (nth L 0).us } = (nth L c).pl := by
    simp only [LNd.pl] at hu hk ⊢
    rw [hu, hk]
  rw [e]
  rfl
theorem HS.node_goneB {w0 w : World} {M : List Nat} {As A1 A3 : List HA} {et : Nat} {L : List LNd} {i gn cap nt' : Nat} {us : Bool} (hi : i < L.length) (h : HS w0 M As w)
    (hp : Pick As (.blk gn nt' (cap * 3) (setMany (L.flatMap LNd.vals) (i * 3) [.bool false, .slice none 0 0, .slice none 0 0])) A1) (hp3 : Pick A1 (.star ((L.set i ⟨us, none, 0, [], none, 0, []⟩).map (subN et))) A3) :
    ∃ L', NdSet L L' i LNd.gone ∧ HS w0 M (.blk gn nt' (cap * 3) (L'.flatMap LNd.vals) :: .star (L'.map (subN et)) :: A3) w := by
  refine ⟨_, ⟨hi, rfl⟩, ?_⟩
  rw [← node_set3 hi]
  have e : (L.set i (⟨us, none, 0, [], none, 0, []⟩ : LNd)).map (subN et) = (L.set i LNd.gone).map (subN et) := by rw [List.map_set, List.map_set]; rfl
  rw [e] at hp3
  exact h.perm (hp.perm.trans (List.Perm.cons _ hp3.perm))
set_option maxHeartbeats 1000000 in
theorem c27 (w : World) (j : Nat) (mo rm : Int) (a : Option Addr) (cap : Nat) (L : List LNd) (key : List UInt8) (hj : j ≤ 3) (h0 : 0 < L.length) (hB : Bd (pln L)) (hT : TOk (j : Int) (pln L)) (hs : Nt w [] a L) (hk : keyOk (j : Int) key = true) (hkl : key.length ≤ 1000000) (hok0 : RemOk mo rm (pln L) (pathN (j : Int) (pln L) key).1 (pathN (j : Int) (pln L) key).2.1) (hfo0 : FilROk mo (remQ (pln L) (pathN (j : Int) (pln L) key).1 (pathN (j : Int) (pln L) key).2.1) ((remQ (pln L) (pathN (j : Int) (pln L) key).1 (pathN (j : Int) (pln L) key).2.1).length - 1) (rem2 (pln L) (pathN (j : Int) (pln L) key).1 (pathN (j : Int) (pln L) key).2.1)) (hfr0 : filRW mo (remQ (pln L) (pathN (j : Int) (pln L) key).1 (pathN (j : Int) (pln L) key).2.1) ((remQ (pln L) (pathN (j : Int) (pln L) key).1 (pathN (j : Int) (pln L) key).2.1).length - 1) (rem2 (pln L) (pathN (j : Int) (pln L) key).1 (pathN (j : Int) (pln L) key).2.1) = filW mo (rem2 (pln L) (pathN (j : Int) (pln L) key).1 (pathN (j : Int) (pln L) key).2.1) (remQ (pln L) (pathN (j : Int) (pln L) key).1 (pathN (j : Int) (pln L) key).2.1).reverse) : Calls Tryz.prog 27 #[.agg #[.int .i64 (j : Int), .int .i64 mo, .int .i64 rm, .slice a L.length cap], .string (bs key)] w fun en w' => ∃ g : (Option Addr × Nat) × List LNd, en = .returned (.agg #[.int .i64 (j : Int), .int .i64 mo, .int .i64 rm, .slice g.1.1 g.2.length g.1.2]) ∧ pln g.2 = remN mo rm (pln L) (pathN (j : Int) (pln L) key).1 (pathN (j : Int) (pln L) key).2.1 ∧ HS w [] [.nodes 26 102 g.1.1 g.1.2 g.2] w' := by
 have hln0 := hB.len
 rw [pln_len] at hln0
 have hsmB : Sm 1000 (pln L) := sm_bd2 hB
 refine enter (args := [_, _]) Tryz.func27 Tryz.ntmps27 rfl rfl (HS.refl w []) ?_
 iterate 2 refine aS ?_
 refine oBx fun b1 _ => ?_
 refine oAl (fun b2 _ => ?_) zr_24
 iterate 4 refine aS ?_
 refine o_h (h_call rfl fn_17 rfl (fun w1 h1 => c17 w1 (j : Int) mo rm a cap L (hs.later h1.nil) hln0 hsmB)) rfl (fun ⟨⟨ga0, gc0⟩, L9⟩ hF9 => ?_)
 dsimp only
 have hL9 : pln L9 = pln L := hF9
 have hl9 : L9.length = L.length := by rw [← pln_len L9, hL9, pln_len]
 have h09 : 0 < L9.length := by omega
 refine o_ex (fun w h => nodes_split h09 h aPk) fun gn => ?_
 refine o_fact (p := ga0 = some ⟨gn, 0, none⟩ ∧ L9.length ≤ gc0 ∧ gc0 ≤ maxLen) (fun w h => ⟨h.1, h.2.1, h.2.2.1⟩) fun hgn => ?_
 obtain ⟨hga, hn9, hm9⟩ := hgn
 subst hga
 refine o_class (fun w h => h.2.2.2) ?_
 have hB9 : Bd (pln L9) := by rw [hL9]; exact hB
 have hT9 : TOk (j : Int) (pln L9) := by rw [hL9]; exact hT
 have hK9 : ∀ i, i < L9.length → ∀ y ∈ (nth L9 i).es, keyOk (j : Int) y.key = true ∧ y.key.length ≤ 1000000 := fun i hi y hy => tok_key hT9 i (by rw [pln_len]; exact hi) y (by rw [pln_nth hi]; exact hy)
 have hok : RemOk mo rm (pln L9) (pathN (j : Int) (pln L9) key).1 (pathN (j : Int) (pln L9) key).2.1 := by rw [hL9]; exact hok0
 have hfo : FilROk mo (remQ (pln L9) (pathN (j : Int) (pln L9) key).1 (pathN (j : Int) (pln L9) key).2.1) ((remQ (pln L9) (pathN (j : Int) (pln L9) key).1 (pathN (j : Int) (pln L9) key).2.1).length - 1) (rem2 (pln L9) (pathN (j : Int) (pln L9) key).1 (pathN (j : Int) (pln L9) key).2.1) := by rw [hL9]; exact hfo0
 have hfr : filRW mo (remQ (pln L9) (pathN (j : Int) (pln L9) key).1 (pathN (j : Int) (pln L9) key).2.1) ((remQ (pln L9) (pathN (j : Int) (pln L9) key).1 (pathN (j : Int) (pln L9) key).2.1).length - 1) (rem2 (pln L9) (pathN (j : Int) (pln L9) key).1 (pathN (j : Int) (pln L9) key).2.1) = filW mo (rem2 (pln L9) (pathN (j : Int) (pln L9) key).1 (pathN (j : Int) (pln L9) key).2.1) (remQ (pln L9) (pathN (j : Int) (pln L9) key).1 (pathN (j : Int) (pln L9) key).2.1).reverse := by rw [hL9]; exact hfr0
 have hmo := hok.mo0
 have hne := hok.ne
 have hlen := hok.len
 have hnl := hok.nl
 have hlst := hok.lst
 rw [pln_len] at hnl hlst
 have hNI := pln_nth hlst
 have hatk := hok.atk
 rw [hNI] at hatk
 simp only [LNd.pl] at hatk
 have hsI := hok.sm (lastN (pathN (j : Int) (pln L9) key).1)
 rw [hNI] at hsI
 simp only [LNd.pl] at hsI
 have hrg := hok.rgt
 rw [hNI] at hrg
 simp only [LNd.pl] at hrg
 have hql := hok.ql
 rw [pln_len] at hql
 have hqn := hok.qn
 have hdl := hok.dl
 obtain ⟨_, _, _, hend, _⟩ := path_end hT9 (by rw [pln_len]; exact h09) key
 have hpl4 : plc (j : Int) (nth L9 (lastN (pathN (j : Int) (pln L9) key).1)).es key = (pathN (j : Int) (pln L9) key).2.1 := by rw [hend, hNI]; rfl
 have hel9 : (nth L9 (lastN (pathN (j : Int) (pln L9) key).1)).es.length ≤ 1000 := by omega
 refine oAl (fun b3 _ => ?_) zr_24
 refine oSt ?_
 iterate 5 refine aS ?_
 refine o_h (h_call rfl fn_20 rfl (fun w1 h1 => c20 w1 j mo rm (some ⟨gn, 0, none⟩) gc0 L9 key hj h09 hB9 hT9 (HS.nt_at h1 aPk aPk) hk hkl)) rfl (fun ⟨pa, pc⟩ _ => ?_)
 dsimp only
 refine o_fact (fun w h => HS.pown_some (P := (pathN (j : Int) (pln L9) key).1) (a := pa) (c := pc) hne h aPk) fun hpa => ?_
 obtain ⟨gp, hpa⟩ := hpa
 iterate 12 refine aS ?_
 try refine oWr ?_
 refine o_p (p_indexAddr rfl rfl rfl sl_30 ((pathN (j : Int) (pln L9) key).1.length - 1) (by omega) (by omega) hpa) rfl ?_
 refine o_q (q_load_at rfl rfl sz_3 (fun w h => HS.pown_rd (P := (pathN (j : Int) (pln L9) key).1) (a := pa) (c := pc) (k := (pathN (j : Int) (pln L9) key).1.length - 1) (by omega) hpa h aPk)) rfl ?_
 refine o_slot (show _ = Value.int .i64 ((lastN (pathN (j : Int) (pln L9) key).1) : Int) from rfl) ?_
 iterate 7 refine aS ?_
 refine o_q (q_call rfl fn_61 rfl (fun w1 h1 => by have h9 := c61 w1 j mo rm (some ⟨gn, 0, none⟩) gc0 L9 (lastN (pathN (j : Int) (pln L9) key).1) key hj hlst (HS.nt_at h1 aPk aPk) (by omega) hel9 (hK9 _ hlst) hk hkl; rw [hpl4] at h9; exact h9)) rfl ?_
 iterate 7 refine aS ?_
 refine s_weaken (L' := [(4, _), (5, _), (6, _), (8, _), (9, _)]) aSx (fun _ h => h) ?_
 iterate 10 refine aS ?_
 refine o_p (p_indexAddr rfl rfl rfl sl_22 ((lastN (pathN (j : Int) (pln L9) key).1)) (by omega) (by omega) rfl) rfl ?_
 refine o_slot (show _ = Value.pointer (some ⟨gn, (lastN (pathN (j : Int) (pln L9) key).1) * 3, none⟩) from by rw [Nat.zero_add]) ?_
 refine aS ?_
 refine o_q (q_load_at rfl rfl sz_30 (fun w h => HS.nd_cell hlst h aPk 2 rfl (by decide))) rfl ?_
 iterate 3 refine aS ?_
 refine s_cutI (α := (Option Addr × Nat) × List LNd) [6, 9, 11, 12, 13, 48, 49, 50, 51, 52, 53, 54, 55, 56, 57, 58, 59, 60, 61, 62, 63, 64, 65, 66, 67, 68, 69, 70, 71, 72, 73, 74, 75, 76, 77, 78, 79, 80, 81, 82, 83, 84, 85, 86, 87, 88, 89, 90, 91, 92, 93, 94, 95, 96, 97, 98, 99, 100, 101, 102, 103, 104, 105, 106, 107] (fun x => [(11, .int .i64 ((lastN (remQ (pln L9) (pathN (j : Int) (pln L9) key).1 (pathN (j : Int) (pln L9) key).2.1)) : Int)), (9, .int .i64 ((remK (pln L9) (pathN (j : Int) (pln L9) key).1 (pathN (j : Int) (pln L9) key).2.1) : Int)), (6, .slice x.1.1 (remQ (pln L9) (pathN (j : Int) (pln L9) key).1 (pathN (j : Int) (pln L9) key).2.1).length x.1.2)]) (fun x => HS w [] [.blk b3 24 4 [.int .i64 (j : Int), .int .i64 mo, .int .i64 rm, .slice (some ⟨gn, 0, none⟩) (x.2).length gc0], .blk gn 102 (gc0 * 3) ((x.2).flatMap LNd.vals), .star ((x.2).map (subN 26)), .own (.slice x.1.1 ((remQ (pln L9) (pathN (j : Int) (pln L9) key).1 (pathN (j : Int) (pln L9) key).2.1)).length x.1.2) 3 1 ((remQ (pln L9) (pathN (j : Int) (pln L9) key).1 (pathN (j : Int) (pln L9) key).2.1)).length (((remQ (pln L9) (pathN (j : Int) (pln L9) key).1 (pathN (j : Int) (pln L9) key).2.1)).map fun i : Nat => Value.int .i64 (i : Int)), .blk b2 24 4 [.int .i64 0, .int .i64 0, .int .i64 0, .slice none 0 0]]) (fun x => pln x.2 = (rem1 (pln L9) (pathN (j : Int) (pln L9) key).1 (pathN (j : Int) (pln L9) key).2.1) ∧ x.2.length = L9.length) ?_ ?_
 ·skip
  refine s_cond rfl (fun h4 => ?_) fun h4 => ?_
  ·try simp only [decide_eq_true_eq] at h4
   have hcz : 0 < (nth L9 (lastN (pathN (j : Int) (pln L9) key).1)).cs.length := by have hq := h4; omega
   obtain ⟨hr1, hr2, hr3, hr4, hr5, hr6⟩ := hrg hcz
   refine s_fact (fun w h => HS.cs_some hlst hcz h aPk) fun hgc => ?_
   obtain ⟨gc9, hgc⟩ := hgc
   have hQe : (remQ (pln L9) (pathN (j : Int) (pln L9) key).1 (pathN (j : Int) (pln L9) key).2.1) = (pathN (j : Int) (pln L9) key).1 ++ rgtN (pln L9) (pln L9).length (kdN (pln L9) (lastN (pathN (j : Int) (pln L9) key).1) (pathN (j : Int) (pln L9) key).2.1) := by unfold remQ; rw [hNI]; exact if_neg (by show ¬ (nth L9 (lastN (pathN (j : Int) (pln L9) key).1)).cs.length = 0; omega)
   iterate 5 refine aS ?_
   refine o_p (p_indexAddr rfl rfl rfl sl_22 ((lastN (pathN (j : Int) (pln L9) key).1)) (by omega) (by omega) rfl) rfl ?_
   refine o_slot (show _ = Value.pointer (some ⟨gn, (lastN (pathN (j : Int) (pln L9) key).1) * 3, none⟩) from by rw [Nat.zero_add]) ?_
   refine aS ?_
   refine o_q (q_load_at rfl rfl sz_30 (fun w h => HS.nd_cell hlst h aPk 2 rfl (by decide))) rfl ?_
   refine aS ?_
   refine o_p (p_indexAddr rfl rfl rfl sl_30 ((pathN (j : Int) (pln L9) key).2.1) (by omega) (by omega) hgc) rfl ?_
   refine o_q (q_load_at rfl rfl sz_3 (fun w h => HS.cs_rd hlst (by omega) hgc h aPk)) rfl ?_
   refine o_slot (show _ = Value.int .i64 ((kdN (pln L9) (lastN (pathN (j : Int) (pln L9) key).1) (pathN (j : Int) (pln L9) key).2.1) : Int) from congrArg (Value.int .i64) (kd_eq hNI hr2)) ?_
   iterate 6 refine aS ?_
   refine o_h (h_buildSlice (cs := [_]) rfl rfl sl_30 zr_3 rfl rfl rfl) rfl (fun b5 _ => ?_)
   refine o_h (h_appendS [_] rfl rfl rfl sl_30 Tryz.underlying30 zr_3 rfl aPk (src_blk aPk) rfl (by intro u hu; simp only [List.mem_cons, List.mem_nil_iff, or_false] at hu; subst hu; rfl) (by omega) (by simp only [maxLen]; omega)) rfl (fun b6 _ => ?_)
   iterate 4 refine aS ?_
   refine s_weaken (L' := [(4, _), (5, _), (6, _), (8, _), (9, _), (11, _), (39, _), (40, _), (41, _), (42, _), (43, _), (44, _), (45, _), (46, _), (47, _)]) aSx (fun _ h => h) ?_
   refine s_loopI (α := (Option Addr × Nat) × List Nat × Nat × Nat) [6, 11, 12, 61, 62, 63, 64, 65, 66, 67, 68, 69, 70, 71, 72, 73, 74, 75, 76, 77, 78, 79, 80, 81, 82, 83, 84] (fun x => [(6, .slice x.1.1 (x.2.1 ++ [x.2.2.1]).length x.1.2), (11, .int .i64 (x.2.2.1 : Int))]) (fun x => HS w [] [.blk b3 24 4 [.int .i64 (j : Int), .int .i64 mo, .int .i64 rm, .slice (some ⟨gn, 0, none⟩) (L9).length gc0], .blk gn 102 (gc0 * 3) ((L9).flatMap LNd.vals), .star ((L9).map (subN 26)), .own (.slice x.1.1 (x.2.1 ++ [x.2.2.1]).length x.1.2) 3 1 (x.2.1 ++ [x.2.2.1]).length ((x.2.1 ++ [x.2.2.1]).map fun i : Nat => Value.int .i64 (i : Int)), .blk b2 24 4 [.int .i64 0, .int .i64 0, .int .i64 0, .slice none 0 0]]) (fun x => RgtOk (pln L9) x.2.2.2 x.2.2.1 ∧ (remQ (pln L9) (pathN (j : Int) (pln L9) key).1 (pathN (j : Int) (pln L9) key).2.1) = x.2.1 ++ rgtN (pln L9) x.2.2.2 x.2.2.1 ∧ x.2.1.length + x.2.2.2 ≤ 1900) (fun x => x.2.2.2) ((b6.1, b6.2), (pathN (j : Int) (pln L9) key).1, (kdN (pln L9) (lastN (pathN (j : Int) (pln L9) key).1) (pathN (j : Int) (pln L9) key).2.1), (pln L9).length) ⟨hr3, hQe, by rw [pln_len]; simp only []; omega⟩ (by simp only [List.length_append, List.length_singleton]; exact aSx) (fun w h => by have h2 := h; simp only [List.length_append, List.length_singleton, List.map_append, List.map_cons, List.map_nil]; exact h2.ent aEt) (fun ⟨⟨la, lc⟩, E, leaf, fu⟩ hx => ?_)
   dsimp only
   obtain ⟨he1, he2, he3⟩ := hx
   simp only [] at he1 he2 he3
   obtain ⟨fu, rfl⟩ : ∃ f9, fu = f9 + 1 := by cases fu with | zero => exact absurd he1 (fun h => h) | succ f9 => exact ⟨f9, rfl⟩
   have hlf := he1.1
   rw [pln_len] at hlf
   have hNF := pln_nth hlf
   have hsF := hok.sm leaf
   rw [hNF] at hsF
   simp only [LNd.pl] at hsF
   have hEl : (E ++ [leaf]).length = E.length + 1 := by simp
   iterate 6 refine aS ?_
   refine o_p (p_indexAddr rfl rfl rfl sl_22 (leaf) (by omega) (by omega) rfl) rfl ?_
   refine o_slot (show _ = Value.pointer (some ⟨gn, leaf * 3, none⟩) from by rw [Nat.zero_add]) ?_
   refine aS ?_
   refine o_q (q_load_at rfl rfl sz_30 (fun w h => HS.nd_cell hlf h aPk 2 rfl (by decide))) rfl ?_
   iterate 3 refine aS ?_
   refine s_cond rfl (fun h7 => ?_) fun h7 => ?_
   ·try simp only [decide_eq_true_eq] at h7
    have hlz : 0 < (nth L9 leaf).cs.length := by have hq := h7; omega
    refine s_fact (fun w h => HS.cs_some hlf hlz h aPk) fun hgl => ?_
    obtain ⟨gl9, hgl⟩ := hgl
    have hro := he1.2
    rw [hNF] at hro
    obtain ⟨hs2, hs3⟩ := hro.resolve_left (by show ¬ (nth L9 leaf).cs.length = 0; omega)
    simp only [LNd.pl] at hs2 hs3
    have hrs := rgt_step (ns := pln L9) (f := fu) (i := leaf) (by rw [hNF]; show ¬ (nth L9 leaf).cs.length = 0; omega)
    rw [hNF] at hrs
    simp only [LNd.pl] at hrs
    iterate 7 refine aS ?_
    refine o_p (p_indexAddr rfl rfl rfl sl_22 (leaf) (by omega) (by omega) rfl) rfl ?_
    refine o_slot (show _ = Value.pointer (some ⟨gn, leaf * 3, none⟩) from by rw [Nat.zero_add]) ?_
    refine aS ?_
    refine o_q (q_load_at rfl rfl sz_30 (fun w h => HS.nd_cell hlf h aPk 2 rfl (by decide))) rfl ?_
    iterate 3 refine aS ?_
    refine s_weaken (L' := [(4, _), (5, _), (6, _), (8, _), (9, _), (11, _), (12, _), (39, _), (40, _), (41, _), (42, _), (43, _), (44, _), (45, _), (46, _), (47, _)]) aSx (fun _ h => h) ?_
    iterate 5 refine aS ?_
    try refine oWr ?_
    refine o_p (p_indexAddr rfl rfl rfl sl_30 ((nth L9 leaf).cs.length - 1) (by omega) (by omega) hgl) rfl ?_
    refine o_q (q_load_at rfl rfl sz_3 (fun w h => HS.cs_rd hlf (by omega) hgl h aPk)) rfl ?_
    refine o_slot (show _ = Value.int .i64 ((kdN (pln L9) leaf ((nth L9 leaf).cs.length - 1)) : Int) from congrArg (Value.int .i64) (kd_eq hNF hs2)) ?_
    iterate 5 refine aS ?_
    refine o_h (h_buildSlice (cs := [_]) rfl rfl sl_30 zr_3 rfl rfl rfl) rfl (fun b8 _ => ?_)
    refine o_h (h_appendS [_] rfl rfl rfl sl_30 Tryz.underlying30 zr_3 rfl aPk (src_blk aPk) rfl (by intro u hu; simp only [List.mem_cons, List.mem_nil_iff, or_false] at hu; subst hu; rfl) (by omega) (by simp only [maxLen]; omega)) rfl (fun b9 _ => ?_)
    iterate 3 refine aS ?_
    exact s_backI ((b9.1, b9.2), E ++ [leaf], (kdN (pln L9) leaf ((nth L9 leaf).cs.length - 1)), fu) (by (try simp only []); omega) ⟨hs3, by rw [he2, hrs, List.append_assoc]; rfl, by simp only [List.length_append, List.length_singleton]; omega⟩ (by simp only [List.length_append (bs := [(kdN (pln L9) leaf ((nth L9 leaf).cs.length - 1))]), List.length_singleton]; exact aSx) (fun w h => by have h2 := h; simp only [List.length_append (bs := [(kdN (pln L9) leaf ((nth L9 leaf).cs.length - 1))]), List.length_singleton, List.map_append (l₂ := [(kdN (pln L9) leaf ((nth L9 leaf).cs.length - 1))]), List.map_cons, List.map_nil]; exact h2.ent aEt)
   try simp only [decide_eq_false_iff_not] at h7
   have hlz : (nth L9 leaf).cs.length = 0 := by have hq := h7; omega
   have hrs := rgt_stop (ns := pln L9) (f := fu) (i := leaf) (by rw [hNF]; exact hlz)
   rw [hrs] at he2
   have hle : leaf = (lastN (remQ (pln L9) (pathN (j : Int) (pln L9) key).1 (pathN (j : Int) (pln L9) key).2.1)) := by rw [he2, last_snoc]
   rw [← hle, hNF] at hr5
   simp only [LNd.pl] at hr5
   have hNQ : nth (pln L9) (lastN (remQ (pln L9) (pathN (j : Int) (pln L9) key).1 (pathN (j : Int) (pln L9) key).2.1)) = (nth L9 leaf).pl := by rw [← hle]; exact hNF
   have hK2 := remK_1 hNI hNQ hcz
   simp only [LNd.pl] at hK2
   have hni : (lastN (pathN (j : Int) (pln L9) key).1) ≠ leaf := by rw [hle]; exact hr4
   refine s_fact (fun w h => HS.es_some hlst (by omega) h aPk) fun hge => ?_
   obtain ⟨ge9, hge⟩ := hge
   refine s_fact (fun w h => HS.es_some hlf hr5 h aPk) fun hgf => ?_
   obtain ⟨gf9, hgf⟩ := hgf
   refine s_fact (fun w h => HS.es_room hlst h aPk) fun hrE => ?_
   refine s_exit_to rfl ?_
   iterate 5 refine aS ?_
   refine o_p (p_indexAddr rfl rfl rfl sl_22 (leaf) (by omega) (by omega) rfl) rfl ?_
   refine o_slot (show _ = Value.pointer (some ⟨gn, leaf * 3, none⟩) from by rw [Nat.zero_add]) ?_
   refine aS ?_
   refine o_q (q_load_at rfl rfl sz_77 (fun w h => HS.nd_cell hlf h aPk 1 rfl (by decide))) rfl ?_
   iterate 3 refine aS ?_
   refine s_weaken (L' := [(4, _), (5, _), (6, _), (8, _), (9, _), (11, _), (13, _), (39, _), (40, _), (41, _), (42, _), (43, _), (44, _), (45, _), (46, _), (47, _)]) aSx (fun _ h => h) ?_
   refine s_class (fun w h => HS.es_open hlst (by omega) hge h aPk) ?_
   refine s_draw [14] mixed ?_
   refine dFa 0 ?_
   refine dLd 1 [[]] ?_
   refine dP 2 ?_
   refine d_p 3 rfl (p_indexAddr rfl rfl rfl sl_22 ((lastN (pathN (j : Int) (pln L9) key).1)) (by omega) (by omega) rfl) (by kernel_rfl) rfl rfl ?_
   refine d_slot (show _ = Value.pointer (some ⟨gn, (lastN (pathN (j : Int) (pln L9) key).1) * 3, none⟩) from by rw [Nat.zero_add]) ?_
   refine dFa 4 ?_
   refine d_q 5 [[]] rfl (q_load_at rfl rfl sz_77 (fun w h => HS.nd_cell hlst h aPk 1 rfl (by decide))) (by kernel_rfl) (by kernel_rfl) (by kernel_rfl) rfl ?_
   refine dP 6 ?_
   refine dP 7 ?_
   refine dP 8 ?_
   refine d_p 9 rfl (p_len_slice rfl rfl Tryz.underlying77) (by kernel_rfl) rfl rfl ?_
   refine dP 10 ?_
   try refine dWr ?_
   refine d_p 11 rfl (p_indexAddr rfl rfl rfl sl_77 (((nth L9 leaf).es.length - 1)) (by omega) (by omega) hgf) (by kernel_rfl) rfl rfl ?_
   refine d_q 12 [[]] rfl (q_load_atn _ rfl rfl sz_26 rfl (fun w h => HS.es_rdB hlf hni (k := ((nth L9 leaf).es.length - 1)) (by omega) hgf h aPk)) (by kernel_rfl) (by kernel_rfl) (by kernel_rfl) rfl ?_
   refine d_p 13 rfl (p_indexAddr rfl rfl rfl sl_77 ((pathN (j : Int) (pln L9) key).2.1) (by omega) (by omega) hge) (by kernel_rfl) rfl rfl ?_
   refine d_slot (show _ = Value.pointer (some ⟨ge9, (pathN (j : Int) (pln L9) key).2.1 * 2, none⟩) from by rw [Nat.zero_add]) ?_
   refine dSt 14 ?_ (hl := (by rw [flat_length ev2]; show _ + 2 ≤ _; omega))
   refine dTu [] ?_
   refine dNi ?_
   refine s_weaken (L' := [(4, _), (5, _), (6, _), (8, _), (9, _), (11, _), (13, _), (39, _), (40, _), (41, _), (42, _), (43, _), (44, _), (45, _), (46, _), (47, _)]) aSx (fun _ h => h) ?_
   iterate 2 refine aS ?_
   refine o_ex (fun w h => HS.es_upd (gn := gn) (cap := gc0) (g := ge9) (k := (pathN (j : Int) (pln L9) key).2.1) (x := nth (nth L9 leaf).es ((nth L9 leaf).es.length - 1)) hlst hatk hge h aPk aPk aPk hrE) fun L1 => ?_
   refine o_fact (fun w h => h.1) fun hS1 => ?_
   refine o_class (fun w h => h.2) ?_
   iterate 2 refine aS ?_
   try refine oWr ?_
   refine o_slot (show _ = Value.int .i64 ((((nth L9 leaf).es.length - 1) : Nat) : Int) from by congr 1; omega) ?_
   iterate 2 refine aS ?_
   exact s_joinI ((la, lc), L1) ⟨by rw [hS1.es]; exact (rem1_1 hNI hNQ hcz).symm, hS1.len⟩ (by dsimp only; rw [← hle, hK2, he2]; exact aSx) (fun w h => by dsimp only; rw [he2, hS1.len]; exact h.ent aEt)
  try simp only [decide_eq_false_iff_not] at h4
  have hcz : (nth L9 (lastN (pathN (j : Int) (pln L9) key).1)).cs.length = 0 := by have hq := h4; omega
  have hQe : (remQ (pln L9) (pathN (j : Int) (pln L9) key).1 (pathN (j : Int) (pln L9) key).2.1) = (pathN (j : Int) (pln L9) key).1 := by unfold remQ; rw [hNI]; exact if_pos hcz
  refine aS ?_
  exact s_joinI ((pa, pc), L9) ⟨(rem1_0 hNI hcz).symm, rfl⟩ (by dsimp only; rw [remK_0 hNI hcz, hQe]; exact aSx) (fun w h => by dsimp only; rw [hQe]; exact h.ent aEt)
 intro ⟨⟨qa, qc⟩, LA⟩ hx
 dsimp only
 obtain ⟨hA, hAl⟩ := hx
 simp only [] at hA hAl
 have hlq : (lastN (remQ (pln L9) (pathN (j : Int) (pln L9) key).1 (pathN (j : Int) (pln L9) key).2.1)) < LA.length := by omega
 rw [← hA, pln_nth hlq] at hdl
 simp only [LNd.pl] at hdl
 have hsA := hok.sm1 (lastN (remQ (pln L9) (pathN (j : Int) (pln L9) key).1 (pathN (j : Int) (pln L9) key).2.1))
 rw [← hA, pln_nth hlq] at hsA
 simp only [LNd.pl] at hsA
 refine s_fact (fun w h => HS.pown_some (P := (remQ (pln L9) (pathN (j : Int) (pln L9) key).1 (pathN (j : Int) (pln L9) key).2.1)) (a := qa) (c := qc) hqn.1 h aPk) fun hqa => ?_
 obtain ⟨gq, hqa⟩ := hqa
 refine aS ?_
 refine s_fact (fun w h => HS.es_room hlq h aPk) fun hrA => ?_
 refine s_drawB [.blk b3 24 4 [.int .i64 (j : Int), .int .i64 mo, .int .i64 rm, .slice (some ⟨gn, 0, none⟩) (LA).length gc0], .blk gn 102 (gc0 * 3) ((LA).flatMap LNd.vals), .star ((LA).map (subN 26)), .blk b2 24 4 [.int .i64 0, .int .i64 0, .int .i64 0, .slice none 0 0]] [13] mixed ?_
 refine dFa 0 ?_
 refine dLd 1 [[]] ?_
 refine dP 2 ?_
 refine dFa 3 ?_
 refine dLd 4 [[]] ?_
 refine dP 5 ?_
 refine d_p 6 rfl (p_indexAddr rfl rfl rfl sl_22 ((lastN (remQ (pln L9) (pathN (j : Int) (pln L9) key).1 (pathN (j : Int) (pln L9) key).2.1))) (by omega) (by omega) rfl) (by kernel_rfl) rfl rfl ?_
 refine d_slot (show _ = Value.pointer (some ⟨gn, (lastN (remQ (pln L9) (pathN (j : Int) (pln L9) key).1 (pathN (j : Int) (pln L9) key).2.1)) * 3, none⟩) from by rw [Nat.zero_add]) ?_
 refine dFa 7 ?_
 refine d_q 8 [[]] rfl (q_load_at rfl rfl sz_77 (fun w h => HS.nd_cell hlq h aPk 1 rfl (by decide))) (by kernel_rfl) (by kernel_rfl) (by kernel_rfl) rfl ?_
 refine dP 9 ?_
 refine d_h 10 rfl (h_call rfl fn_72 rfl (fun w1 h1 => c72 w1 (nth LA (lastN (remQ (pln L9) (pathN (j : Int) (pln L9) key).1 (pathN (j : Int) (pln L9) key).2.1))).ea (nth LA (lastN (remQ (pln L9) (pathN (j : Int) (pln L9) key).1 (pathN (j : Int) (pln L9) key).2.1))).ec (nth LA (lastN (remQ (pln L9) (pathN (j : Int) (pln L9) key).1 (pathN (j : Int) (pln L9) key).2.1))).es (remK (pln L9) (pathN (j : Int) (pln L9) key).1 (pathN (j : Int) (pln L9) key).2.1) (HS.es_row hlq h1 aPk) (by omega) hdl hrA.1)) (by kernel_rfl) (fun w h => h.ent aEt) rfl (fun b10 _ => ?_)
 refine d_p 11 rfl (p_indexAddr rfl rfl rfl sl_22 ((lastN (remQ (pln L9) (pathN (j : Int) (pln L9) key).1 (pathN (j : Int) (pln L9) key).2.1))) (by omega) (by omega) rfl) (by kernel_rfl) rfl rfl ?_
 refine d_slot (show _ = Value.pointer (some ⟨gn, (lastN (remQ (pln L9) (pathN (j : Int) (pln L9) key).1 (pathN (j : Int) (pln L9) key).2.1)) * 3, none⟩) from by rw [Nat.zero_add]) ?_
 refine dFa 12 ?_
 refine dSt 13 ?_ (hl := (by rw [flat_length nv3]; show _ + 1 ≤ _; omega))
 refine dTu [] ?_
 refine dNi ?_
 iterate 4 refine aS ?_
 refine o_ex (fun w h => HS.es_set (gn := gn) (cap := gc0) (ea := b10.1) (ec := b10.2) (es := others (nth LA (lastN (remQ (pln L9) (pathN (j : Int) (pln L9) key).1 (pathN (j : Int) (pln L9) key).2.1))).es (remK (pln L9) (pathN (j : Int) (pln L9) key).1 (pathN (j : Int) (pln L9) key).2.1)) hlq h aPk aPk aPk) fun L2 => ?_
 refine o_fact (fun w h => h.1) fun hS2 => ?_
 refine o_class (fun w h => h.2) ?_
 have hL2 : pln L2 = (rem2 (pln L9) (pathN (j : Int) (pln L9) key).1 (pathN (j : Int) (pln L9) key).2.1) := by rw [hS2.es, hA, rem2, ← hA, pln_nth hlq]; rfl
 have hl2 : L2.length = L9.length := by rw [hS2.len, hAl]
 refine o_class (C' := HS w [] [.blk b3 24 4 [.int .i64 (j : Int), .int .i64 mo, .int .i64 rm, .slice (some ⟨gn, 0, none⟩) (L2).length gc0], .blk gn 102 (gc0 * 3) ((L2).flatMap LNd.vals), .star ((L2).map (subN 26)), .own (.slice qa ((remQ (pln L9) (pathN (j : Int) (pln L9) key).1 (pathN (j : Int) (pln L9) key).2.1)).length qc) 3 1 ((remQ (pln L9) (pathN (j : Int) (pln L9) key).1 (pathN (j : Int) (pln L9) key).2.1)).length (((remQ (pln L9) (pathN (j : Int) (pln L9) key).1 (pathN (j : Int) (pln L9) key).2.1)).map fun i : Nat => Value.int .i64 (i : Int)), .blk b2 24 4 [.int .i64 0, .int .i64 0, .int .i64 0, .slice none 0 0]]) (fun w2 h => by rw [hl2, ← hAl]; exact h.ent aEt) ?_
 iterate 2 refine aS ?_
 try refine oWr ?_
 refine o_slot (show _ = Value.int .i64 (((remQ (pln L9) (pathN (j : Int) (pln L9) key).1 (pathN (j : Int) (pln L9) key).2.1).length - 1 : Nat) : Int) from by congr 1; omega) ?_
 iterate 3 refine aS ?_
 refine s_weaken (L' := [(4, _), (5, _), (6, _), (14, _)]) aSx (fun _ h => h) ?_
 refine s_loopI (α := ((Nat × Nat) × List LNd) × Nat) [14, 124, 125, 126, 127, 128, 129, 130, 131, 132, 133, 134, 135, 136, 137, 138, 139, 140, 141, 142, 143, 144, 145, 146, 147, 148, 149, 150, 151] (fun y => [(14, .int .i64 (y.2 : Int))]) (fun y => HS w [] [.blk b3 24 4 [.int .i64 (j : Int), .int .i64 mo, .int .i64 rm, .slice (some ⟨y.1.1.1, 0, none⟩) (y.1.2).length y.1.1.2], .blk y.1.1.1 102 (y.1.1.2 * 3) ((y.1.2).flatMap LNd.vals), .star ((y.1.2).map (subN 26)), .own (.slice qa ((remQ (pln L9) (pathN (j : Int) (pln L9) key).1 (pathN (j : Int) (pln L9) key).2.1)).length qc) 3 1 ((remQ (pln L9) (pathN (j : Int) (pln L9) key).1 (pathN (j : Int) (pln L9) key).2.1)).length (((remQ (pln L9) (pathN (j : Int) (pln L9) key).1 (pathN (j : Int) (pln L9) key).2.1)).map fun i : Nat => Value.int .i64 (i : Int)), .blk b2 24 4 [.int .i64 0, .int .i64 0, .int .i64 0, .slice none 0 0]]) (fun y => filRW mo (remQ (pln L9) (pathN (j : Int) (pln L9) key).1 (pathN (j : Int) (pln L9) key).2.1) y.2 (pln y.1.2) = filRW mo (remQ (pln L9) (pathN (j : Int) (pln L9) key).1 (pathN (j : Int) (pln L9) key).2.1) ((remQ (pln L9) (pathN (j : Int) (pln L9) key).1 (pathN (j : Int) (pln L9) key).2.1).length - 1) (rem2 (pln L9) (pathN (j : Int) (pln L9) key).1 (pathN (j : Int) (pln L9) key).2.1) ∧ FilROk mo (remQ (pln L9) (pathN (j : Int) (pln L9) key).1 (pathN (j : Int) (pln L9) key).2.1) y.2 (pln y.1.2) ∧ y.2 < (remQ (pln L9) (pathN (j : Int) (pln L9) key).1 (pathN (j : Int) (pln L9) key).2.1).length ∧ y.1.2.length ≤ y.1.1.2 ∧ y.1.1.2 ≤ maxLen) (fun y => y.2) (((gn, gc0), L2), (remQ (pln L9) (pathN (j : Int) (pln L9) key).1 (pathN (j : Int) (pln L9) key).2.1).length - 1) ⟨by rw [hL2], by rw [hL2]; exact hfo, by simp only []; omega, by simp only []; rw [hl2]; exact hn9, hm9⟩ aSx (fun w h => h.ent aEt) (fun ⟨⟨⟨ga, gc⟩, Lk⟩, k⟩ hx => ?_)
 dsimp only
 obtain ⟨hx1, hx2, hx3, hx4, hx5⟩ := hx
 simp only [] at hx1 hx2 hx3 hx4 hx5
 iterate 6 refine aS ?_
 refine s_cond rfl (fun h11 => ?_) fun h11 => ?_
 ·try simp only [decide_eq_true_eq] at h11
  obtain ⟨k1, rfl⟩ : ∃ k1, k = k1 + 1 := ⟨k - 1, by omega⟩
  obtain ⟨hkl9, hsp⟩ := hx2.1
  rw [pln_len] at hkl9
  rw [pln_nth hkl9] at hsp
  simp only [LNd.pl] at hsp
  iterate 4 refine aS ?_
  refine s_draw [] mixed ?_
  refine dFa 0 ?_
  refine dLd 1 [] ?_
  refine dP 2 ?_
  refine dP 3 ?_
  refine d_p 4 rfl (p_indexAddr rfl rfl rfl sl_30 (k1 + 1) (by omega) (by omega) hqa) (by kernel_rfl) rfl rfl ?_
  refine d_q 5 [] rfl (q_load_at rfl rfl sz_3 (fun w h => HS.pown_rd (P := (remQ (pln L9) (pathN (j : Int) (pln L9) key).1 (pathN (j : Int) (pln L9) key).2.1)) (a := qa) (c := qc) (k := k1 + 1) (by omega) hqa h aPk)) (by kernel_rfl) (by kernel_rfl) (by kernel_rfl) rfl ?_
  refine d_p 6 rfl (p_indexAddr rfl rfl rfl sl_22 ((nth (remQ (pln L9) (pathN (j : Int) (pln L9) key).1 (pathN (j : Int) (pln L9) key).2.1) (k1 + 1))) (by omega) (by omega) rfl) (by kernel_rfl) rfl rfl ?_
  refine d_slot (show _ = Value.pointer (some ⟨ga, (nth (remQ (pln L9) (pathN (j : Int) (pln L9) key).1 (pathN (j : Int) (pln L9) key).2.1) (k1 + 1)) * 3, none⟩) from by rw [Nat.zero_add]) ?_
  refine dFa 7 ?_
  refine d_q 8 [] rfl (q_load_at rfl rfl sz_77 (fun w h => HS.nd_cell hkl9 h aPk 1 rfl (by decide))) (by kernel_rfl) (by kernel_rfl) (by kernel_rfl) rfl ?_
  refine d_p 9 rfl (p_len_slice rfl rfl Tryz.underlying77) (by kernel_rfl) rfl rfl ?_
  refine dFa 10 ?_
  refine dLd 11 [] ?_
  refine d_p 12 rfl (p_quo_nn rfl rfl rfl (by omega) (by omega) (by omega)) (by kernel_rfl) rfl rfl ?_
  refine dP 13 ?_
  refine dNi ?_
  refine s_cond rfl (fun h12 => ?_) fun h12 => ?_
  ·try simp only [decide_eq_true_eq] at h12
   have hbig : ((nth Lk (nth (remQ (pln L9) (pathN (j : Int) (pln L9) key).1 (pathN (j : Int) (pln L9) key).2.1) (k1 + 1))).es.length : Int) < mo / 2 := h12
   refine s_draw [9] mixed ?_
   refine dP 0 ?_
   refine dP 1 ?_
   refine dP 2 ?_
   try refine dWr ?_
   refine d_slot (show _ = Value.int .i64 ((k1 : Nat) : Int) from by congr 1; omega) ?_
   refine d_p 3 rfl (p_indexAddr rfl rfl rfl sl_30 (k1) (by omega) (by omega) hqa) (by kernel_rfl) rfl rfl ?_
   refine d_q 4 [[]] rfl (q_load_at rfl rfl sz_3 (fun w h => HS.pown_rd (P := (remQ (pln L9) (pathN (j : Int) (pln L9) key).1 (pathN (j : Int) (pln L9) key).2.1)) (a := qa) (c := qc) (k := k1) (by omega) hqa h aPk)) (by kernel_rfl) (by kernel_rfl) (by kernel_rfl) rfl ?_
   refine dP 5 ?_
   refine dP 6 ?_
   refine d_p 7 rfl (p_indexAddr rfl rfl rfl sl_30 (k1 + 1) (by omega) (by omega) hqa) (by kernel_rfl) rfl rfl ?_
   refine d_q 8 [[]] rfl (q_load_at rfl rfl sz_3 (fun w h => HS.pown_rd (P := (remQ (pln L9) (pathN (j : Int) (pln L9) key).1 (pathN (j : Int) (pln L9) key).2.1)) (a := qa) (c := qc) (k := k1 + 1) (by omega) hqa h aPk)) (by kernel_rfl) (by kernel_rfl) (by kernel_rfl) rfl ?_
   refine d_h 9 rfl (h_callF (Cs := [.blk b3 24 4 [.int .i64 (j : Int), .int .i64 mo, .int .i64 rm, .slice (some ⟨ga, 0, none⟩) (Lk).length gc], .blk ga 102 (gc * 3) ((Lk).flatMap LNd.vals), .star ((Lk).map (subN 26))]) rfl fn_73 rfl aPs (fun w1 h1 hf => c73 w1 b3 j mo rm ga gc Lk (nth (remQ (pln L9) (pathN (j : Int) (pln L9) key).1 (pathN (j : Int) (pln L9) key).2.1) k1) (ixR (nth (pln Lk) (nth (remQ (pln L9) (pathN (j : Int) (pln L9) key).1 (pathN (j : Int) (pln L9) key).2.1) k1)).cs ((nth (remQ (pln L9) (pathN (j : Int) (pln L9) key).1 (pathN (j : Int) (pln L9) key).2.1) (k1 + 1) : Nat) : Int)) (nth (remQ (pln L9) (pathN (j : Int) (pln L9) key).1 (pathN (j : Int) (pln L9) key).2.1) (k1 + 1)) hf hx4 hx5 (hsp hbig).ok (hsp hbig).kd rfl)) (by kernel_rfl) (fun w h => h.ent aEt) rfl (fun ⟨⟨g5, c5⟩, L5⟩ hF5 => ?_)
   refine dTu [] ?_
   refine dNi ?_
   refine aS ?_
   refine s_weaken (L' := [(4, _), (5, _), (6, _), (14, _)]) aSx (fun _ h => h) ?_
   iterate 3 refine aS ?_
   try refine oWr ?_
   iterate 2 refine aS ?_
   exact s_backI (((g5, c5), L5), k1) (by (try simp only []); omega) ⟨by simp only []; rw [hF5.1, ← hx1, filRW, if_pos (by rw [pln_nth hkl9]; exact hbig)], by simp only []; rw [hF5.1]; have h9 := hx2.2; rw [if_pos (by rw [pln_nth hkl9]; exact hbig)] at h9; exact h9, by simp only []; omega, hF5.2.1, hF5.2.2⟩ (by refine sl_c (congrArg (fun e => some (Value.int .i64 e)) (show _ = _ from by simp only []; omega)) ?_; repeat (first | exact sl_n | refine sl_c rfl ?_)) (fun w h => h.ent aEt)
  try simp only [decide_eq_false_iff_not] at h12
  have hbig : ¬ ((nth Lk (nth (remQ (pln L9) (pathN (j : Int) (pln L9) key).1 (pathN (j : Int) (pln L9) key).2.1) (k1 + 1))).es.length : Int) < mo / 2 := by have hq := h12; omega
  iterate 5 refine aS ?_
  try refine oWr ?_
  iterate 2 refine aS ?_
  exact s_backI (((ga, gc), Lk), k1) (by (try simp only []); omega) ⟨by simp only []; rw [← hx1, filRW, if_neg (by rw [pln_nth hkl9]; exact hbig)], by simp only []; have h9 := hx2.2; rw [if_neg (by rw [pln_nth hkl9]; exact hbig)] at h9; exact h9, by simp only []; omega, hx4, hx5⟩ (by refine sl_c (congrArg (fun e => some (Value.int .i64 e)) (show _ = _ from by simp only []; omega)) ?_; repeat (first | exact sl_n | refine sl_c rfl ?_)) (fun w h => h.ent aEt)
 try simp only [decide_eq_false_iff_not] at h11
 obtain rfl : k = 0 := by omega
 have hLG : pln Lk = filRW mo (remQ (pln L9) (pathN (j : Int) (pln L9) key).1 (pathN (j : Int) (pln L9) key).2.1) ((remQ (pln L9) (pathN (j : Int) (pln L9) key).1 (pathN (j : Int) (pln L9) key).2.1).length - 1) (rem2 (pln L9) (pathN (j : Int) (pln L9) key).1 (pathN (j : Int) (pln L9) key).2.1) := hx1
 obtain ⟨LG, rfl⟩ : ∃ LG, LG = Lk := ⟨_, rfl⟩
 have hrot : RotOk rm (pln LG) := by rw [hLG, hfr]; exact hok.rot
 have hiG : 0 < LG.length := by rw [← pln_len]; exact hrot.lt
 have hlG := hrot.len
 rw [pln_len] at hlG
 have hNG := pln_nth hiG
 have hrk := hrot.kid
 rw [hNG] at hrk
 simp only [LNd.pl] at hrk
 have hru := hrot.us
 refine s_exit_to rfl ?_
 iterate 5 refine aS ?_
 refine o_p (p_indexAddr rfl rfl rfl sl_22 (0) (by omega) (by omega) rfl) rfl ?_
 refine o_slot (show _ = Value.pointer (some ⟨ga, 0 * 3, none⟩) from by rw [Nat.zero_add]) ?_
 refine o_q (q_load_atn _ rfl rfl sz_102 rfl (fun w h => HS.nd_cells hiG h aPk)) rfl ?_
 refine oAl (fun b13 _ => ?_) zr_102
 refine oSt ?_
 iterate 8 refine aS ?_
 refine o_and 5 160 165 _ _ rfl
  (by
   intro hg14
   have hs15 := hg14; try simp only [decide_eq_true_eq] at hs15
   refine oOn 160 hg14 ?_
   refine aS ?_
   refine oOn 160 hg14 ?_
   refine aS ?_
   refine oOn 160 hg14 ?_
   refine aS ?_
   refine oOn 160 hg14 ?_
   refine aS ?_
   refine o_p (p_pickt rfl rfl hg14 rfl) rfl ?_
   refine aS ?_
   exact oJn 5 165)
  (by
   intro hg16
   have hs17 := hg16; try simp only [decide_eq_false_iff_not] at hs17
   refine oOf 160 hg16 ?_
   refine oOf 160 hg16 ?_
   refine oOf 160 hg16 ?_
   refine oOf 160 hg16 ?_
   refine o_p (p_pickf rfl rfl hg16 rfl) rfl ?_
   refine aS ?_
   exact oJn 5 165) ?_
 refine aS ?_
 refine s_weaken (L' := [(4, _), (5, _), (6, _), (14, _), (15, _), (165, _)]) aSx (fun _ h => h) ?_
 refine s_cutI (α := List LNd) [16, 17, 166, 167, 168, 169, 170, 171, 172, 173, 174, 175, 176, 177, 178, 179, 180, 181, 182, 183, 184, 185, 186, 187, 188, 189, 190, 191, 192, 193, 194, 195, 196, 197] (fun _ => []) (fun x => HS w [] [.blk b3 24 4 [.int .i64 (j : Int), .int .i64 mo, .int .i64 rm, .slice (some ⟨ga, 0, none⟩) (x).length gc], .blk ga 102 (gc * 3) ((x).flatMap LNd.vals), .star ((x).map (subN 26)), .blk b2 24 4 [.int .i64 0, .int .i64 0, .int .i64 0, .slice none 0 0]]) (fun x => pln x = rotN rm (pln LG) ∧ x.length = LG.length) ?_ ?_
 ·skip
  refine s_cond rfl (fun h18 => ?_) fun h18 => ?_
  ·try simp only [Bool.and_eq_true, decide_eq_true_eq] at h18
   have hc9 := h18
   have hrt : (nth LG 0).es.length = 0 ∧ (nth LG 0).cs.length = 1 := by omega
   obtain ⟨hk1, hck, hku⟩ := hrk hrt.2
   rw [pln_len] at hck
   have hkn : (kdN (pln LG) 0 0) ≠ 0 := by have := kd_eq hNG (Int.le_of_lt hk1); simp only [LNd.pl] at this; omega
   refine s_fact (fun w h => HS.cs_some hiG (by omega) h aPk) fun hgr => ?_
   obtain ⟨gr9, hgr⟩ := hgr
   iterate 4 refine aS ?_
   refine o_p (p_indexAddr rfl rfl rfl sl_30 (0) (by omega) (by omega) hgr) rfl ?_
   refine o_q (q_load_at rfl rfl sz_3 (fun w h => HS.cs_rd hiG (k := 0) (by omega) hgr h aPk)) rfl ?_
   refine o_slot (show _ = Value.int .i64 ((kdN (pln LG) 0 0) : Int) from congrArg (Value.int .i64) (kd_eq hNG (Int.le_of_lt hk1))) ?_
   iterate 7 refine aS ?_
   refine o_p (p_indexAddr rfl rfl rfl sl_22 ((kdN (pln LG) 0 0)) (by omega) (by omega) rfl) rfl ?_
   refine o_slot (show _ = Value.pointer (some ⟨ga, (kdN (pln LG) 0 0) * 3, none⟩) from by rw [Nat.zero_add]) ?_
   refine o_q (q_load_atn _ rfl rfl sz_102 rfl (fun w h => HS.nd_cells hck h aPk)) rfl ?_
   refine oAl (fun b19 _ => ?_) zr_102
   refine oSt ?_
   iterate 10 refine aS ?_
   refine s_cond rfl (fun h20 => ?_) fun h20 => ?_
   ·try simp only [decide_eq_true_eq] at h20
    have hcl : ((nth LG (kdN (pln LG) 0 0)).es.length : Int) ≤ rm := h20
    refine aS ?_
    refine s_drawB [.blk b3 24 4 [.int .i64 (j : Int), .int .i64 mo, .int .i64 rm, .slice (some ⟨ga, 0, none⟩) LG.length gc], .blk b19 102 3 (LNd.vals (nth LG (kdN (pln LG) 0 0)))] [] mixed ?_
    refine dFa 0 ?_
    refine dLd 1 [] ?_
    refine dFa 2 ?_
    refine dLd 3 [] ?_
    refine dFa 4 ?_
    refine dLd 5 [] ?_
    refine dFa 6 ?_
    refine dLd 7 [] ?_
    refine d_p 8 rfl (p_indexAddr rfl rfl rfl sl_22 (0) (by omega) (by omega) rfl) (by kernel_rfl) rfl rfl ?_
    refine d_slot (show _ = Value.pointer (some ⟨ga, 0 * 3, none⟩) from by rw [Nat.zero_add]) ?_
    refine dFa 9 ?_
    refine dSt 10 ?_ (hl := (by rw [flat_length nv3]; show _ + 1 ≤ _; omega))
    refine d_p 11 rfl (p_indexAddr rfl rfl rfl sl_22 (0) (by omega) (by omega) rfl) (by kernel_rfl) rfl rfl ?_
    refine d_slot (show _ = Value.pointer (some ⟨ga, 0 * 3, none⟩) from by rw [Nat.zero_add]) ?_
    refine dFa 12 ?_
    refine d_h0 13 rfl (h_store rfl rfl rfl sz_30 rfl aPt (by rw [setMany_length, flat_length nv3]; show _ + 1 ≤ _; omega) rfl) (by kernel_rfl) (fun w h => h.ent aEt) (fun _ _ => ?_)
    refine dNi ?_
    refine s_weaken (L' := [(4, _), (5, _), (6, _), (14, _), (15, _), (16, _), (165, _)]) aSx (fun _ h => h) ?_
    iterate 2 refine aS ?_
    refine o_ex (fun w h => HS.node_move (i := (kdN (pln LG) 0 0)) (j := 0) (gn := ga) (cap := gc) hck hiG hkn h aPk aPk) fun L7 => ?_
    refine o_fact (fun w h => h.1) fun hS7 => ?_
    refine o_class (fun w h => h.2) ?_
    have hck7 : (kdN (pln LG) 0 0) < L7.length := by rw [hS7.len]; exact hck
    iterate 2 refine aS ?_
    refine o_p (p_build (cs := [_, _, _]) rfl rfl pl_102 zr_102 rfl) rfl ?_
    refine o_p (p_indexAddr rfl rfl rfl sl_22 ((kdN (pln LG) 0 0)) (by omega) (by omega) rfl) rfl ?_
    refine o_slot (show _ = Value.pointer (some ⟨ga, (kdN (pln LG) 0 0) * 3, none⟩) from by rw [Nat.zero_add]) ?_
    refine o_h0 (h_store rfl rfl rfl sz_102 rfl aPt (by rw [flat_length nv3]; show _ + 3 ≤ _; omega) rfl) (fun _ _ => ?_)
    refine aS ?_
    refine s_ex (fun w h => HS.node_goneB (i := (kdN (pln LG) 0 0)) (gn := ga) (cap := gc) hck7 h aPk aPk) fun L8 => ?_
    refine s_fact (fun w h => h.1) fun hS8 => ?_
    refine s_class (fun w h => h.2) ?_
    exact s_joinI L8 ⟨by rw [hS8.pl, hS7.pl, ← rot_pl hiG hck hru hku]; exact (rotN_1 hNG hrt (pln_nth hck) hcl).symm, by rw [hS8.len, hS7.len]⟩ aSx (fun w h => by rw [hS8.len, hS7.len]; exact h.ent aEt)
   try simp only [decide_eq_false_iff_not] at h20
   have hcl : ¬ ((nth LG (kdN (pln LG) 0 0)).es.length : Int) ≤ rm := by have hq := h20; omega
   refine aS ?_
   exact s_joinI LG ⟨(rotN_2 hNG hrt (pln_nth hck) hcl).symm, rfl⟩ aSx (fun w h => h.ent aEt)
  try simp only [Bool.and_eq_false_iff, decide_eq_false_iff_not] at h18
  have hc9 := h18
  have hrt : ¬ ((nth LG 0).es.length = 0 ∧ (nth LG 0).cs.length = 1) := by omega
  refine aS ?_
  exact s_joinI LG ⟨(rotN_3 hNG hrt).symm, rfl⟩ aSx (fun w h => h.ent aEt)
 intro LR hx
 obtain ⟨hR, hRl⟩ := hx
 have hRu : (nth (pln LR) 0).us = true := by rw [hR]; exact rot_us hrot
 iterate 2 refine aS ?_
 refine s_loopI (α := Nat) [198, 199, 200, 201, 202, 203, 204, 205, 206, 207, 208, 209, 210, 211, 212, 213, 214, 215] (fun _ => []) (fun m => HS w [] [.blk b3 24 4 [.int .i64 (j : Int), .int .i64 mo, .int .i64 rm, .slice (some ⟨ga, 0, none⟩) (m) gc], .blk ga 102 (gc * 3) ((LR.take (m)).flatMap LNd.vals), .star ((LR.take (m)).map (subN 26)), .blk b2 24 4 [.int .i64 0, .int .i64 0, .int .i64 0, .slice none 0 0]]) (fun m => (1 ≤ m ∧ m ≤ LR.length) ∧ tln (pln LR) LR.length = tln (pln LR) m) (fun m => m) LR.length ⟨⟨by rw [hRl]; exact hiG, Nat.le_refl _⟩, rfl⟩ aSx (fun w h => by rw [List.take_length]; exact h.ent aEt) (fun m hm => ?_)
 obtain ⟨⟨hm1, hm2⟩, hm3⟩ := hm
 iterate 9 refine aS ?_
 try refine oWr ?_
 refine o_p (p_indexAddr rfl rfl rfl sl_22 (m - 1) (by omega) (by omega) rfl) rfl ?_
 refine o_slot (show _ = Value.pointer (some ⟨ga, (m - 1) * 3, none⟩) from by rw [Nat.zero_add]) ?_
 refine aS ?_
 refine o_q (q_load_at rfl rfl sz_4 (fun w h => HS.nd_cell (L := LR.take m) (i := m - 1) (by rw [List.length_take]; omega) h aPk 0 (by rw [nth_take (by omega)]; rfl) (by decide))) rfl ?_
 iterate 2 refine aS ?_
 refine s_cond rfl (fun h21 => ?_) fun h21 => ?_
 ·try simp only [Bool.not_eq_true'] at h21
  have hm4 : ¬ (nth (pln LR) (m - 1)).us = true := by rw [pln_nth (by omega)]; have hq := h21; simp only [LNd.pl]; first | exact hq | simp [hq]
  have hm5 : 1 ≤ m - 1 := (Nat.lt_or_ge 1 m).elim (fun h9 => by omega) (fun h9 => by exfalso; have h8 : m = 1 := (by omega); subst h8; exact hm4 hRu)
  iterate 9 refine aS ?_
  try refine oWr ?_
  refine o_p (p_slice _ _ 0 (m - 1) rfl rfl sl_22 rfl ⟨_, _, rfl, (by omega)⟩ (by omega) (by omega)) rfl ?_
  refine o_slot (show _ = Value.slice (some ⟨ga, 0, none⟩) (m - 1) gc from by rw [subA_zero] <;> first | rfl | (congr 1 <;> omega)) ?_
  refine aS ?_
  refine o_h0 (h_store rfl rfl rfl sz_22 rfl aPt (by show 4 ≤ 4; omega) rfl) (fun _ _ => ?_)
  iterate 2 refine aS ?_
  exact s_backI (m - 1) (by omega) ⟨⟨hm5, by omega⟩, by rw [hm3, tln_step hm1 hm4]⟩ aSx (fun w h => by have h2 := HS.star_take (m - 1) h aPk; rw [List.take_take, Nat.min_eq_left (Nat.sub_le m 1)] at h2; have h3 := h2; rw [take_flat (L := LR.take m) (m := m - 1), List.take_take, Nat.min_eq_left (Nat.sub_le m 1)] at h3; exact (HS.blk_less (b := ga) aPk h3).ent aEt)
 try simp only [Bool.not_eq_false'] at h21
 have hm4 : (nth (pln LR) (m - 1)).us = true := by rw [pln_nth (by omega)]; have hq := h21; simp only [LNd.pl]; first | exact hq | simpa using hq
 refine s_exit_to rfl ?_
 iterate 3 refine aS ?_
 refine o_h0 (h_store rfl rfl rfl sz_24 rfl aPt (by show 4 ≤ 4; omega) rfl) (fun _ _ => ?_)
 refine aS ?_
 exact s_retv (rs := [.cell 4 24]) rfl (.cell rfl sz_24 aPk rfl (.nil)) (fun w' h' => ⟨((some ⟨ga, 0, none⟩, gc), LR.take m), by simp only [List.length_take]; rw [Nat.min_eq_left hm2]; rfl, by unfold remN; rw [← hL9, ← hfr, ← hLG, ← hR, trmN, pln_len, hm3, tln_stop hm1 hm4]; exact List.map_take, nodes_join (h'.ent (Bs := [.blk ga 102 (gc * 3) ((LR.take m).flatMap LNd.vals), .star ((LR.take m).map (subN 26))]) aEt) (by show (LR.take m).length ≤ gc; rw [List.length_take]; omega) hx5⟩)
theorem fn_27 : isFn Tryz.prog 27 = true := by kernel_rfl
set_option maxHeartbeats 400000 in
theorem c4z (w : World) (co mo rm : Int) (a : Option Addr) (cap : Nat) (L : List LNd) (key : List UInt8) (hs : Nt w [] a L) (hz : ¬ (tfewB (pln L) = true ∧ key.length ≤ 44)) : Calls Tryz.prog 4 #[.agg #[.int .i64 co, .int .i64 mo, .int .i64 rm, .slice a L.length cap], .string (bs key)] w fun en w' => en = .returned (.bool true) ∧ Below w.heap.size w w' := by
 refine enter (args := [_, _]) Tryz.func4 Tryz.ntmps4 rfl rfl (HS.refl w []) ?_
 iterate 2 refine aS ?_
 refine oBx fun b1 _ => ?_
 iterate 5 refine aS ?_
 refine o_q (q_call rfl fn_13 rfl (fun w1 h1 => c13 w1)) rfl ?_
 iterate 2 refine aS ?_
 refine s_cond rfl (fun h2 => ?_) fun h2 => ?_
 ·try simp only [Bool.not_true] at h2
  exfalso; simp at h2
 try simp only [Bool.not_true] at h2
 iterate 5 refine aS ?_
 refine o_q (q_call rfl fn_14 rfl (fun w1 h1 => c14 w1 co mo rm a cap L (hs.later h1.nil))) rfl ?_
 iterate 2 refine aS ?_
 refine o_or 4 17 21 _ _ rfl
  (by
   intro hg3
   have hs4 := hg3; try simp only [Bool.not_eq_false'] at hs4
   refine oOn 17 hg3 ?_
   refine aS ?_
   refine oOn 17 hg3 ?_
   refine o_p (p_len_str rfl rfl Tryz.underlying9) rfl ?_
   refine oOn 17 hg3 ?_
   refine aS ?_
   refine o_p (p_pickf rfl rfl hg3 rfl) rfl ?_
   refine aS ?_
   exact oJn 4 21)
  (by
   intro hg5
   have hs6 := hg5; try simp only [Bool.not_eq_true'] at hs6
   refine oOf 17 hg5 ?_
   refine oOf 17 hg5 ?_
   refine oOf 17 hg5 ?_
   refine o_p (p_pickt rfl rfl hg5 rfl) rfl ?_
   refine aS ?_
   exact oJn 4 21) ?_
 refine aS ?_
 refine s_cond rfl (fun h7 => ?_) fun h7 => ?_
 ·try simp only [Bool.or_eq_true, Bool.not_eq_true', decide_eq_true_eq] at h7
  iterate 4 refine aS ?_
  exact s_retv (rs := [.tmp 4]) rfl (.tmp rfl (.nil)) (fun w' h' => ⟨by rfl, h'.below⟩)
 try simp only [Bool.or_eq_false_iff, Bool.not_eq_false', decide_eq_false_iff_not] at h7
 exfalso; simp at h7; exact hz ⟨h7.1, by omega⟩
set_option maxHeartbeats 400000 in
theorem c4e (w : World) (co mo rm : Int) (a : Option Addr) (cap : Nat) (L : List LNd) (key : List UInt8) (hs : Nt w [] a L) (hfw : tfewB (pln L) = true) (hk44 : key.length ≤ 44) (he : ¬ (treE (⟨co, mo, rm, pln L⟩ : Tre)).2 = 0) : Calls Tryz.prog 4 #[.agg #[.int .i64 co, .int .i64 mo, .int .i64 rm, .slice a L.length cap], .string (bs key)] w fun en w' => en = .returned (.bool true) ∧ Below w.heap.size w w' := by
 have hB := tfew_bd hfw
 have hkl := tfew_keys hfw
 have hsm := tfew_sm hfw
 have hle := hB.len
 rw [pln_len] at hle
 have hkk : key.length ≤ 1000000 := by omega
 refine enter (args := [_, _]) Tryz.func4 Tryz.ntmps4 rfl rfl (HS.refl w []) ?_
 iterate 2 refine aS ?_
 refine oBx fun b1 _ => ?_
 iterate 5 refine aS ?_
 refine o_q (q_call rfl fn_13 rfl (fun w1 h1 => c13 w1)) rfl ?_
 iterate 2 refine aS ?_
 refine s_cond rfl (fun h2 => ?_) fun h2 => ?_
 ·try simp only [Bool.not_true] at h2
  exfalso; simp at h2
 try simp only [Bool.not_true] at h2
 iterate 5 refine aS ?_
 refine o_q (q_call rfl fn_14 rfl (fun w1 h1 => c14 w1 co mo rm a cap L (hs.later h1.nil))) rfl ?_
 iterate 2 refine aS ?_
 refine o_or 4 17 21 _ _ rfl
  (by
   intro hg3
   have hs4 := hg3; try simp only [Bool.not_eq_false'] at hs4
   refine oOn 17 hg3 ?_
   refine aS ?_
   refine oOn 17 hg3 ?_
   refine o_p (p_len_str rfl rfl Tryz.underlying9) rfl ?_
   refine oOn 17 hg3 ?_
   refine aS ?_
   refine o_p (p_pickf rfl rfl hg3 rfl) rfl ?_
   refine aS ?_
   exact oJn 4 21)
  (by
   intro hg5
   have hs6 := hg5; try simp only [Bool.not_eq_true'] at hs6
   refine oOf 17 hg5 ?_
   refine oOf 17 hg5 ?_
   refine oOf 17 hg5 ?_
   refine o_p (p_pickt rfl rfl hg5 rfl) rfl ?_
   refine aS ?_
   exact oJn 4 21) ?_
 refine aS ?_
 refine s_cond rfl (fun h7 => ?_) fun h7 => ?_
 ·try simp only [Bool.or_eq_true, Bool.not_eq_true', decide_eq_true_eq] at h7
  exfalso; simp [hfw] at h7; omega
 try simp only [Bool.or_eq_false_iff, Bool.not_eq_false', decide_eq_false_iff_not] at h7
 iterate 4 refine aS ?_
 refine o_h (h_call rfl fn_17 rfl (fun w1 h1 => c17 w1 co mo rm a cap L (hs.later h1.nil) hle hsm)) rfl (fun ⟨⟨ga1, gc1⟩, LC1⟩ hLC1 => ?_)
 dsimp only
 refine aS ?_
 refine o_q (q_call rfl fn_25 rfl (fun w1 h1 => c25e w1 co mo rm ga1 gc1 LC1 key (HS.nt h1 aPk) (by rw [hLC1]; exact hB) (tfew_keys (by rw [hLC1]; exact hfw)) (by rw [hLC1]; exact he))) rfl ?_
 rw [hLC1]
 iterate 4 refine aS ?_
 refine oAl (fun b8 _ => ?_) zr_24
 refine o_h0 (h_store rfl rfl rfl sz_24 rfl aPt (by show 4 ≤ 4; omega) rfl) (fun _ _ => ?_)
 iterate 6 refine aS ?_
 refine o_q (q_call rfl fn_18 rfl (fun w1 h1 => c18 w1 co mo rm a cap L (hs.later h1.nil) hB hkl)) rfl ?_
 iterate 8 refine aS ?_
 refine s_cond rfl (fun h9 => ?_) fun h9 => ?_
 ·try simp only [decide_eq_true_eq] at h9
  exfalso; omega
 try simp only [decide_eq_false_iff_not] at h9
 iterate 7 refine aS ?_
 refine s_cond rfl (fun h10 => ?_) fun h10 => ?_
 ·try simp only [decide_eq_true_eq] at h10
  exfalso; omega
 try simp only [decide_eq_false_iff_not] at h10
 iterate 7 refine aS ?_
 refine s_cond rfl (fun h11 => ?_) fun h11 => ?_
 ·try simp only [Bool.not_eq_true', decide_eq_false_iff_not] at h11
  refine aS ?_
  refine s_weaken (L' := [(1, _), (2, _), (4, _), (5, _), (6, _), (7, _), (8, _)]) aSx (fun _ h => h) ?_
  iterate 5 refine aS ?_
  refine o_and 4 53 57 _ _ rfl
   (by
    intro hg12
    have hs13 := hg12; try simp only [decide_eq_true_eq] at hs13
    refine oOn 53 hg12 ?_
    refine aS ?_
    refine oOn 53 hg12 ?_
    refine o_p (p_build (cs := [_, _, _, _]) rfl rfl pl_24 zr_24 rfl) rfl ?_
    refine oOn 53 hg12 ?_
    refine o_q (q_call rfl fn_21 rfl (fun w1 h1 => c21 w1 0 0 0 none none 0 0 [] [] nt_nil nt_nil (by decide) (by decide) sm_nil sm_nil rfl)) rfl ?_
    refine o_p (p_pickt rfl rfl hg12 rfl) rfl ?_
    refine aS ?_
    exact oJn 4 57)
   (by
    intro hg14
    have hs15 := hg14; try simp only [decide_eq_false_iff_not] at hs15
    refine oOf 53 hg14 ?_
    refine oOf 53 hg14 ?_
    refine oOf 53 hg14 ?_
    refine o_p (p_pickf rfl rfl hg14 rfl) rfl ?_
    refine aS ?_
    exact oJn 4 57) ?_
  refine aS ?_
  refine o_and 4 58 62 _ _ rfl
   (by
    intro hg16
    have hs17 := hg16; try simp only [Bool.and_eq_true, decide_eq_true_eq] at hs17
    refine oOn 58 hg16 ?_
    refine aS ?_
    refine oOn 58 hg16 ?_
    refine aS ?_
    refine oOn 58 hg16 ?_
    refine aS ?_
    refine o_p (p_pickt rfl rfl hg16 rfl) rfl ?_
    refine aS ?_
    exact oJn 4 62)
   (by
    intro hg18
    have hs19 := hg18; try simp only [Bool.and_eq_false_iff, decide_eq_false_iff_not] at hs19
    refine oOf 58 hg18 ?_
    refine oOf 58 hg18 ?_
    refine oOf 58 hg18 ?_
    refine o_p (p_pickf rfl rfl hg18 rfl) rfl ?_
    refine aS ?_
    exact oJn 4 62) ?_
  iterate 2 refine aS ?_
  exact s_retv (rs := [.tmp 4]) rfl (.tmp rfl (.nil)) (fun w' h' => ⟨by simp [retV], h'.below⟩)
 try simp only [Bool.not_eq_false', decide_eq_true_eq] at h11
 exfalso; omega
set_option maxHeartbeats 400000 in
theorem c4x (w : World) (j : Nat) (mo rm : Int) (a : Option Addr) (cap : Nat) (L : List LNd) (key : List UInt8) (hs : Nt w [] a L) (hfw : tfewB (pln L) = true) (hk44 : key.length ≤ 44) (h0 : (treE (⟨(j : Int), mo, rm, pln L⟩ : Tre)).2 = 0) (hx : ¬ keyE (j : Int) key = 0) : Calls Tryz.prog 4 #[.agg #[.int .i64 (j : Int), .int .i64 mo, .int .i64 rm, .slice a L.length cap], .string (bs key)] w fun en w' => en = .returned (.bool true) ∧ Below w.heap.size w w' := by
 have hB := tfew_bd hfw
 have hkl := tfew_keys hfw
 have hsm := tfew_sm hfw
 have hle := hB.len
 rw [pln_len] at hle
 have hkk : key.length ≤ 1000000 := by omega
 obtain ⟨hc0, hz0, hl0, hl120, hn0, _, _⟩ := treE_0 h0
 rw [show ((⟨(j : Int), mo, rm, pln L⟩ : Tre)).ns = pln L from rfl, pln_len] at hl0 hl120
 have hj : j ≤ 3 := by obtain ⟨j9, e9, hj9⟩ := col_ok hc0; have e8 : ((j : Nat) : Int) = (j9 : Int) := e9; omega
 have hT : TOk (j : Int) (pln L) := tok_of (t := (⟨(j : Int), mo, rm, pln L⟩ : Tre)) hn0
 have hmo := (sizE_0 hz0).1
 simp only [] at hmo
 refine enter (args := [_, _]) Tryz.func4 Tryz.ntmps4 rfl rfl (HS.refl w []) ?_
 iterate 2 refine aS ?_
 refine oBx fun b1 _ => ?_
 iterate 5 refine aS ?_
 refine o_q (q_call rfl fn_13 rfl (fun w1 h1 => c13 w1)) rfl ?_
 iterate 2 refine aS ?_
 refine s_cond rfl (fun h2 => ?_) fun h2 => ?_
 ·try simp only [Bool.not_true] at h2
  exfalso; simp at h2
 try simp only [Bool.not_true] at h2
 iterate 5 refine aS ?_
 refine o_q (q_call rfl fn_14 rfl (fun w1 h1 => c14 w1 (j : Int) mo rm a cap L (hs.later h1.nil))) rfl ?_
 iterate 2 refine aS ?_
 refine o_or 4 17 21 _ _ rfl
  (by
   intro hg3
   have hs4 := hg3; try simp only [Bool.not_eq_false'] at hs4
   refine oOn 17 hg3 ?_
   refine aS ?_
   refine oOn 17 hg3 ?_
   refine o_p (p_len_str rfl rfl Tryz.underlying9) rfl ?_
   refine oOn 17 hg3 ?_
   refine aS ?_
   refine o_p (p_pickf rfl rfl hg3 rfl) rfl ?_
   refine aS ?_
   exact oJn 4 21)
  (by
   intro hg5
   have hs6 := hg5; try simp only [Bool.not_eq_true'] at hs6
   refine oOf 17 hg5 ?_
   refine oOf 17 hg5 ?_
   refine oOf 17 hg5 ?_
   refine o_p (p_pickt rfl rfl hg5 rfl) rfl ?_
   refine aS ?_
   exact oJn 4 21) ?_
 refine aS ?_
 refine s_cond rfl (fun h7 => ?_) fun h7 => ?_
 ·try simp only [Bool.or_eq_true, Bool.not_eq_true', decide_eq_true_eq] at h7
  exfalso; simp [hfw] at h7; omega
 try simp only [Bool.or_eq_false_iff, Bool.not_eq_false', decide_eq_false_iff_not] at h7
 iterate 4 refine aS ?_
 refine o_h (h_call rfl fn_17 rfl (fun w1 h1 => c17 w1 (j : Int) mo rm a cap L (hs.later h1.nil) hle hsm)) rfl (fun ⟨⟨ga1, gc1⟩, LC1⟩ hLC1 => ?_)
 dsimp only
 refine aS ?_
 refine o_q (q_call rfl fn_25 rfl (fun w1 h1 => c25x w1 j mo rm ga1 gc1 LC1 key (HS.nt h1 aPk) (by rw [hLC1]; exact hB) (tfew_keys (by rw [hLC1]; exact hfw)) hkk (by rw [hLC1]; exact h0) hx)) rfl ?_
 try rw [hLC1]
 iterate 4 refine aS ?_
 refine oAl (fun b8 _ => ?_) zr_24
 refine o_h0 (h_store rfl rfl rfl sz_24 rfl aPt (by show 4 ≤ 4; omega) rfl) (fun _ _ => ?_)
 iterate 6 refine aS ?_
 refine o_q (q_call rfl fn_18 rfl (fun w1 h1 => c18 w1 (j : Int) mo rm a cap L (hs.later h1.nil) hB hkl)) rfl ?_
 iterate 8 refine aS ?_
 refine s_cond rfl (fun h9 => ?_) fun h9 => ?_
 ·try simp only [decide_eq_true_eq] at h9
  iterate 4 refine aS ?_
  refine o_q (q_call rfl fn_26 rfl (fun w1 h1 => c26 w1 j key hj hkk)) rfl ?_
  iterate 4 refine aS ?_
  refine s_weaken (L' := [(1, _), (2, _), (4, _), (5, _), (6, _), (7, _), (8, _)]) aSx (fun _ h => h) ?_
  iterate 4 refine aS ?_
  refine s_cond rfl (fun h10 => ?_) fun h10 => ?_
  ·try simp only [decide_eq_true_eq] at h10
   exfalso; omega
  try simp only [decide_eq_false_iff_not] at h10
  iterate 7 refine aS ?_
  refine s_cond rfl (fun h11 => ?_) fun h11 => ?_
  ·try simp only [Bool.not_eq_true', decide_eq_false_iff_not] at h11
   iterate 6 refine aS ?_
   refine o_and 4 53 57 _ _ rfl
    (by
     intro hg12
     have hs13 := hg12; try simp only [decide_eq_true_eq] at hs13
     refine oOn 53 hg12 ?_
     refine aS ?_
     refine oOn 53 hg12 ?_
     refine o_p (p_build (cs := [_, _, _, _]) rfl rfl pl_24 zr_24 rfl) rfl ?_
     refine oOn 53 hg12 ?_
     refine o_q (q_call rfl fn_21 rfl (fun w1 h1 => c21 w1 0 0 0 none none 0 0 [] [] nt_nil nt_nil (by decide) (by decide) sm_nil sm_nil rfl)) rfl ?_
     refine o_p (p_pickt rfl rfl hg12 rfl) rfl ?_
     refine aS ?_
     exact oJn 4 57)
    (by
     intro hg14
     have hs15 := hg14; try simp only [decide_eq_false_iff_not] at hs15
     refine oOf 53 hg14 ?_
     refine oOf 53 hg14 ?_
     refine oOf 53 hg14 ?_
     refine o_p (p_pickf rfl rfl hg14 rfl) rfl ?_
     refine aS ?_
     exact oJn 4 57) ?_
   refine aS ?_
   refine o_and 4 58 62 _ _ rfl
    (by
     intro hg16
     have hs17 := hg16; try simp only [Bool.and_eq_true, decide_eq_true_eq] at hs17
     refine oOn 58 hg16 ?_
     refine aS ?_
     refine oOn 58 hg16 ?_
     refine aS ?_
     refine oOn 58 hg16 ?_
     refine aS ?_
     refine o_p (p_pickt rfl rfl hg16 rfl) rfl ?_
     refine aS ?_
     exact oJn 4 62)
    (by
     intro hg18
     have hs19 := hg18; try simp only [Bool.and_eq_false_iff, decide_eq_false_iff_not] at hs19
     refine oOf 58 hg18 ?_
     refine oOf 58 hg18 ?_
     refine oOf 58 hg18 ?_
     refine o_p (p_pickf rfl rfl hg18 rfl) rfl ?_
     refine aS ?_
     exact oJn 4 62) ?_
   iterate 2 refine aS ?_
   exact s_retv (rs := [.tmp 4]) rfl (.tmp rfl (.nil)) (fun w' h' => ⟨by simp [retV], h'.below⟩)
  try simp only [Bool.not_eq_false', decide_eq_true_eq] at h11
  exfalso; omega
 try simp only [decide_eq_false_iff_not] at h9
 exfalso; omega
set_option maxHeartbeats 400000 in
theorem c4m (w : World) (j : Nat) (mo rm : Int) (a : Option Addr) (cap : Nat) (L : List LNd) (key : List UInt8) (hs : Nt w [] a L) (hfw : tfewB (pln L) = true) (hk44 : key.length ≤ 44) (h0 : (treE (⟨(j : Int), mo, rm, pln L⟩ : Tre)).2 = 0) (hx0 : keyE (j : Int) key = 0) (hx : ¬ (pathN (j : Int) (pln L) key).2.2 = true) : Calls Tryz.prog 4 #[.agg #[.int .i64 (j : Int), .int .i64 mo, .int .i64 rm, .slice a L.length cap], .string (bs key)] w fun en w' => en = .returned (.bool true) ∧ Below w.heap.size w w' := by
 have hB := tfew_bd hfw
 have hkl := tfew_keys hfw
 have hsm := tfew_sm hfw
 have hle := hB.len
 rw [pln_len] at hle
 have hkk : key.length ≤ 1000000 := by omega
 obtain ⟨hc0, hz0, hl0, hl120, hn0, _, _⟩ := treE_0 h0
 rw [show ((⟨(j : Int), mo, rm, pln L⟩ : Tre)).ns = pln L from rfl, pln_len] at hl0 hl120
 have hj : j ≤ 3 := by obtain ⟨j9, e9, hj9⟩ := col_ok hc0; have e8 : ((j : Nat) : Int) = (j9 : Int) := e9; omega
 have hT : TOk (j : Int) (pln L) := tok_of (t := (⟨(j : Int), mo, rm, pln L⟩ : Tre)) hn0
 have hmo := (sizE_0 hz0).1
 simp only [] at hmo
 refine enter (args := [_, _]) Tryz.func4 Tryz.ntmps4 rfl rfl (HS.refl w []) ?_
 iterate 2 refine aS ?_
 refine oBx fun b1 _ => ?_
 iterate 5 refine aS ?_
 refine o_q (q_call rfl fn_13 rfl (fun w1 h1 => c13 w1)) rfl ?_
 iterate 2 refine aS ?_
 refine s_cond rfl (fun h2 => ?_) fun h2 => ?_
 ·try simp only [Bool.not_true] at h2
  exfalso; simp at h2
 try simp only [Bool.not_true] at h2
 iterate 5 refine aS ?_
 refine o_q (q_call rfl fn_14 rfl (fun w1 h1 => c14 w1 (j : Int) mo rm a cap L (hs.later h1.nil))) rfl ?_
 iterate 2 refine aS ?_
 refine o_or 4 17 21 _ _ rfl
  (by
   intro hg3
   have hs4 := hg3; try simp only [Bool.not_eq_false'] at hs4
   refine oOn 17 hg3 ?_
   refine aS ?_
   refine oOn 17 hg3 ?_
   refine o_p (p_len_str rfl rfl Tryz.underlying9) rfl ?_
   refine oOn 17 hg3 ?_
   refine aS ?_
   refine o_p (p_pickf rfl rfl hg3 rfl) rfl ?_
   refine aS ?_
   exact oJn 4 21)
  (by
   intro hg5
   have hs6 := hg5; try simp only [Bool.not_eq_true'] at hs6
   refine oOf 17 hg5 ?_
   refine oOf 17 hg5 ?_
   refine oOf 17 hg5 ?_
   refine o_p (p_pickt rfl rfl hg5 rfl) rfl ?_
   refine aS ?_
   exact oJn 4 21) ?_
 refine aS ?_
 refine s_cond rfl (fun h7 => ?_) fun h7 => ?_
 ·try simp only [Bool.or_eq_true, Bool.not_eq_true', decide_eq_true_eq] at h7
  exfalso; simp [hfw] at h7; omega
 try simp only [Bool.or_eq_false_iff, Bool.not_eq_false', decide_eq_false_iff_not] at h7
 iterate 4 refine aS ?_
 refine o_h (h_call rfl fn_17 rfl (fun w1 h1 => c17 w1 (j : Int) mo rm a cap L (hs.later h1.nil) hle hsm)) rfl (fun ⟨⟨ga1, gc1⟩, LC1⟩ hLC1 => ?_)
 dsimp only
 refine aS ?_
 refine o_q (q_call rfl fn_25 rfl (fun w1 h1 => c25m w1 j mo rm ga1 gc1 LC1 key (HS.nt h1 aPk) (by rw [hLC1]; exact hB) (tfew_keys (by rw [hLC1]; exact hfw)) (by rw [hLC1]; exact h0) hkk hx0 (by rw [hLC1]; exact hx))) rfl ?_
 try rw [hLC1]
 iterate 4 refine aS ?_
 refine oAl (fun b8 _ => ?_) zr_24
 refine o_h0 (h_store rfl rfl rfl sz_24 rfl aPt (by show 4 ≤ 4; omega) rfl) (fun _ _ => ?_)
 iterate 6 refine aS ?_
 refine o_q (q_call rfl fn_18 rfl (fun w1 h1 => c18 w1 (j : Int) mo rm a cap L (hs.later h1.nil) hB hkl)) rfl ?_
 iterate 8 refine aS ?_
 refine s_cond rfl (fun h9 => ?_) fun h9 => ?_
 ·try simp only [decide_eq_true_eq] at h9
  iterate 4 refine aS ?_
  refine o_q (q_call rfl fn_26 rfl (fun w1 h1 => c26 w1 j key hj hkk)) rfl ?_
  iterate 4 refine aS ?_
  refine s_weaken (L' := [(1, _), (2, _), (4, _), (5, _), (6, _), (7, _), (8, _)]) aSx (fun _ h => h) ?_
  iterate 4 refine aS ?_
  refine s_cond rfl (fun h10 => ?_) fun h10 => ?_
  ·try simp only [decide_eq_true_eq] at h10
   iterate 4 refine aS ?_
   refine o_h (h_call rfl fn_20 rfl (fun w1 h1 => c20 w1 j mo rm a cap L key hj hl0 hB hT (hs.later h1.nil) (keyE_ok hx0) hkk)) rfl (fun ⟨pa, pc⟩ _ => ?_)
   dsimp only
   iterate 11 refine aS ?_
   refine s_cond rfl (fun h11 => ?_) fun h11 => ?_
   ·try simp only [Bool.not_eq_true'] at h11
    iterate 9 refine aS ?_
    refine s_cond rfl (fun h12 => ?_) fun h12 => ?_
    ·try simp only [Bool.not_eq_true', decide_eq_false_iff_not] at h12
     iterate 6 refine aS ?_
     refine o_and 4 53 57 _ _ rfl
      (by
       intro hg13
       have hs14 := hg13; try simp only [decide_eq_true_eq] at hs14
       refine oOn 53 hg13 ?_
       refine aS ?_
       refine oOn 53 hg13 ?_
       refine o_p (p_build (cs := [_, _, _, _]) rfl rfl pl_24 zr_24 rfl) rfl ?_
       refine oOn 53 hg13 ?_
       refine o_q (q_call rfl fn_21 rfl (fun w1 h1 => c21 w1 0 0 0 none none 0 0 [] [] nt_nil nt_nil (by decide) (by decide) sm_nil sm_nil rfl)) rfl ?_
       refine o_p (p_pickt rfl rfl hg13 rfl) rfl ?_
       refine aS ?_
       exact oJn 4 57)
      (by
       intro hg15
       have hs16 := hg15; try simp only [decide_eq_false_iff_not] at hs16
       refine oOf 53 hg15 ?_
       refine oOf 53 hg15 ?_
       refine oOf 53 hg15 ?_
       refine o_p (p_pickf rfl rfl hg15 rfl) rfl ?_
       refine aS ?_
       exact oJn 4 57) ?_
     refine aS ?_
     refine o_and 4 58 62 _ _ rfl
      (by
       intro hg17
       have hs18 := hg17; try simp only [Bool.and_eq_true, decide_eq_true_eq] at hs18
       refine oOn 58 hg17 ?_
       refine aS ?_
       refine oOn 58 hg17 ?_
       refine aS ?_
       refine oOn 58 hg17 ?_
       refine aS ?_
       refine o_p (p_pickt rfl rfl hg17 rfl) rfl ?_
       refine aS ?_
       exact oJn 4 62)
      (by
       intro hg19
       have hs20 := hg19; try simp only [Bool.and_eq_false_iff, decide_eq_false_iff_not] at hs20
       refine oOf 58 hg19 ?_
       refine oOf 58 hg19 ?_
       refine oOf 58 hg19 ?_
       refine o_p (p_pickf rfl rfl hg19 rfl) rfl ?_
       refine aS ?_
       exact oJn 4 62) ?_
     iterate 2 refine aS ?_
     exact s_retv (rs := [.tmp 4]) rfl (.tmp rfl (.nil)) (fun w' h' => ⟨by simp [retV], h'.below⟩)
    try simp only [Bool.not_eq_false', decide_eq_true_eq] at h12
    exfalso; omega
   try simp only [Bool.not_eq_false'] at h11
   exfalso; first | exact hx h11 | simp_all
  try simp only [decide_eq_false_iff_not] at h10
  exfalso; omega
 try simp only [decide_eq_false_iff_not] at h9
 exfalso; omega
set_option maxHeartbeats 400000 in
theorem c4o (w : World) (j : Nat) (mo rm : Int) (a : Option Addr) (cap : Nat) (L : List LNd) (key : List UInt8) (hs : Nt w [] a L) (hfw : tfewB (pln L) = true) (hk44 : key.length ≤ 44) (h0 : (treE (⟨(j : Int), mo, rm, pln L⟩ : Tre)).2 = 0) (hx0 : keyE (j : Int) key = 0) (hx : (pathN (j : Int) (pln L) key).2.2 = true) : Calls Tryz.prog 4 #[.agg #[.int .i64 (j : Int), .int .i64 mo, .int .i64 rm, .slice a L.length cap], .string (bs key)] w fun en w' => en = .returned (.bool true) ∧ Below w.heap.size w w' := by
 have hB := tfew_bd hfw
 have hkl := tfew_keys hfw
 have hsm := tfew_sm hfw
 have hle := hB.len
 rw [pln_len] at hle
 have hkk : key.length ≤ 1000000 := by omega
 obtain ⟨hc0, hz0, hl0, hl120, hn0, _, _⟩ := treE_0 h0
 rw [show ((⟨(j : Int), mo, rm, pln L⟩ : Tre)).ns = pln L from rfl, pln_len] at hl0 hl120
 have hj : j ≤ 3 := by obtain ⟨j9, e9, hj9⟩ := col_ok hc0; have e8 : ((j : Nat) : Int) = (j9 : Int) := e9; omega
 have hT : TOk (j : Int) (pln L) := tok_of (t := (⟨(j : Int), mo, rm, pln L⟩ : Tre)) hn0
 have hmo := (sizE_0 hz0).1
 simp only [] at hmo
 have hvt := tre_vt h0
 simp only [] at hvt
 obtain ⟨T9, d9, hR9, hV9, hZ9, hU9⟩ := hvt
 have hI := rem_all hZ9 hR9 hV9 (by rw [pln_len]; omega) hx
 obtain ⟨T8, d8, hR8, hV8, _⟩ := hI.tree
 have hsI : Sm 900 (remN mo rm (pln L) (pathN (j : Int) (pln L) key).1 (pathN (j : Int) (pln L) key).2.1) := (hR8.sm hV8.bel (Nat.le_refl _) (Nat.le_trans hV8.root hZ9.rh)).mono (by have := hZ9.hi8; omega)
 have hlI := hI.len
 rw [pln_len] at hlI
 have hcl : (chgN (pln L) (remN mo rm (pln L) (pathN (j : Int) (pln L) key).1 (pathN (j : Int) (pln L) key).2.1)).length ≤ 100000 := Nat.le_trans (chgK_len _ _ _) (by rw [pln_len]; omega)
 have hfr := hI.same
 have hfr2 : filRW mo (remQ (pln L) (pathN (j : Int) (pln L) key).1 (pathN (j : Int) (pln L) key).2.1) ((remQ (pln L) (pathN (j : Int) (pln L) key).1 (pathN (j : Int) (pln L) key).2.1).length - 1) (rem2 (pln L) (pathN (j : Int) (pln L) key).1 (pathN (j : Int) (pln L) key).2.1) = filW mo (rem2 (pln L) (pathN (j : Int) (pln L) key).1 (pathN (j : Int) (pln L) key).2.1) (remQ (pln L) (pathN (j : Int) (pln L) key).1 (pathN (j : Int) (pln L) key).2.1).reverse := hI.filS
 refine enter (args := [_, _]) Tryz.func4 Tryz.ntmps4 rfl rfl (HS.refl w []) ?_
 iterate 2 refine aS ?_
 refine oBx fun b1 _ => ?_
 iterate 5 refine aS ?_
 refine o_q (q_call rfl fn_13 rfl (fun w1 h1 => c13 w1)) rfl ?_
 iterate 2 refine aS ?_
 refine s_cond rfl (fun h2 => ?_) fun h2 => ?_
 ·try simp only [Bool.not_true] at h2
  exfalso; simp at h2
 try simp only [Bool.not_true] at h2
 iterate 5 refine aS ?_
 refine o_q (q_call rfl fn_14 rfl (fun w1 h1 => c14 w1 (j : Int) mo rm a cap L (hs.later h1.nil))) rfl ?_
 iterate 2 refine aS ?_
 refine o_or 4 17 21 _ _ rfl
  (by
   intro hg3
   have hs4 := hg3; try simp only [Bool.not_eq_false'] at hs4
   refine oOn 17 hg3 ?_
   refine aS ?_
   refine oOn 17 hg3 ?_
   refine o_p (p_len_str rfl rfl Tryz.underlying9) rfl ?_
   refine oOn 17 hg3 ?_
   refine aS ?_
   refine o_p (p_pickf rfl rfl hg3 rfl) rfl ?_
   refine aS ?_
   exact oJn 4 21)
  (by
   intro hg5
   have hs6 := hg5; try simp only [Bool.not_eq_true'] at hs6
   refine oOf 17 hg5 ?_
   refine oOf 17 hg5 ?_
   refine oOf 17 hg5 ?_
   refine o_p (p_pickt rfl rfl hg5 rfl) rfl ?_
   refine aS ?_
   exact oJn 4 21) ?_
 refine aS ?_
 refine s_cond rfl (fun h7 => ?_) fun h7 => ?_
 ·try simp only [Bool.or_eq_true, Bool.not_eq_true', decide_eq_true_eq] at h7
  exfalso; simp [hfw] at h7; omega
 try simp only [Bool.or_eq_false_iff, Bool.not_eq_false', decide_eq_false_iff_not] at h7
 iterate 4 refine aS ?_
 refine o_h (h_call rfl fn_17 rfl (fun w1 h1 => c17 w1 (j : Int) mo rm a cap L (hs.later h1.nil) hle hsm)) rfl (fun ⟨⟨ga1, gc1⟩, LC1⟩ hLC1 => ?_)
 dsimp only
 refine aS ?_
 refine o_h (h_call rfl fn_25 rfl (fun w1 h1 => c25o w1 j mo rm ga1 gc1 LC1 key (HS.nt h1 aPk) (by rw [hLC1]; exact hB) (tfew_keys (by rw [hLC1]; exact hfw)) (by rw [hLC1]; exact h0) hkk hx0 (by rw [hLC1]; exact hx) (by rw [hLC1]; exact hI.ok) (by rw [hLC1]; exact hsI.mono (by decide)) (by rw [hLC1]; omega))) rfl (fun ⟨⟨⟨gu, cu⟩, LU⟩, ⟨gl, cl⟩⟩ hLU => ?_)
 dsimp only
 rw [hLC1]
 have hLU2 : pln LU = (remN mo rm (pln L) (pathN (j : Int) (pln L) key).1 (pathN (j : Int) (pln L) key).2.1) := by rw [← hLC1]; exact hLU
 have hlu : LU.length = (remN mo rm (pln L) (pathN (j : Int) (pln L) key).1 (pathN (j : Int) (pln L) key).2.1).length := by rw [← hLU2, pln_len]
 iterate 4 refine aS ?_
 refine oAl (fun b8 _ => ?_) zr_24
 refine o_h0 (h_store rfl rfl rfl sz_24 rfl aPt (by show 4 ≤ 4; omega) rfl) (fun _ _ => ?_)
 iterate 6 refine aS ?_
 refine o_q (q_call rfl fn_18 rfl (fun w1 h1 => c18 w1 (j : Int) mo rm a cap L (hs.later h1.nil) hB hkl)) rfl ?_
 iterate 8 refine aS ?_
 refine s_cond rfl (fun h9 => ?_) fun h9 => ?_
 ·try simp only [decide_eq_true_eq] at h9
  iterate 4 refine aS ?_
  refine o_q (q_call rfl fn_26 rfl (fun w1 h1 => c26 w1 j key hj hkk)) rfl ?_
  iterate 4 refine aS ?_
  refine s_weaken (L' := [(1, _), (2, _), (4, _), (5, _), (6, _), (7, _), (8, _)]) aSx (fun _ h => h) ?_
  iterate 4 refine aS ?_
  refine s_cond rfl (fun h10 => ?_) fun h10 => ?_
  ·try simp only [decide_eq_true_eq] at h10
   iterate 4 refine aS ?_
   refine o_h (h_call rfl fn_20 rfl (fun w1 h1 => c20 w1 j mo rm a cap L key hj hl0 hB hT (hs.later h1.nil) (keyE_ok hx0) hkk)) rfl (fun ⟨pa, pc⟩ _ => ?_)
   dsimp only
   iterate 11 refine aS ?_
   refine s_cond rfl (fun h11 => ?_) fun h11 => ?_
   ·try simp only [Bool.not_eq_true'] at h11
    exfalso; first | exact hx h11 | simp_all
   try simp only [Bool.not_eq_false'] at h11
   iterate 7 refine aS ?_
   refine s_cond rfl (fun h12 => ?_) fun h12 => ?_
   ·try simp only [Bool.not_eq_true', decide_eq_false_iff_not] at h12
    exfalso; omega
   try simp only [Bool.not_eq_false', decide_eq_true_eq] at h12
   iterate 5 refine aS ?_
   refine o_h (h_call rfl fn_27 rfl (fun w1 h1 => c27 w1 j mo rm a cap L key hj hl0 hB hT (hs.later h1.nil) (keyE_ok hx0) hkk hI.ok hI.filR hfr2)) rfl (fun ⟨⟨gr, cr⟩, LR⟩ hLR => ?_)
   dsimp only
   have hLR2 : pln LR = (remN mo rm (pln L) (pathN (j : Int) (pln L) key).1 (pathN (j : Int) (pln L) key).2.1) := hLR
   have hlr : LR.length = (remN mo rm (pln L) (pathN (j : Int) (pln L) key).1 (pathN (j : Int) (pln L) key).2.1).length := by rw [← hLR2, pln_len]
   refine oAl (fun b13 _ => ?_) zr_24
   refine o_h0 (h_store rfl rfl rfl sz_24 rfl aPt (by show 4 ≤ 4; omega) rfl) (fun _ _ => ?_)
   iterate 6 refine aS ?_
   refine o_and 4 68 72 _ _ rfl
    (by
     intro hg14
     have hs15 := hg14; try simp only [decide_eq_true_eq] at hs15
     refine oOn 68 hg14 ?_
     refine aS ?_
     refine oOn 68 hg14 ?_
     refine aS ?_
     refine oOn 68 hg14 ?_
     refine o_q (q_call rfl fn_21 rfl (fun w1 h1 => c21 w1 (j : Int) mo rm (some ⟨gu, 0, none⟩) gr cu cr LU LR (HS.nt h1 aPk) (HS.nt h1 aPk) (by omega) (by omega) (by rw [hLU2]; exact (hsI.mono (by decide))) (by rw [hLR2]; exact (hsI.mono (by decide))) (by rw [hLU2, hLR2]))) rfl ?_
     refine o_p (p_pickt rfl rfl hg14 rfl) rfl ?_
     refine aS ?_
     exact oJn 4 72)
    (by
     intro hg16
     have hs17 := hg16; try simp only [decide_eq_false_iff_not] at hs17
     refine oOf 68 hg16 ?_
     refine oOf 68 hg16 ?_
     refine oOf 68 hg16 ?_
     refine o_p (p_pickf rfl rfl hg16 rfl) rfl ?_
     refine aS ?_
     exact oJn 4 72) ?_
   refine aS ?_
   refine o_and 6 73 79 _ _ rfl
    (by
     intro hg18
     have hs19 := hg18; try simp only [Bool.and_eq_true, decide_eq_true_eq] at hs19
     refine oOn 73 hg18 ?_
     refine aS ?_
     refine oOn 73 hg18 ?_
     refine aS ?_
     refine oOn 73 hg18 ?_
     refine aS ?_
     refine oOn 73 hg18 ?_
     refine o_h (h_call rfl fn_24 rfl (fun w1 h1 => c24 w1 (j : Int) mo rm (j : Int) mo rm a gr cap cr L LR (hs.later h1.nil) (HS.nt h1 aPk) (by omega) (by omega) (hsm.mono (by decide)) (by rw [hLR2]; exact (hsI.mono (by decide))))) rfl (fun ⟨gq, cq⟩ _ => ?_)
     dsimp only
     rw [hLR2]
     refine oOn 73 hg18 ?_
     refine o_q (q_call rfl fn_23 rfl (fun w1 h1 => c23P w1 gl gq cl cq (chgN (pln L) (remN mo rm (pln L) (pathN (j : Int) (pln L) key).1 (pathN (j : Int) (pln L) key).2.1)) (chgN (pln L) (remN mo rm (pln L) (pathN (j : Int) (pln L) key).1 (pathN (j : Int) (pln L) key).2.1)) (HS.pown_row h1 aPk) (HS.pown_row h1 aPk) hcl hcl)) rfl ?_
     refine o_p (p_pickt rfl rfl hg18 rfl) rfl ?_
     refine aS ?_
     exact oJn 6 79)
    (by
     intro hg20
     have hs21 := hg20; try simp only [Bool.and_eq_false_iff, decide_eq_false_iff_not] at hs21
     refine oOf 73 hg20 ?_
     refine oOf 73 hg20 ?_
     refine oOf 73 hg20 ?_
     refine oOf 73 hg20 ?_
     refine oOf 73 hg20 ?_
     refine o_p (p_pickf rfl rfl hg20 rfl) rfl ?_
     refine aS ?_
     exact oJn 6 79) ?_
   iterate 2 refine aS ?_
   exact s_retv (rs := [.tmp 4]) rfl (.tmp rfl (.nil)) (fun w' h' => ⟨by simp [retV], h'.below⟩)
  try simp only [decide_eq_false_iff_not] at h10
  exfalso; omega
 try simp only [decide_eq_false_iff_not] at h9
 exfalso; omega
theorem c4 (w : World) (co mo rm : Int) (a : Option Addr) (cap : Nat) (L : List LNd) (key : List UInt8) (hs : Nt w [] a L) : Calls Tryz.prog 4 #[.agg #[.int .i64 co, .int .i64 mo, .int .i64 rm, .slice a L.length cap], .string (bs key)] w fun en w' => en = .returned (.bool true) ∧ Below w.heap.size w w' := by
  by_cases hz : tfewB (pln L) = true ∧ key.length ≤ 44
  · by_cases h0 : (treE (⟨co, mo, rm, pln L⟩ : Tre)).2 = 0
    · obtain ⟨j, rfl, hj⟩ := col_ok (treE_0 h0).1
      by_cases hx0 : keyE (j : Int) key = 0
      · by_cases hx : (pathN (j : Int) (pln L) key).2.2 = true
        · exact c4o w j mo rm a cap L key hs hz.1 hz.2 h0 hx0 hx
        · exact c4m w j mo rm a cap L key hs hz.1 hz.2 h0 hx0 hx
      · exact c4x w j mo rm a cap L key hs hz.1 hz.2 h0 hx0
    · exact c4e w co mo rm a cap L key hs hz.1 hz.2 h0
  · exact c4z w co mo rm a cap L key hs hz
end Go.Proofs
