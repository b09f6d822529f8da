/- Contracts of the program's functions, proved by walking them with the rules of the Gx texts; without conditions beyond those that each contract names. -/
import Derived.WalkKit
import Derived.Deep.Draws
import Derived.TacticsIn
import Derived.OrdersIn
import Derived.RangeFuncLeaves
import Derived.Lib.Strings
import Derived.Laws.BytesArg
import Derived.Laws.IdiomStrings
import Derived.Deep.Quiet
import Derived.ProofKit
import Derived.OpenShut
import Derived.Laws.StructEq
import Derived.ChangeKeysEq
import Derived.Laws.Externs
import Derived.Lib.Overlaps
import Derived.Carry
import Derived.Laws.Small
import Derived.Lib.Bytealg
import Derived.Lib.Builder
import Derived.Laws.Pointers
import Derived.RangeFuncRecord
import Derived.Test.YtpkhkcchibbhmaaGreatDoorProg
import Derived.KernelRfl
import Derived.SizedLaws
import Derived.ChangeSame
import Derived.Handed
import Derived.Test.YtpkhkcchibbhmaaGreatDoorTie
import Derived.Test.YtpkhkcchibbhmaaGreatDoorCards
import Derived.SevenTiedAt
import Derived.LaidMore
import Derived.Lay
import Derived.Stop.Joined
import Derived.Test.YtpkhkcchibbhmaaGreatDoorP1
set_option linter.unusedSimpArgs false
set_option maxHeartbeats 1000000
set_option linter.unusedVariables false
set_option linter.unusedSectionVars false
set_option linter.unnecessarySimpa false
namespace Gx
open Go Go.RowKit
def QuN (x : TEnt) : Bool:=decide (x.key.length ≤ 44 ∧ x.val.length ≤ 70)
def Qrq (es : List TEnt) : Bool:=es.all QuN
def Qvc (n : Nd) : Bool:=decide (n.es.length ≤ 10 ∧ n.cs.length ≤ 11) && Qrq n.es
def tfewB (ns : List Nd) : Bool:=decide (ns.length ≤ 122 ∧ ¬ (60 < ns.length ∧ ns.length ≤ 120)) && ns.all Qvc
theorem Qmu {i : Nat} {P : List Nat} (h : 0 < P.length) : QI (i :: P) = QI P:=by
 cases P with
 | nil=>exact absurd h (Nat.lt_irrefl _)
 | cons p P=>
  unfold QI;rw [show (i :: p :: P).length - 1 = (p :: P).length - 1 + 1 by simp];rfl
theorem QkU {co : Int} {ns : List Nd} (hT : TOk co ns) (h0 : 0 < ns.length) (key : List UInt8) : ∀ (f i : Nat) (P : List Nat),Way ns (i :: P) → P.length + f = ns.length → 0 < (Y4 co ns key f i).1.length ∧ (Y4 co ns key f i).1.length ≤ f ∧ QI (Y4 co ns key f i).1 < ns.length ∧ (Y4 co ns key f i).2.1 = plc co (nth ns (QI (Y4 co ns key f i).1)).es key ∧ (Y4 co ns key f i).2.2 = fnd co (nth ns (QI (Y4 co ns key f i).1)).es key
 | 0,i,P,hw,hf=>by
  have:=ZY hT h0 hw;rw [List.length_cons] at this;omega
 | f + 1,i,P,hw,hf=>by
  by_cases h : fnd co (nth ns i).es key = true ∨ (nth ns i).cs.length = 0
  ·rw [Y4,if_pos h];exact ⟨Nat.one_pos,Nat.le_add_left 1 f,Qbz hT h0 hw i (List.mem_cons_self ..),rfl,rfl⟩
  ·rw [Y4,if_neg h];have hi:=Qbz hT h0 hw i (List.mem_cons_self ..)
   have hc : (nth ns i).cs.length = (nth ns i).es.length + 1:=by
    rcases hT.shape i hi with h9 | h9
    ·exact absurd (.inr h9) h
    ·exact h9
   have hk : plc co (nth ns i).es key < (nth ns i).cs.length:=by
    have:=Qd6 co key (nth ns i).es;omega
   have hkid:=QdG hT hi hk;have ih:=QkU hT h0 key f ((nth ns i).cs.getD (plc co (nth ns i).es key) 0).toNat (i :: P) (Qb3 hw hi hk (by omega)) (by rw [List.length_cons];omega);simp only [];rw [Qmu ih.1];exact ⟨by rw [List.length_cons];omega,by rw [List.length_cons];omega,ih.2.2⟩
theorem Qpf {co : Int} {ns : List Nd} (hT : TOk co ns) (h0 : 0 < ns.length) (key : List UInt8) : 0 < (Qv co ns key).1.length ∧ (Qv co ns key).1.length ≤ ns.length ∧ QI (Qv co ns key).1 < ns.length ∧ (Qv co ns key).2.1 = plc co (nth ns (QI (Qv co ns key).1)).es key ∧ (Qv co ns key).2.2 = fnd co (nth ns (QI (Qv co ns key).1)).es key:=QkU hT h0 key ns.length 0 [] rfl (by simp)
def entN (co : Int) (ns : List Nd) (key : List UInt8) : TEnt:=nth (nth ns (QI (Qv co ns key).1)).es (Qv co ns key).2.1
end Gx
namespace Go.Proofs
open Go Go.RowKit Gx
attribute [local irreducible] Go.Calls Gx.S Gx.O Gx.D Gx.OpP Gx.OpQ Gx.OpH
set_option maxRecDepth 20000
theorem Quz : Qtk Tryz.prog 211 67 4:=⟨_,Tryz.func211,rfl,rfl,by kernel_rfl,by kernel_rfl⟩
theorem QuD : Qtk Tryz.prog 263 28 4:=⟨_,Tryz.func263,rfl,rfl,by kernel_rfl,by kernel_rfl⟩
theorem Qvb (w : World) (a : Option Addr) (i n m cap : Nat) (xs news : List Value) (b0 c0 tot2 : Nat) (hw : HS w (fps [.own (.slice a n cap) 27 2 n xs,.blk b0 27 tot2 news]) [.own (.slice a n cap) 27 2 n xs,.blk b0 27 tot2 news] w) (hm0 : 0 < m) (hl : news.length = m * 2) (hn1 : ∀ u ∈ news,u.oneCell' = true) (hx1 : ∀ u ∈ xs,u.oneCell' = true) (hmax : (n + m) * 32 ≤ 140737488355328) (hi : i = n) : Calls Tryz.prog 165 #[.slice a n cap,.int .i64 i,.slice (some ⟨b0,0,none⟩) m c0] w fun en w'=>∃ g : Option Addr × Nat,en = .returned (.slice g.1 (n + m) g.2) ∧ True ∧ HS w (fps [.own (.slice a n cap) 27 2 n xs,.blk b0 27 tot2 news]) [.own (.slice g.1 (n + m) g.2) 27 2 (n + m) (xs.take (i * 2) ++ news ++ xs.drop (i * 2)),.blk b0 27 tot2 news] w':=by
 obtain ⟨_,hnc,hcm,hxl⟩:=hw.own_facts .here
 refine eW3 Tryz.func165 Tryz.ntmps165 hw ?_
 refine aU8 ?_
 refine o_p (Qs _ _ i n rfl rfl Q7 ⟨_,_,rfl,rfl⟩ rfl (by omega) (by omega)) rfl ?_
 refine Qgd ?_
 refine sCd rfl (fun h1=>?_) fun h1=>?_
 ·exfalso;first | omega | (simp at h1;done) | (simp_all;done)
 refine Qh8 ?_
 refine sCd rfl (fun h2=>?_) fun h2=>?_
 ·refine aU4 ?_
  refine o_h (Xx news rfl rfl rfl Q7 Tryz.underlying67 Yb rfl aPk (Xe aPk) hl hn1 (by omega) (by simp only [maxLen];omega)) rfl (fun b3 _=>?_)
  refine aU2 ?_
  exact rT rfl rfl (fun w' h'=>⟨(_,_),rfl,trivial,by subst hi;rw [List.take_of_length_le (by omega),List.drop_eq_nil_of_le (by omega),List.append_nil];exact h'.ent aEt⟩)
 exfalso;first | omega | (simp at h2;done) | (simp_all;done)
theorem Qu4 (w : World) (gg i n m cap : Nat) (xs news : List Value) (b0 c0 tot2 : Nat) (M : List Nat) (hw : HS w M [.blk gg 27 (cap * 2) xs,.blk b0 27 tot2 news] w) (hnc : n ≤ cap) (hcm : cap ≤ maxLen) (hxl : xs.length = n * 2) (hm0 : 0 < m) (hl : news.length = m * 2) (hn1 : ∀ u ∈ news,u.oneCell' = true) (hx1 : ∀ u ∈ xs,u.oneCell' = true) (hmax : (n + m) * 32 ≤ 140737488355328) (hi : i < n) : Calls Tryz.prog 165 #[.slice (some ⟨gg,0,none⟩) n cap,.int .i64 i,.slice (some ⟨b0,0,none⟩) m c0] w fun en w'=>∃ g : Option Addr × Nat,en = .returned (.slice g.1 (n + m) g.2) ∧ True ∧ HS w M [.own (.slice g.1 (n + m) g.2) 27 2 (n + m) (xs.take (i * 2) ++ news ++ xs.drop (i * 2)),.blk b0 27 tot2 news] w':=by
 have ht2:=(hw.blk_get (.there .here)).len_le
 have hcl : (cut xs 0 (i * 2)).length = i * 2:=Xp _ _ _ (by omega)
 refine eW3 Tryz.func165 Tryz.ntmps165 hw ?_
 refine aU8 ?_
 refine o_p (Qs _ _ i n rfl rfl Q7 ⟨_,_,rfl,rfl⟩ rfl (by omega) (by omega)) rfl ?_
 refine Qgd ?_
 refine sCd rfl (fun h1=>?_) fun h1=>?_
 ·exfalso;first | omega | (simp at h1;done) | (simp_all;done)
 refine Qh8 ?_
 refine sCd rfl (fun h2=>?_) fun h2=>?_
 ·exfalso;first | omega | (simp at h2;done) | (simp_all;done)
 refine aT7 ?_
 refine aU ?_
 refine o_p (QoC rfl rfl Tryz.underlying67) rfl ?_
 refine aU2 ?_
 refine sCd rfl (fun h3=>?_) fun h3=>?_
 ·refine aU4 ?_
  refine o_p (Qs _ _ 0 i rfl rfl Q7 rfl ⟨_,_,rfl,rfl⟩ (by omega) (by omega)) rfl ?_
  refine Qk (show _ = Value.slice (some ⟨gg,0,none⟩) (i) (cap) from by rw [Y9] <;> (congr 1 <;> omega)) ?_
  refine aT3 ?_
  refine aT2 ?_
  refine Qk (show _ = Value.int .i64 ((n + m - i : Nat) : Int) from by first | rfl | (congr 1 <;> first | rfl | omega)) ?_
  refine o_h (ZV (m:=n + m - i) (olds:=cut xs 0 (i * 2)) rfl rfl rfl Q7 YY Yb rfl (by decide) (by omega) (by omega) (ZE 0 (i * 2) (fun _=>rfl) aPk) hcl (by omega) (by simp only [maxLen];omega)) rfl (fun ⟨b4,c5⟩ ⟨h6,k7⟩=>?_)
  refine Qk (show _ = Value.slice (some ⟨b4,0,none⟩) (n + m) c5 from by first | rfl | (congr 1 <;> first | rfl | omega)) ?_
  refine aU3 ?_
  refine Qj (L':=[(0,_),(1,_),(2,_),(6,_),(7,_),(8,_),(9,_)]) aSx (fun _ h=>h) ?_
  refine aU3 ?_
  refine o_p (Qs _ _ i (n + m) rfl rfl Q7 ⟨_,_,rfl,rfl⟩ rfl (by omega) (by omega)) rfl ?_
  refine Qk (show _ = Value.slice (some ⟨b4,i * 2,none⟩) (n + m - i) (c5 - i) from by rw [XB (by omega)] <;> (congr 1 <;> omega)) ?_
  refine aU ?_
  refine o_h (QaT m news rfl rfl rfl Q7 aPt (by omega) hl (fun _=>rfl) (by simp only [Qx,List.length_append,Qg];omega) (Xe aPk) hn1) rfl (fun _ _=>?_)
  refine aU2 ?_
  refine QL [8] QZ ?_
  refine dP 0 ?_
  refine dP 1 ?_
  refine dP 2 ?_
  refine dP 3 ?_
  try refine dWr ?_
  refine dV 4 rfl (Qs _ _ (i + m) (n + m) rfl rfl Q7 ⟨_,_,rfl,(by omega)⟩ rfl (by omega) (by omega)) ?_
  refine QT (show _ = Value.slice (some ⟨b4,(i + m) * 2,none⟩) (n - i) (c5 - (i + m)) from by rw [XB (by omega)] <;> (congr 1 <;> omega)) ?_
  refine dP 5 ?_
  refine dP 6 ?_
  refine dV 7 rfl (Qs _ _ i n rfl rfl Q7 ⟨_,_,rfl,rfl⟩ rfl (by omega) (by omega)) ?_
  refine QT (show _ = Value.slice (some ⟨gg,i * 2,none⟩) (n - i) (cap - i) from by rw [XB (by omega)] <;> (congr 1 <;> omega)) ?_
  refine dH 8 rfl (QaT (n - i) (cut xs (i * 2) ((n - i) * 2)) rfl rfl rfl Q7 aPt (by omega) (Xp _ _ _ (by omega)) (fun _=>rfl) (by rw [Xp _ _ _ (by omega)];simp only [Qx,List.length_append,Qg];omega) (ZE (i * 2) ((n - i) * 2) (fun _=>rfl) aPk) (Qhk hx1 _ _)) (fun _ _=>?_)
  refine dTu [] ?_
  refine dNi ?_
  refine aU5 ?_
  exact rT rfl rfl (fun w' h'=>⟨(some ⟨b4,0,none⟩,c5),rfl,trivial,(HS.to_own (n:=n + m) (xs:=xs.take (i * 2) ++ news ++ xs.drop (i * 2)) (ds:=[]) aPk h' (by have hq:=QiC (xs:=xs) (news:=news) (z:=Xw [.string (bs []),.string (bs [])] ((n + m - i) * 2)) (p:=i * 2) (q:=m * 2) (N:=n * 2) hxl (by omega) hl (by rw [Qx];omega);rw [List.append_nil];rw [show (i + m) * 2 = i * 2 + m * 2 from by omega,show (n - i) * 2 = n * 2 - i * 2 from by omega];exact hq) (by simp only [List.length_append,List.length_take,List.length_drop];omega) (by omega) (by omega)).ent aEt⟩)
 refine aT7 ?_
 refine o_p (Qs _ _ 0 (n + m) rfl rfl Q7 rfl ⟨_,_,rfl,(by omega)⟩ (by omega) (by omega)) rfl ?_
 refine Qk (show _ = Value.slice (some ⟨gg,0,none⟩) (n + m) cap from by rw [Y9] <;> (congr 1 <;> omega)) ?_
 refine o_ex (fun w h=>HS.blk_full (b:=gg) aPk h) fun ds=>?_
 refine QkC (fun w h=>h.1) fun hds=>?_
 refine Ye (fun w h=>h.2) ?_
 refine Qml ?_
 refine o_p (Qs _ _ (i + m) (n + m) rfl rfl Q7 ⟨_,_,rfl,(by omega)⟩ rfl (by omega) (by omega)) rfl ?_
 refine Qk (show _ = Value.slice (some ⟨gg,(i + m) * 2,none⟩) (n - i) (cap - (i + m)) from by rw [XB (by omega)] <;> (congr 1 <;> omega)) ?_
 refine o_q (QfR rfl Quz rfl rfl Q7 (hp:=aPk) (hp':=aPk) (by decide) (by omega) (by omega)) rfl ?_
 refine aU2 ?_
 refine sCd rfl (fun h8=>?_) fun h8=>?_
 ·refine aU ?_
  refine Qj (L':=[(0,_),(1,_),(2,_),(6,_),(7,_),(8,_)]) aSx (fun _ h=>h) ?_
  refine QL [8] QZ ?_
  refine dP 0 ?_
  refine dP 1 ?_
  refine dP 2 ?_
  refine dP 3 ?_
  try refine dWr ?_
  refine dV 4 rfl (Qs _ _ (i + m) (n + m) rfl rfl Q7 ⟨_,_,rfl,(by omega)⟩ rfl (by omega) (by omega)) ?_
  refine QT (show _ = Value.slice (some ⟨gg,(i + m) * 2,none⟩) (n - i) (cap - (i + m)) from by rw [XB (by omega)] <;> (congr 1 <;> omega)) ?_
  refine dP 5 ?_
  refine dP 6 ?_
  refine dV 7 rfl (Qs _ _ i (n + m) rfl rfl Q7 ⟨_,_,rfl,rfl⟩ rfl (by omega) (by omega)) ?_
  refine QT (show _ = Value.slice (some ⟨gg,i * 2,none⟩) (n + m - i) (cap - i) from by rw [XB (by omega)] <;> (congr 1 <;> omega)) ?_
  refine dH 8 rfl (QaT (n - i) (cut (xs ++ ds) (i * 2) ((n - i) * 2)) rfl rfl rfl Q7 aPt (by omega) (Xp _ _ _ (by simp only [Qx,List.length_append,Qg];omega)) (fun _=>rfl) (by rw [Xp _ _ _ (by simp only [Qx,List.length_append,Qg];omega)];simp only [Qx,List.length_append,Qg];omega) (ZE (i * 2) ((n - i) * 2) (fun _=>rfl) aPk) (Qlc hx1 (by omega))) (fun _ _=>?_)
  refine dTu [] ?_
  refine dNi ?_
  refine aU4 ?_
  refine o_p (Qs _ _ i (n + m) rfl rfl Q7 ⟨_,_,rfl,rfl⟩ rfl (by omega) (by omega)) rfl ?_
  refine Qk (show _ = Value.slice (some ⟨gg,i * 2,none⟩) (n + m - i) (cap - i) from by rw [XB (by omega)] <;> (congr 1 <;> omega)) ?_
  refine aU ?_
  refine o_h (QaT m news rfl rfl rfl Q7 aPt (by omega) hl (fun _=>rfl) (by simp only [Qx,List.length_append,Qg];omega) (Xe aPk) hn1) rfl (fun _ _=>?_)
  refine aU6 ?_
  exact rT rfl rfl (fun w' h'=>⟨(some ⟨gg,0,none⟩,cap),rfl,trivial,(HS.to_own (n:=n + m) (xs:=xs.take (i * 2) ++ news ++ xs.drop (i * 2)) (ds:=ds.drop (m * 2)) aPk h' (by have hq:=Qny (xs:=xs) (ds:=ds) (news:=news) (p:=i * 2) (q:=m * 2) (N:=n * 2) hxl (by omega) hl (by omega);rw [show (i + m) * 2 = i * 2 + m * 2 from by omega,show (n - i) * 2 = n * 2 - i * 2 from by omega];exact hq) (by simp only [List.length_append,List.length_take,List.length_drop];omega) (by omega) (by omega)).ent aEt⟩)
 exfalso;first | omega | (simp at h8;done) | (simp_all;done)
theorem c165 (w : World) (a : Option Addr) (i n m cap : Nat) (xs news : List Value) (b0 c0 tot2 : Nat) (hw : HS w (fps [.own (.slice a n cap) 27 2 n xs,.blk b0 27 tot2 news]) [.own (.slice a n cap) 27 2 n xs,.blk b0 27 tot2 news] w) (hm0 : 0 < m) (hl : news.length = m * 2) (hn1 : ∀ u ∈ news,u.oneCell' = true) (hx1 : ∀ u ∈ xs,u.oneCell' = true) (hmax : (n + m) * 32 ≤ 140737488355328) (hi : i ≤ n) : Calls Tryz.prog 165 #[.slice a n cap,.int .i64 i,.slice (some ⟨b0,0,none⟩) m c0] w fun en w'=>∃ g : Option Addr × Nat,en = .returned (.slice g.1 (n + m) g.2) ∧ True ∧ HS w (fps [.own (.slice a n cap) 27 2 n xs,.blk b0 27 tot2 news]) [.own (.slice g.1 (n + m) g.2) 27 2 (n + m) (xs.take (i * 2) ++ news ++ xs.drop (i * 2)),.blk b0 27 tot2 news] w':=by
  rcases Nat.lt_or_ge i n with h | h
  · obtain ⟨gg,rfl,_,hnc,hcm,hxl,hb⟩:=hw.own_blk (by omega) .here;exact Qu4 w gg i n m cap xs news b0 c0 tot2 _ hb hnc hcm hxl hm0 hl hn1 hx1 hmax h
  · exact Qvb w a i n m cap xs news b0 c0 tot2 hw hm0 hl hn1 hx1 hmax (by omega)
theorem QuV (w : World) (a : Option Addr) (i n m cap : Nat) (xs news : List Value) (b0 c0 tot2 : Nat) (hw : HS w (fps [.own (.slice a n cap) 3 1 n xs,.blk b0 3 tot2 news]) [.own (.slice a n cap) 3 1 n xs,.blk b0 3 tot2 news] w) (hm0 : 0 < m) (hl : news.length = m * 1) (hn1 : ∀ u ∈ news,u.oneCell' = true) (hx1 : ∀ u ∈ xs,u.oneCell' = true) (hmax : (n + m) * 8 ≤ 140737488355328) (hi : i = n) : Calls Tryz.prog 249 #[.slice a n cap,.int .i64 i,.slice (some ⟨b0,0,none⟩) m c0] w fun en w'=>∃ g : Option Addr × Nat,en = .returned (.slice g.1 (n + m) g.2) ∧ True ∧ HS w (fps [.own (.slice a n cap) 3 1 n xs,.blk b0 3 tot2 news]) [.own (.slice g.1 (n + m) g.2) 3 1 (n + m) (xs.take (i * 1) ++ news ++ xs.drop (i * 1)),.blk b0 3 tot2 news] w':=by
 obtain ⟨_,hnc,hcm,hxl⟩:=hw.own_facts .here
 refine eW3 Tryz.func249 Tryz.ntmps249 hw ?_
 refine aU8 ?_
 refine o_p (Qs _ _ i n rfl rfl QN ⟨_,_,rfl,rfl⟩ rfl (by omega) (by omega)) rfl ?_
 refine Qgd ?_
 refine sCd rfl (fun h1=>?_) fun h1=>?_
 ·exfalso;first | omega | (simp at h1;done) | (simp_all;done)
 refine Qh8 ?_
 refine sCd rfl (fun h2=>?_) fun h2=>?_
 ·refine aU4 ?_
  refine o_h (Xx news rfl rfl rfl QN Tryz.underlying28 Qbp rfl aPk (Xe aPk) hl hn1 (by omega) (by simp only [maxLen];omega)) rfl (fun b3 _=>?_)
  refine aU2 ?_
  exact rT rfl rfl (fun w' h'=>⟨(_,_),rfl,trivial,by subst hi;rw [List.take_of_length_le (by omega),List.drop_eq_nil_of_le (by omega),List.append_nil];exact h'.ent aEt⟩)
 exfalso;first | omega | (simp at h2;done) | (simp_all;done)
theorem QuU (w : World) (gg i n m cap : Nat) (xs news : List Value) (b0 c0 tot2 : Nat) (M : List Nat) (hw : HS w M [.blk gg 3 (cap * 1) xs,.blk b0 3 tot2 news] w) (hnc : n ≤ cap) (hcm : cap ≤ maxLen) (hxl : xs.length = n * 1) (hm0 : 0 < m) (hl : news.length = m * 1) (hn1 : ∀ u ∈ news,u.oneCell' = true) (hx1 : ∀ u ∈ xs,u.oneCell' = true) (hmax : (n + m) * 8 ≤ 140737488355328) (hi : i < n) : Calls Tryz.prog 249 #[.slice (some ⟨gg,0,none⟩) n cap,.int .i64 i,.slice (some ⟨b0,0,none⟩) m c0] w fun en w'=>∃ g : Option Addr × Nat,en = .returned (.slice g.1 (n + m) g.2) ∧ True ∧ HS w M [.own (.slice g.1 (n + m) g.2) 3 1 (n + m) (xs.take (i * 1) ++ news ++ xs.drop (i * 1)),.blk b0 3 tot2 news] w':=by
 have ht2:=(hw.blk_get (.there .here)).len_le
 have hcl : (cut xs 0 (i * 1)).length = i * 1:=Xp _ _ _ (by omega)
 refine eW3 Tryz.func249 Tryz.ntmps249 hw ?_
 refine aU8 ?_
 refine o_p (Qs _ _ i n rfl rfl QN ⟨_,_,rfl,rfl⟩ rfl (by omega) (by omega)) rfl ?_
 refine Qgd ?_
 refine sCd rfl (fun h1=>?_) fun h1=>?_
 ·exfalso;first | omega | (simp at h1;done) | (simp_all;done)
 refine Qh8 ?_
 refine sCd rfl (fun h2=>?_) fun h2=>?_
 ·exfalso;first | omega | (simp at h2;done) | (simp_all;done)
 refine aT7 ?_
 refine aU ?_
 refine o_p (QoC rfl rfl Tryz.underlying28) rfl ?_
 refine aU2 ?_
 refine sCd rfl (fun h3=>?_) fun h3=>?_
 ·refine aU4 ?_
  refine o_p (Qs _ _ 0 i rfl rfl QN rfl ⟨_,_,rfl,rfl⟩ (by omega) (by omega)) rfl ?_
  refine Qk (show _ = Value.slice (some ⟨gg,0,none⟩) (i) (cap) from by rw [Y9] <;> (congr 1 <;> omega)) ?_
  refine aT3 ?_
  refine aT2 ?_
  refine Qk (show _ = Value.int .i64 ((n + m - i : Nat) : Int) from by first | rfl | (congr 1 <;> first | rfl | omega)) ?_
  refine o_h (ZV (m:=n + m - i) (olds:=cut xs 0 (i * 1)) rfl rfl rfl QN YY Qbp rfl (by decide) (by omega) (by omega) (ZE 0 (i * 1) (fun _=>rfl) aPk) hcl (by omega) (by simp only [maxLen];omega)) rfl (fun ⟨b4,c5⟩ ⟨h6,k7⟩=>?_)
  refine Qk (show _ = Value.slice (some ⟨b4,0,none⟩) (n + m) c5 from by first | rfl | (congr 1 <;> first | rfl | omega)) ?_
  refine aU3 ?_
  refine Qj (L':=[(0,_),(1,_),(2,_),(6,_),(7,_),(8,_),(9,_)]) aSx (fun _ h=>h) ?_
  refine aU3 ?_
  refine o_p (Qs _ _ i (n + m) rfl rfl QN ⟨_,_,rfl,rfl⟩ rfl (by omega) (by omega)) rfl ?_
  refine Qk (show _ = Value.slice (some ⟨b4,i * 1,none⟩) (n + m - i) (c5 - i) from by rw [XB (by omega)] <;> (congr 1 <;> omega)) ?_
  refine aU ?_
  refine o_h (QaT m news rfl rfl rfl QN aPt (by omega) hl (fun _=>rfl) (by simp only [Qx,List.length_append,Qg];omega) (Xe aPk) hn1) rfl (fun _ _=>?_)
  refine aU2 ?_
  refine QL [8] QZ ?_
  refine dP 0 ?_
  refine dP 1 ?_
  refine dP 2 ?_
  refine dP 3 ?_
  try refine dWr ?_
  refine dV 4 rfl (Qs _ _ (i + m) (n + m) rfl rfl QN ⟨_,_,rfl,(by omega)⟩ rfl (by omega) (by omega)) ?_
  refine QT (show _ = Value.slice (some ⟨b4,(i + m) * 1,none⟩) (n - i) (c5 - (i + m)) from by rw [XB (by omega)] <;> (congr 1 <;> omega)) ?_
  refine dP 5 ?_
  refine dP 6 ?_
  refine dV 7 rfl (Qs _ _ i n rfl rfl QN ⟨_,_,rfl,rfl⟩ rfl (by omega) (by omega)) ?_
  refine QT (show _ = Value.slice (some ⟨gg,i * 1,none⟩) (n - i) (cap - i) from by rw [XB (by omega)] <;> (congr 1 <;> omega)) ?_
  refine dH 8 rfl (QaT (n - i) (cut xs (i * 1) ((n - i) * 1)) rfl rfl rfl QN aPt (by omega) (Xp _ _ _ (by omega)) (fun _=>rfl) (by rw [Xp _ _ _ (by omega)];simp only [Qx,List.length_append,Qg];omega) (ZE (i * 1) ((n - i) * 1) (fun _=>rfl) aPk) (Qhk hx1 _ _)) (fun _ _=>?_)
  refine dTu [] ?_
  refine dNi ?_
  refine aU5 ?_
  exact rT rfl rfl (fun w' h'=>⟨(some ⟨b4,0,none⟩,c5),rfl,trivial,(HS.to_own (n:=n + m) (xs:=xs.take (i * 1) ++ news ++ xs.drop (i * 1)) (ds:=[]) aPk h' (by have hq:=QiC (xs:=xs) (news:=news) (z:=Xw [.int .i64 0] ((n + m - i) * 1)) (p:=i * 1) (q:=m * 1) (N:=n * 1) hxl (by omega) hl (by rw [Qx];omega);rw [List.append_nil];rw [show (i + m) * 1 = i * 1 + m * 1 from by omega,show (n - i) * 1 = n * 1 - i * 1 from by omega];exact hq) (by simp only [List.length_append,List.length_take,List.length_drop];omega) (by omega) (by omega)).ent aEt⟩)
 refine aT7 ?_
 refine o_p (Qs _ _ 0 (n + m) rfl rfl QN rfl ⟨_,_,rfl,(by omega)⟩ (by omega) (by omega)) rfl ?_
 refine Qk (show _ = Value.slice (some ⟨gg,0,none⟩) (n + m) cap from by rw [Y9] <;> (congr 1 <;> omega)) ?_
 refine o_ex (fun w h=>HS.blk_full (b:=gg) aPk h) fun ds=>?_
 refine QkC (fun w h=>h.1) fun hds=>?_
 refine Ye (fun w h=>h.2) ?_
 refine Qml ?_
 refine o_p (Qs _ _ (i + m) (n + m) rfl rfl QN ⟨_,_,rfl,(by omega)⟩ rfl (by omega) (by omega)) rfl ?_
 refine Qk (show _ = Value.slice (some ⟨gg,(i + m) * 1,none⟩) (n - i) (cap - (i + m)) from by rw [XB (by omega)] <;> (congr 1 <;> omega)) ?_
 refine o_q (QfR rfl QuD rfl rfl QN (hp:=aPk) (hp':=aPk) (by decide) (by omega) (by omega)) rfl ?_
 refine aU2 ?_
 refine sCd rfl (fun h8=>?_) fun h8=>?_
 ·refine aU ?_
  refine Qj (L':=[(0,_),(1,_),(2,_),(6,_),(7,_),(8,_)]) aSx (fun _ h=>h) ?_
  refine QL [8] QZ ?_
  refine dP 0 ?_
  refine dP 1 ?_
  refine dP 2 ?_
  refine dP 3 ?_
  try refine dWr ?_
  refine dV 4 rfl (Qs _ _ (i + m) (n + m) rfl rfl QN ⟨_,_,rfl,(by omega)⟩ rfl (by omega) (by omega)) ?_
  refine QT (show _ = Value.slice (some ⟨gg,(i + m) * 1,none⟩) (n - i) (cap - (i + m)) from by rw [XB (by omega)] <;> (congr 1 <;> omega)) ?_
  refine dP 5 ?_
  refine dP 6 ?_
  refine dV 7 rfl (Qs _ _ i (n + m) rfl rfl QN ⟨_,_,rfl,rfl⟩ rfl (by omega) (by omega)) ?_
  refine QT (show _ = Value.slice (some ⟨gg,i * 1,none⟩) (n + m - i) (cap - i) from by rw [XB (by omega)] <;> (congr 1 <;> omega)) ?_
  refine dH 8 rfl (QaT (n - i) (cut (xs ++ ds) (i * 1) ((n - i) * 1)) rfl rfl rfl QN aPt (by omega) (Xp _ _ _ (by simp only [Qx,List.length_append,Qg];omega)) (fun _=>rfl) (by rw [Xp _ _ _ (by simp only [Qx,List.length_append,Qg];omega)];simp only [Qx,List.length_append,Qg];omega) (ZE (i * 1) ((n - i) * 1) (fun _=>rfl) aPk) (Qlc hx1 (by omega))) (fun _ _=>?_)
  refine dTu [] ?_
  refine dNi ?_
  refine aU4 ?_
  refine o_p (Qs _ _ i (n + m) rfl rfl QN ⟨_,_,rfl,rfl⟩ rfl (by omega) (by omega)) rfl ?_
  refine Qk (show _ = Value.slice (some ⟨gg,i * 1,none⟩) (n + m - i) (cap - i) from by rw [XB (by omega)] <;> (congr 1 <;> omega)) ?_
  refine aU ?_
  refine o_h (QaT m news rfl rfl rfl QN aPt (by omega) hl (fun _=>rfl) (by simp only [Qx,List.length_append,Qg];omega) (Xe aPk) hn1) rfl (fun _ _=>?_)
  refine aU6 ?_
  exact rT rfl rfl (fun w' h'=>⟨(some ⟨gg,0,none⟩,cap),rfl,trivial,(HS.to_own (n:=n + m) (xs:=xs.take (i * 1) ++ news ++ xs.drop (i * 1)) (ds:=ds.drop (m * 1)) aPk h' (by have hq:=Qny (xs:=xs) (ds:=ds) (news:=news) (p:=i * 1) (q:=m * 1) (N:=n * 1) hxl (by omega) hl (by omega);rw [show (i + m) * 1 = i * 1 + m * 1 from by omega,show (n - i) * 1 = n * 1 - i * 1 from by omega];exact hq) (by simp only [List.length_append,List.length_take,List.length_drop];omega) (by omega) (by omega)).ent aEt⟩)
 exfalso;first | omega | (simp at h8;done) | (simp_all;done)
theorem c249 (w : World) (a : Option Addr) (i n m cap : Nat) (xs news : List Value) (b0 c0 tot2 : Nat) (hw : HS w (fps [.own (.slice a n cap) 3 1 n xs,.blk b0 3 tot2 news]) [.own (.slice a n cap) 3 1 n xs,.blk b0 3 tot2 news] w) (hm0 : 0 < m) (hl : news.length = m * 1) (hn1 : ∀ u ∈ news,u.oneCell' = true) (hx1 : ∀ u ∈ xs,u.oneCell' = true) (hmax : (n + m) * 8 ≤ 140737488355328) (hi : i ≤ n) : Calls Tryz.prog 249 #[.slice a n cap,.int .i64 i,.slice (some ⟨b0,0,none⟩) m c0] w fun en w'=>∃ g : Option Addr × Nat,en = .returned (.slice g.1 (n + m) g.2) ∧ True ∧ HS w (fps [.own (.slice a n cap) 3 1 n xs,.blk b0 3 tot2 news]) [.own (.slice g.1 (n + m) g.2) 3 1 (n + m) (xs.take (i * 1) ++ news ++ xs.drop (i * 1)),.blk b0 3 tot2 news] w':=by
  rcases Nat.lt_or_ge i n with h | h
  · obtain ⟨gg,rfl,_,hnc,hcm,hxl,hb⟩:=hw.own_blk (by omega) .here;exact QuU w gg i n m cap xs news b0 c0 tot2 _ hb hnc hcm hxl hm0 hl hn1 hx1 hmax h
  · exact QuV w a i n m cap xs news b0 c0 tot2 hw hm0 hl hn1 hx1 hmax (by omega)
end Go.Proofs
namespace Gx
open Go Go.RowKit
def Qeu (cap : Nat) (l : List UInt8) : List Value:=l.map bv ++ List.replicate (cap - l.length) (bv 0)
def Qvs (a : Option Addr) (cap : Nat) (l : List UInt8) (w : World) : Prop:=
 (a = none ∧ cap = 0 ∧ l = []) ∨ ∃ g,a = some ⟨g,0,none⟩ ∧ l.length ≤ cap ∧ cap ≤ maxLen ∧ QQ g u8T cap (Qeu cap l) w
theorem Qi2 {cap : Nat} {l : List UInt8} (h : l.length ≤ cap) : (Qeu cap l).length = cap:=by grind [Qeu]
def HA.byz (a : Option Addr) (cap : Nat) (l : List UInt8) : HA:=⟨(Value.slice a l.length cap).ownBlock.toList,Qvs a cap l,fun w w' h ha=>by
  obtain ⟨h1,h2,h3⟩ | ⟨g,rfl,h2,h3,hb⟩:=ha
  ·exact .inl ⟨h1,h2,h3⟩
  ·exact .inr ⟨g,rfl,h2,h3,QQ.loc (h g (by simp [Value.ownBlock])) hb⟩⟩
theorem HA.fp_byz (a : Option Addr) (cap : Nat) (l : List UInt8) : (HA.byz a cap l).fp = (Value.slice a l.length cap).ownBlock.toList:=rfl
def QbC (a : Option Addr) (cap : Nat) (g : Option Addr × Nat) (n : Nat) : Prop:=n ≤ cap → g.1 = a ∧ g.2 = cap
theorem QbC.trans {a : Option Addr} {cap : Nat} {g g' : Option Addr × Nat} {n m : Nat} (h : QbC a cap g n) (h' : QbC g.1 g.2 g' m) (hle : n ≤ m) : QbC a cap g' m:=fun hm=>by
 obtain ⟨e1,e2⟩:=h (Nat.le_trans hle hm);obtain ⟨e3,e4⟩:=h' (by rw [e2];exact hm)
 grind
section
variable {w0 w : World} {M : List Nat} {As As' : List HA}
theorem HS.byz_nil (h : HS w0 M As w) : HS w0 M (.byz none 0 [] :: As) w:=
 ⟨h.os,h.tape,h.output,h.size,h.old,fun A hA=>by
  rcases List.mem_cons.1 hA with rfl | hA
  ·exact .inl ⟨rfl,rfl,rfl⟩
  ·exact h.ok A hA,fun A hA b hb=>by
  rcases List.mem_cons.1 hA with rfl | hA
  ·simp [HA.fp_byz,Value.ownBlock] at hb
  ·exact h.lt A hA b hb,.cons (fun B _ b hb=>by simp [HA.fp_byz,Value.ownBlock] at hb) h.sep⟩
theorem HS.byz_blk {g cap : Nat} {l : List UInt8} {cs : List Value} (hp : QD As (.blk g u8T cap cs) As') (h : HS w0 M As w) (hl : l.length ≤ cap) (hc : cap ≤ maxLen) (hcs : cs = Qeu cap l) : HS w0 M (.byz (some ⟨g,0,none⟩) cap l :: As') w:=by
 subst hcs;exact (h.pick hp).turn (fun b hb=>by simpa [HA.fp_byz,HA.fp_blk,Value.ownBlock] using hb) fun hb=>.inr ⟨g,rfl,hl,hc,hb⟩
theorem HS.blk_byz {a : Option Addr} {cap : Nat} {l : List UInt8} (hp : QD As (.byz a cap l) As') (h : HS w0 M As w) (h0 : 0 < cap) : ∃ g,a = some ⟨g,0,none⟩ ∧ l.length ≤ cap ∧ cap ≤ maxLen ∧ HS w0 M (.blk g u8T cap (Qeu cap l) :: As') w:=by
 have h1:=h.pick hp;rcases h1.head with ⟨_,h2,_⟩ | ⟨g,rfl,h2,h3,hb⟩
 ·omega
 ·exact ⟨g,rfl,h2,h3,h1.turn (fun b hb=>by simpa [HA.fp_byz,HA.fp_blk,Value.ownBlock] using hb) fun _=>hb⟩
theorem HS.byz_own {a : Option Addr} {cap : Nat} {l : List UInt8} (hp : QD As (.byz a cap l) As') (h : HS w0 M As w) : HS w0 M (.own (.slice a l.length cap) u8T 1 l.length (l.map bv) :: As') w:=by
 have h1:=h.pick hp;refine h1.turn (fun b hb=>hb) fun ho=>⟨by simp,?_⟩;rcases ho with ⟨rfl,rfl,rfl⟩ | ⟨g,rfl,h2,h3,hb⟩
 ·grind
 ·refine .inr ⟨g,cap,rfl,h2,h3,?_⟩;rw [Nat.mul_one];exact hb.less
theorem HS.vl_byz {a : Option Addr} {cap : Nat} {l : List UInt8} (h : HS w0 M As w) (hp : QD As (.byz a cap l) As') : Vl w a (l.map bv):=(h.byz_own hp).vl_own .here
end
theorem Qei (A : List Value) : ∀ (vs B : List Value),vs.length ≤ B.length → Qd (A ++ B) A.length vs = A ++ (vs ++ B.drop vs.length)
 | [],B,_=>by simp [Qd]
 | v :: vs,[],h=>by simp at h
 | v :: vs,b :: B,h=>by
  rw [Qd,List.set_append_right _ _ (Nat.le_refl _),Nat.sub_self,List.set_cons_zero,show A ++ v :: B = (A ++ [v]) ++ B by simp,show A.length + 1 = (A ++ [v]).length by simp,Qei (A ++ [v]) vs B (by simpa using h)];simp
theorem QrD {cap : Nat} {l m : List UInt8} (h : (l ++ m).length ≤ cap) : Qd (Qeu cap l) l.length (m.map bv) = Qeu cap (l ++ m):=by
 rw [List.length_append] at h;unfold Qeu;have e:=Qei (l.map bv) (m.map bv) (List.replicate (cap - l.length) (bv 0)) (by simp;omega)
 grind
theorem Qiw (n : Nat) : Builtin.zeroCells #[Value.int .u8 0] n = (List.replicate n (bv 0)).toArray:=by grind [ZT,bv,Qc5]
theorem QlU (l : List UInt8) : ∀ u ∈ l.map bv,u.oneCell' = true:=fun u hu=>by
 obtain ⟨b,_,rfl⟩:=List.mem_map.1 hu;rfl
theorem QfG {P : Program} {t xt ty by' : Nat} {a : Option Addr} {cap : Nat} {x : Value} {l m : List UInt8} {w w0 : World} {M : List Nat} {As As' : List HA} (ht : tsl P t = some (u8T,1,by')) (hxt : P.underlying xt = some .string ∨ ∃ e',P.underlying xt = some (.slice e')) (hz : QM P u8T = some [.int .u8 0])
  (hw : HS w0 M As w) (hp : QD As (.byz a cap l) As') (hlen : (Builtin.lenOf x).run P w = .ok m.length w) (hfc : (Builtin.firstCells 1 m.length x).run P w = .ok (m.map bv).toArray w) (hfc' : (Builtin.firstCells 1 m.length x).run P w.drew = .ok (m.map bv).toArray w.drew)
  (hroom : (l.length + m.length) * by' ≤ 140737488355328) (hmax : l.length + m.length ≤ maxLen) :
  ∃ a' cap' w',(Builtin.append_ #[t,xt] ty #[.slice a l.length cap,x]).run P w = .ok (.slice a' (l ++ m).length cap') w' ∧ QbC a cap (a',cap') (l ++ m).length ∧ HS w0 M (.byz a' cap' (l ++ m) :: As') w':=by
 obtain ⟨hu,inf,hi,hs1,hs2⟩:=QV ht;obtain ⟨inf',zv,h4,h5,h6⟩:=Yk hz;rw [hi] at h4;injection h4 with h4
 subst h4;subst hs2;have hzv : zv.cells = #[Value.int .u8 0]:=Array.ext' (by rw [h6]);have hpk:=hw.pick hp;have hlm : (l ++ m).length = l.length + m.length:=List.length_append;have hmx : ((l.length + m.length : Nat) : Int) ≤ 9223372036854775807:=by simp only [maxLen] at hmax;omega
 rw [← hs1] at hfc hfc'
 have grow : cap < l.length + m.length → (Builtin.firstCells inf.size l.length (.slice a l.length cap)).run P w.drew = .ok (l.map bv).toArray w.drew →
   ∃ a' cap' w',(Builtin.append_ #[t,xt] ty #[.slice a l.length cap,x]).run P w = .ok (.slice a' (l ++ m).length cap') w' ∧ QbC a cap (a',cap') (l ++ m).length ∧ HS w0 M (.byz a' cap' (l ++ m) :: As') w':=by
  intro hcap hold;have hfit:=growslice_fits hcap hroom;have hge:=grownCap_ge w (l.length + m.length) cap u8T;have hle:=grownCap_le_maxLen w (l.length + m.length) cap u8T hmax;refine ⟨some ⟨w.heap.size,0,none⟩,grownCap w (l.length + m.length) cap u8T,w.drew.alloc (.cells ((l.map bv).toArray ++ (m.map bv).toArray ++ Builtin.zeroCells zv.cells (grownCap w (l.length + m.length) cap u8T - (l.length + m.length))) u8T),?_,fun h=>by omega,?_⟩
  ·rw [hlm];exact Qif hu hxt hi h5 hlen hfc' hold hcap hmx hfit
  ·generalize grownCap w (l.length + m.length) cap u8T = N at *;refine ((hw.drew.pick hp).tail).alloc _ _ rfl (.inr ⟨_,rfl,by omega,hle,_,_,heap_alloc_new _ _,?_,?_,fun i hi=>?_,Nat.le_refl _,fun _ _ h=>absurd h (Nat.not_lt_zero _)⟩)
   ·rw [hzv,Qiw];simp only [Array.size_append,List.size_toArray,List.length_map,List.length_replicate];omega
   ·rw [Qi2 (by omega)];exact Nat.le_refl _
   ·rw [hzv,Qiw]
    have : Qeu N (l ++ m) = l.map bv ++ m.map bv ++ List.replicate (N - (l.length + m.length)) (bv 0):=by
     unfold Qeu;rw [List.map_append,hlm]
    rw [this,← Array.getElem?_toList];simp only [Array.toList_append,List.append_assoc]
 rcases hpk.head with ⟨rfl,rfl,rfl⟩ | ⟨g,rfl,h2,h3,hb⟩
 ·rcases Nat.eq_zero_or_pos m.length with hm | hm
  ·have hm0 : m = []:=List.eq_nil_of_length_eq_zero hm;subst hm0;exact ⟨none,0,w,QfY hu hxt hi hlen (by simpa using hfc),fun _=>⟨rfl,rfl⟩,hpk⟩
  ·exact grow (by simp only [List.length_nil];omega) (by simp [Builtin.firstCells])
 ·by_cases hr : l.length + m.length ≤ cap
  ·obtain ⟨w',hst,hb',r1,r2,r3,r4,r5⟩:=Xs (P:=P) (b:=g) (i:=l.length) (m.map bv) 0 (Qeu cap l) w hb (by rw [Qi2 h2,List.length_map];omega) (QlU m);refine ⟨some ⟨g,0,none⟩,cap,w',?_,fun _=>⟨rfl,rfl⟩,HS.swap hpk (B:=.byz (some ⟨g,0,none⟩) cap (l ++ m)) (fun _ h=>h) r1 r2 r3 r4 (fun k hk=>r5 k (by simpa [HA.fp_byz,Value.ownBlock] using hk)) (.inr ⟨g,rfl,by omega,h3,?_⟩)⟩
   ·rw [hlm];exact QfU hu hxt hi hlen hfc (by rw [hs1,Nat.mul_one,Xo,Nat.zero_add];exact hst) hr
   ·rw [Nat.add_zero,QrD (by omega)] at hb';exact hb'
  ·refine grow (by omega) ?_;rw [hs1]
   exact XE (w:=w.drew) (by simp) fun _=>⟨g,0,rfl,fun j u hu=>by
    have hc:=hb.less.cell hu
    simpa using hc⟩
section
variable {P : Program} {o : Oper} {L : Qb} {w0 : World} {M : List Nat} {As As' : List HA}
theorem Qaw {t xt e' by' c cap : Nat} {a b : Option Addr} {s x : Operand} {l : List UInt8} (m : List UInt8) (ho : o.op = .call { callee:=.builtin .append,args:=#[s,x],argTypes:=#[t,xt] }) (hs : ev L s = some (.slice a l.length cap)) (hx : ev L x = some (.slice b m.length c)) (ht : tsl P t = some (u8T,1,by')) (hxt : P.underlying xt = some (.slice e')) (hz : QM P u8T = some [.int .u8 0])
  (hp : QD As (.byz a cap l) As') (hsrc : ∀ w,HS w0 M As w → Src b (m.map bv) w) (hroom : (l.length + m.length) * by' ≤ 140737488355328) (hmax : l.length + m.length ≤ maxLen) :
  OpH P o L (HS w0 M As) (fun g : Option Addr × Nat=>.slice g.1 (l ++ m).length g.2) (fun g=>QbC a cap g (l ++ m).length) (fun g=>HS w0 M (.byz g.1 g.2 (l ++ m) :: As')):=by
 intro ρ w hρ hw;obtain ⟨a',cap',w',hr,hk,hw'⟩:=QfG (P:=P) (ty:=o.type) ht (.inr ⟨e',hxt⟩) hz hw hp (x:=.slice b m.length c) rfl (XE (by simp) (hsrc w hw)) (XE (w:=w.drew) (by simp) (hsrc w hw)) hroom hmax;simp only [execOp,ho,resolve,Sem.run_bind,Sem.run_pure,Result.andThen_ok,invoke,builtin,List.map_toArray,List.map_cons,List.map_nil,hρ _ _ hs,hρ _ _ hx,hr];exact ⟨(a',cap'),rfl,hk,hw'⟩
theorem Qcb {t xt by' cap : Nat} {a : Option Addr} {s x : Operand} {l m : List UInt8} (ho : o.op = .call { callee:=.builtin .append,args:=#[s,x],argTypes:=#[t,xt] }) (hs : ev L s = some (.slice a l.length cap)) (hx : ev L x = some (.string (bs m))) (ht : tsl P t = some (u8T,1,by')) (hxt : P.underlying xt = some .string) (hz : QM P u8T = some [.int .u8 0])
  (hp : QD As (.byz a cap l) As') (hroom : (l.length + m.length) * by' ≤ 140737488355328) (hmax : l.length + m.length ≤ maxLen) :
  OpH P o L (HS w0 M As) (fun g : Option Addr × Nat=>.slice g.1 (l ++ m).length g.2) (fun g=>QbC a cap g (l ++ m).length) (fun g=>HS w0 M (.byz g.1 g.2 (l ++ m) :: As')):=by
 intro ρ w hρ hw
 have hfc : ∀ w,(Builtin.firstCells 1 m.length (.string (bs m))).run P w = .ok (m.map bv).toArray w:=fun w=>by
  have hx : (bs m).extract 0 m.length = bs m:=(QgJ _).trans (congrArg bs (by rw [Lib.extract_data];simp));simp only [Builtin.firstCells,hx,Sem.run_pure];congr 1;simp [bs,bv]
 obtain ⟨a',cap',w',hr,hk,hw'⟩:=QfG (P:=P) (ty:=o.type) ht (.inl hxt) hz hw hp (x:=.string (bs m)) rfl (hfc _) (hfc _) hroom hmax;simp only [execOp,ho,resolve,Sem.run_bind,Sem.run_pure,Result.andThen_ok,invoke,builtin,List.map_toArray,List.map_cons,List.map_nil,hρ _ _ hs,hρ _ _ hx,hr];exact ⟨(a',cap'),rfl,hk,hw'⟩
end
end Gx
namespace Gx
open Go Go.RowKit
def ub1 (s : List UInt8) (i : Nat) : Nat:=(s.getD i 0).toNat
def ub2 (s : List UInt8) (i : Nat) : Nat:=ub1 s i + ub1 s (i + 1) * 256
def ub4 (s : List UInt8) (i : Nat) : Nat:=ub2 s i + ub2 s (i + 2) * 65536
theorem QkM (s : List UInt8) (i : Nat) : at1 s i = (ub1 s i : Int):=rfl
theorem Qch (s : List UInt8) (i : Nat) : at2 s i = (ub2 s i : Int):=by simp only [at2,ub2,QkM];omega
theorem Qf6 (s : List UInt8) (i : Nat) : at4 s i = (ub4 s i : Int):=by simp only [at4,ub4,Qch];omega
theorem XV (s : List UInt8) (i : Nat) : ub1 s i < 256:=UInt8.toNat_lt _
theorem Qc2 (s : List UInt8) (i : Nat) : ub2 s i < 65536:=by have:=XV s i;have:=XV s (i + 1);unfold ub2;omega
theorem Qk8 (s : List UInt8) (i : Nat) : ub4 s i < 4294967296:=by have:=Qc2 s i;have:=Qc2 s (i + 2);unfold ub4;omega
theorem Qk2 (s : List UInt8) (k i : Nat) : ub1 (s.drop k) i = ub1 s (k + i):=by grind [ub1]
def QS (n : Nat) : Nat:=(n + 7) / 8 * 8
theorem ZC (n : Nat) : n ≤ QS n ∧ QS n < n + 8:=by unfold QS;omega
def Qn (s : List UInt8) (i n : Nat) : List UInt8:=(s.drop i).take n
theorem Xf {s : List UInt8} {i n : Nat} (h : i + n ≤ s.length) : (Qn s i n).length = n:=by simp only [Qn,List.length_take,List.length_drop];omega
theorem QdU (s : List UInt8) (k i n : Nat) : Qn (s.drop k) i n = Qn s (k + i) n:=by simp only [Qn,List.drop_drop]
theorem Zn {s : List UInt8} {i n j : Nat} (h : j < n) : (Qn s i n)[j]? = s[i + j]?:=by simp only [Qn,List.getElem?_take,h,if_true,List.getElem?_drop]
theorem Xn (s : List UInt8) (i n m : Nat) : Qn s i (n + m) = Qn s i n ++ Qn s (i + n) m:=by
 simp only [Qn,List.take_add,List.drop_drop]
def zer (l : List UInt8) : Bool:=l.all fun b=>decide (b = 0)
theorem QaJ (l : List UInt8) : zer l = true ↔ l = List.replicate l.length 0:=by
 simp only [zer,List.all_eq_true,decide_eq_true_eq];constructor
 ·intro h;exact List.eq_replicate_iff.2 ⟨rfl,h⟩
 grind
theorem QlE (n : Nat) : zer (List.replicate n 0) = true:=by rw [QaJ];simp
def TEnt.sz (x : TEnt) : Nat:=8 + x.key.length + x.val.length
def Qcu (x : TEnt) (c : Int) : List UInt8:=le2 (QS x.sz : Nat) ++ [by8 x.key.length,by8 x.val.length] ++ le4 c ++ x.key ++ x.val ++ List.replicate (QS x.sz - x.sz) 0
def Qeq (c : Int) : List UInt8:=le2 8 ++ [0,0] ++ le4 c
theorem QoQ (x : TEnt) (c : Int) : (Qcu x c).length = QS x.sz:=by
 have:=ZC x.sz;have h : x.sz = 8 + x.key.length + x.val.length:=rfl
 grind [Qcu,le2,le4]
theorem Qou (c : Int) : (Qeq c).length = 8:=rfl
theorem QkD (s : List UInt8) (i : Nat) : by8 (ub1 s i : Int) = s.getD i 0:=by
 have:=XV s i;unfold by8;rw [show ((ub1 s i : Int) % 256).toNat = (s.getD i 0).toNat by unfold ub1 at *;omega];simp
theorem Quw (s : List UInt8) (i : Nat) : le2 (ub2 s i : Int) = [s.getD i 0,s.getD (i + 1) 0]:=by grind [XV,le2,Qct,ub2,ub1,QkD]
theorem Qt1 (s : List UInt8) (i : Nat) : le4 (ub4 s i : Int) = [s.getD i 0,s.getD (i + 1) 0,s.getD (i + 2) 0,s.getD (i + 3) 0]:=by
 have h1:=XV s i;have h2:=XV s (i + 1);have h3:=XV s (i + 2);have h4:=XV s (i + 3);have e : ub4 s i = ub1 s i + ub1 s (i + 1) * 256 + (ub1 s (i + 2) + ub1 s (i + 3) * 256) * 65536:=rfl;simp only [le4];rw [Qct (m:=(ub4 s i : Int)) (n:=(ub1 s i : Int)) (by omega),Qct (m:=(ub4 s i : Int) / 256) (n:=(ub1 s (i + 1) : Int)) (by omega),Qct (m:=(ub4 s i : Int) / 65536) (n:=(ub1 s (i + 2) : Int)) (by omega),Qct (m:=(ub4 s i : Int) / 16777216) (n:=(ub1 s (i + 3) : Int)) (by omega)];simp only [QkD]
theorem QbW {s : List UInt8} {i n : Nat} (h : i < s.length) : Qn s i (n + 1) = s.getD i 0 :: Qn s (i + 1) n:=by
 simp only [Qn];rw [List.drop_eq_getElem_cons h,List.take_succ_cons,List.getD_eq_getElem?_getD,List.getElem?_eq_getElem h];rfl
theorem Qb2 (s : List UInt8) (i : Nat) : Qn s i 0 = []:=by simp [Qn]
theorem QfN {s : List UInt8} {i : Nat} (h : i + 2 ≤ s.length) : Qn s i 2 = le2 (ub2 s i : Int):=by grind [Quw,QbW,Qb2]
theorem QhY {s : List UInt8} {i : Nat} (h : i + 4 ≤ s.length) : Qn s i 4 = le4 (ub4 s i : Int):=by grind [Qt1,QbW,Qb2]
theorem Qk7 {a b : Int} (h : by8 a = by8 b) : a % 256 = b % 256:=by grind [QbV]
theorem QrR {a b : Int} (h : le2 a = le2 b) : a % 65536 = b % 65536:=by grind [le2,Qk7]
theorem Qrn {a b : Int} (h : le4 a = le4 b) : a % 4294967296 = b % 4294967296:=by grind [le4,Qk7]
def Q3 (s : List UInt8) (p : Nat) : TEnt:=⟨Qn s (p + 8) (ub1 s (p + 2)),Qn s (p + 8 + ub1 s (p + 2)) (ub1 s (p + 3))⟩
def Q8 (s : List UInt8) (p : Nat) : Nat:=8 + ub1 s (p + 2) + ub1 s (p + 3)
def YB (x : TEnt) (c : Nat) : Bool:=decide (1 ≤ x.key.length ∧ x.key.length ≤ 40 ∧ x.val.length ≤ 64 ∧ x.key.length + x.val.length ≤ 88 ∧ c ≤ 120)
def Y1 (s : List UInt8) (p : Nat) : Bool:=decide (p + 8 ≤ s.length ∧ ub2 s p = QS (Q8 s p) ∧ p + ub2 s p ≤ s.length) && (zer (Qn s (p + Q8 s p) (ub2 s p - Q8 s p)) && YB (Q3 s p) (ub4 s (p + 4)))
theorem Qc1 {s : List UInt8} {p : Nat} (h : p + Q8 s p ≤ s.length) : (Q3 s p).sz = Q8 s p ∧ (Q3 s p).key.length = ub1 s (p + 2) ∧ (Q3 s p).val.length = ub1 s (p + 3):=by grind [Q8,Q3,ub1,Xf,TEnt.sz]
theorem Qqw {s : List UInt8} {p : Nat} (h : p + Q8 s p ≤ s.length) : Qn s p (Q8 s p) = le2 (ub2 s p : Int) ++ [by8 (ub1 s (p + 2) : Int),by8 (ub1 s (p + 3) : Int)] ++ le4 (ub4 s (p + 4) : Int) ++ (Q3 s p).key ++ (Q3 s p).val:=by
 have h9 : Q8 s p = 2 + (1 + (1 + (4 + (ub1 s (p + 2) + ub1 s (p + 3))))):=by unfold Q8;omega
 unfold Q8 at h;rw [h9,Xn,QfN (by omega),Xn,show (1 : Nat) = 0 + 1 from rfl,QbW (by omega),Qb2,Xn,show (1 : Nat) = 0 + 1 from rfl,QbW (by omega),Qb2,Xn,QhY (by omega),Xn]
 grind [QkD,Q3]
theorem Qlx {s : List UInt8} {p : Nat} (hn : p + ub2 s p ≤ s.length) (ht : Q8 s p ≤ ub2 s p) : (Qcu (Q3 s p) (ub4 s (p + 4) : Int) = Qn s p (ub2 s p)) ↔ (ub2 s p = QS (Q8 s p) ∧ zer (Qn s (p + Q8 s p) (ub2 s p - Q8 s p)) = true):=by
 obtain ⟨e1,e2,e3⟩:=Qc1 (s:=s) (p:=p) (by omega);have hh:=Qqw (s:=s) (p:=p) (by omega);have hlt:=Qc2 s p;have hk:=XV s (p + 2);have hv:=XV s (p + 3);have hp:=ZC (Q8 s p);have hs : Q8 s p = 8 + ub1 s (p + 2) + ub1 s (p + 3):=rfl;have hsplit : Qn s p (ub2 s p) = Qn s p (Q8 s p) ++ Qn s (p + Q8 s p) (ub2 s p - Q8 s p):=by rw [← Xn];congr 1;omega
 have hlen : (Qn s (p + Q8 s p) (ub2 s p - Q8 s p)).length = ub2 s p - Q8 s p:=Xf (by omega);have hE : Qcu (Q3 s p) (ub4 s (p + 4) : Int) = le2 (QS (Q8 s p) : Nat) ++ ([by8 (ub1 s (p + 2) : Int),by8 (ub1 s (p + 3) : Int)] ++ le4 (ub4 s (p + 4) : Int) ++ (Q3 s p).key ++ (Q3 s p).val ++ List.replicate (QS (Q8 s p) - Q8 s p) 0):=by grind [Qcu]
 have hS : Qn s p (ub2 s p) = le2 (ub2 s p : Nat) ++ ([by8 (ub1 s (p + 2) : Int),by8 (ub1 s (p + 3) : Int)] ++ le4 (ub4 s (p + 4) : Int) ++ (Q3 s p).key ++ (Q3 s p).val ++ Qn s (p + Q8 s p) (ub2 s p - Q8 s p)):=by grind
 constructor
 ·intro h;rw [hE,hS] at h;obtain ⟨h1,h2⟩:=List.append_inj h rfl;have h3:=QrR h1;have h4 : ub2 s p = QS (Q8 s p):=by omega
  refine ⟨h4,?_⟩;have h5:=List.append_cancel_left h2;rw [← h5];exact QlE _
 grind [QaJ]
theorem QkS {s : List UInt8} {p : Nat} (h8 : p + 8 ≤ s.length) (hn : p + ub2 s p ≤ s.length) (ht : Q8 s p ≤ ub2 s p) : (Qeq (ub4 s (p + 4) : Int) = Qn s p (ub2 s p)) ↔ (ub2 s p = 8 ∧ ub2 s (p + 2) = 0):=by
 have hs : Q8 s p = 8 + ub1 s (p + 2) + ub1 s (p + 3):=rfl;have hd : ub2 s (p + 2) = ub1 s (p + 2) + ub1 s (p + 3) * 256:=rfl
 have h4 : Qn s p 8 = le2 (ub2 s p : Int) ++ (le2 (ub2 s (p + 2) : Int) ++ le4 (ub4 s (p + 4) : Int)):=by
  rw [show 8 = 2 + (2 + 4) from rfl,Xn,QfN (by omega),Xn,QfN (by omega),QhY (by omega)]
 constructor
 ·grind [Qou,Xf]
 ·rintro ⟨h1,h2⟩;rw [h1,h4,h1,h2];rfl
structure RdS where
 es : List TEnt
 cs : List Int
 p : Nat
def rdE (s : List UInt8) (p0 : Nat) : Nat → Option RdS
 | 0=>some ⟨[],[],p0⟩
 | k + 1=>match rdE s p0 k with
  | none=>none
  | some r=>if Y1 s r.p then some ⟨r.es ++ [Q3 s r.p],r.cs ++ [(ub4 s (r.p + 4) : Int)],r.p + ub2 s r.p⟩ else none
def Y0 (s : List UInt8) (p : Nat) : Bool:=decide (p + 8 ≤ s.length ∧ ub2 s p = 8 ∧ ub2 s (p + 2) = 0 ∧ ub4 s (p + 4) ≤ 120)
def noz (l : List Int) : Bool:=l.all fun c=>decide (c ≠ 0)
def QdP (l : List Int) : Bool:=l.all fun c=>decide (c = 0)
def rdN (s : List UInt8) (p0 k : Nat) : Option (Nd × Nat):=match rdE s p0 k with
 | none=>none
 | some r=>if Y0 s r.p then (if noz (r.cs ++ [(ub4 s (r.p + 4) : Int)]) then some (⟨true,r.es,r.cs ++ [(ub4 s (r.p + 4) : Int)]⟩,r.p + 8) else if QdP (r.cs ++ [(ub4 s (r.p + 4) : Int)]) then some (⟨true,r.es,[]⟩,r.p + 8) else none) else none
theorem QpY {s : List UInt8} {p0 k : Nat} (h : rdE s p0 k = none) : ∀ j,k ≤ j → rdE s p0 j = none:=by
 intro j hj
 induction j <;> grind [rdE]
theorem Qte {s : List UInt8} {p0 k j : Nat} {r : RdS} (h : rdE s p0 k = some r) (hs : Y1 s r.p = false) (hj : k < j) : rdE s p0 j = none:=
 QpY (k:=k + 1) (by simp only [rdE,h,hs];rfl) j hj
theorem Qdv {s : List UInt8} {p0 k : Nat} {r : RdS} (h : rdE s p0 k = some r) (hs : Y1 s r.p = true) : rdE s p0 (k + 1) = some ⟨r.es ++ [Q3 s r.p],r.cs ++ [(ub4 s (r.p + 4) : Int)],r.p + ub2 s r.p⟩:=by grind [rdE]
theorem Y2 {s : List UInt8} {p : Nat} : Y1 s p = true ↔ (p + 8 ≤ s.length ∧ ub2 s p = QS (Q8 s p) ∧ p + ub2 s p ≤ s.length) ∧ zer (Qn s (p + Q8 s p) (ub2 s p - Q8 s p)) = true ∧ YB (Q3 s p) (ub4 s (p + 4)) = true:=by grind [Y1]
theorem QaW {s : List UInt8} {p0 : Nat} (h0 : p0 ≤ s.length) : ∀ {k : Nat} {r : RdS},rdE s p0 k = some r → r.es.length = k ∧ r.cs.length = k ∧ p0 ≤ r.p ∧ r.p ≤ s.length ∧ r.p ≤ p0 + 96 * k ∧ (∀ x ∈ r.es,YB x 0 = true) ∧ ∀ c ∈ r.cs,0 ≤ c ∧ c ≤ 120
 | 0,r,h=>by
  injection h with h
  grind
 | k + 1,r,h=>by
  cases hk : rdE s p0 k with
  | none=>simp only [rdE,hk] at h;cases h
  | some q=>
   obtain ⟨h1,h2,h3,h4,h5,h6,h7⟩:=QaW h0 hk;cases hs : Y1 s q.p with
   | false=>simp only [rdE,hk,hs] at h;cases h
   | true=>
    rw [Qdv hk hs] at h;injection h with h
    subst h;obtain ⟨⟨g1,g2,g3⟩,g4,g5⟩:=Y2.1 hs
    grind [ZC,Q8,Qc1,YB,ub1,QS]
def YZ (cs : List Int) (i : Nat) : Int:=if cs.length = 0 then 0 else cs.getD i 0
def XZ (n : Nd) : Nat → List UInt8
 | 0=>[]
 | k + 1=>XZ n k ++ Qcu (nth n.es k) (YZ n.cs k)
def YN (n : Nd) : List UInt8:=XZ n n.es.length ++ Qeq (YZ n.cs n.es.length)
theorem Qhs {s : List UInt8} {p0 : Nat} (h0 : p0 ≤ s.length) {n : Nd} : ∀ {k : Nat} {r : RdS},rdE s p0 k = some r → k ≤ n.es.length → (∀ i,i < k → nth n.es i = nth r.es i ∧ YZ n.cs i = r.cs.getD i 0) → XZ n k = Qn s p0 (r.p - p0)
 | 0,r,h,_,_=>by
  injection h with h
  subst h;simp [XZ,Qn]
 | k + 1,r,h,hk,hn=>by
  cases hq : rdE s p0 k with
  | none=>simp only [rdE,hq] at h;cases h
  | some q=>
   obtain ⟨h1,h2,h3,h4,_⟩:=QaW h0 hq;cases hs : Y1 s q.p with
   | false=>simp only [rdE,hq,hs] at h;cases h
   | true=>
    rw [Qdv hq hs] at h;injection h with h
    subst h;obtain ⟨⟨g1,g2,g3⟩,g4,g5⟩:=Y2.1 hs;have hp:=ZC (Q8 s q.p)
    have ih:=Qhs h0 (n:=n) hq (by omega) (fun i hi=>by
     obtain ⟨a1,a2⟩:=hn i (by omega);rw [a1,a2];constructor
     ·unfold nth;rw [List.getD_eq_getElem?_getD,List.getElem?_append_left (by omega),← List.getD_eq_getElem?_getD]
     ·rw [List.getD_eq_getElem?_getD,List.getElem?_append_left (by omega),← List.getD_eq_getElem?_getD])
    obtain ⟨a1,a2⟩:=hn k (by omega);have ub1' : nth (q.es ++ [Q3 s q.p]) k = Q3 s q.p:=by grind [nth]
    have ub2' : (q.cs ++ [(ub4 s (q.p + 4) : Int)]).getD k 0 = (ub4 s (q.p + 4) : Int):=by grind
    rw [XZ,ih,a1,a2,ub1',ub2',(Qlx g3 (by omega)).2 ⟨g2,g4⟩];simp only [];rw [show q.p + ub2 s q.p - p0 = (q.p - p0) + ub2 s q.p by omega,Xn,show p0 + (q.p - p0) = q.p by omega]
theorem QeN {s : List UInt8} {p0 k : Nat} (h0 : p0 ≤ s.length) {n : Nd} {e : Nat} (h : rdN s p0 k = some (n,e)) : YN n = Qn s p0 (e - p0) ∧ p0 + 8 ≤ e ∧ e ≤ s.length ∧ e ≤ p0 + 96 * k + 8 ∧ n.us = true ∧ n.es.length = k ∧ (n.cs.length = 0 ∨ n.cs.length = k + 1) ∧ (∀ x ∈ n.es,YB x 0 = true) ∧ ∀ c ∈ n.cs,1 ≤ c ∧ c ≤ 120:=by
 unfold rdN at h;cases hq : rdE s p0 k with
 | none=>rw [hq] at h;cases h
 | some r=>
  rw [hq] at h;simp only [] at h;obtain ⟨h1,h2,h3,h4,h5,h6,h7⟩:=QaW h0 hq;split at h
  ·rename_i he;simp only [Y0,decide_eq_true_eq] at he;obtain ⟨g1,g2,g3,g4⟩:=he;have hb2 : ub2 s (r.p + 2) = ub1 s (r.p + 2) + ub1 s (r.p + 3) * 256:=rfl;have hsz : Q8 s r.p = 8 + ub1 s (r.p + 2) + ub1 s (r.p + 3):=rfl;have hend:=(QkS (s:=s) (p:=r.p) g1 (by omega) (by omega)).2 ⟨g2,g3⟩;rw [g2] at hend
   have hfin : Qn s p0 (r.p + 8 - p0) = Qn s p0 (r.p - p0) ++ Qn s r.p 8:=by
    rw [show r.p + 8 - p0 = (r.p - p0) + 8 by omega,Xn,show p0 + (r.p - p0) = r.p by omega]
   split at h
   ·rename_i hz;injection h with h
    injection h with e1 e2
    subst e1 e2
    grind [YZ,ub4,YN,Qhs,hi,noz]
   ·split at h
    ·rename_i hz;injection h with h
     injection h with e1 e2
     subst e1 e2;refine ⟨?_,by omega,by omega,by omega,rfl,h1,.inl rfl,h6,by simp⟩
     have hall : ∀ i,i ≤ k → (r.cs ++ [(ub4 s (r.p + 4) : Int)]).getD i 0 = 0:=fun i hi=>by
      simp only [QdP,List.all_eq_true,decide_eq_true_eq] at hz;have hl : i < (r.cs ++ [(ub4 s (r.p + 4) : Int)]).length:=by simp;omega
      have:=hz _ (List.getElem_mem hl);rw [List.getD_eq_getElem?_getD,List.getElem?_eq_getElem hl];exact this
     have hlast:=hall k (Nat.le_refl _);rw [List.getD_eq_getElem?_getD,List.getElem?_append_right (by omega),h2,Nat.sub_self] at hlast;have hlast : (ub4 s (r.p + 4) : Int) = 0:=hlast;unfold YN;simp only []
     rw [h1,Qhs h0 (n:=⟨true,r.es,[]⟩) hq (Nat.le_of_eq h1.symm) (fun i hi=>⟨rfl,by
      have:=hall i (by omega);rw [List.getD_eq_getElem?_getD,List.getElem?_append_left (by omega),← List.getD_eq_getElem?_getD] at this;rw [this];rfl⟩),hfin,← hend,hlast]
     rfl
    ·cases h
  ·cases h
theorem Qm8 {s : List UInt8} {i n j m : Nat} (h : j + m ≤ n) : Qn (Qn s i n) j m = Qn s (i + j) m:=by
 simp only [Qn,List.drop_take,List.take_take,List.drop_drop]
 grind
theorem QuK {s : List UInt8} {p n j : Nat} (h : j < n) : ub1 (Qn s p n) j = ub1 s (p + j):=by grind [ub1,Zn]
theorem Qur {s : List UInt8} {p n j : Nat} (h : j + 1 < n) : ub2 (Qn s p n) j = ub2 s (p + j):=by grind [ub2,QuK]
structure NdW (n : Nd) : Prop where
 us : n.us = true
 es : ∀ x ∈ n.es,YB x 0 = true
 cl : n.cs.length = 0 ∨ n.cs.length = n.es.length + 1
 cs : ∀ c ∈ n.cs,1 ≤ c ∧ c ≤ 120
def Qz (s : List UInt8) (at' : Nat) (l : List UInt8) : List UInt8:=s.take at' ++ l ++ s.drop (at' + l.length)
theorem XA {s l : List UInt8} {a : Nat} (h : a + l.length ≤ s.length) : (Qz s a l).length = s.length:=by grind [Qz]
theorem Yp {s l : List UInt8} {a : Nat} (h : a + l.length ≤ s.length) (j : Nat) : (Qz s a l)[j]? = if j < a then s[j]? else if j < a + l.length then l[j - a]? else s[j]?:=by grind [Qz]
theorem QaV {s l : List UInt8} {a i n : Nat} (h : a + l.length ≤ s.length) (hd : i + n ≤ a ∨ a + l.length ≤ i) : Qn (Qz s a l) i n = Qn s i n:=by
 apply List.ext_getElem?
 grind [Zn,Yp,Qn]
def tlA (i : Nat) : Nat:=64 * i + 62
def prI (s : List UInt8) (u : Int) : Nat → List UInt8
 | 0=>Qz s 40 (le2 u)
 | i + 1=>Qz (Qz (prI s u i) (42 + 2 * i) (Qn (prI s u i) (tlA i) 2)) (tlA i) (le2 u)
def Qbc (s : List UInt8) (u : Int) : List UInt8:=prI s u 8
def opI (s : List UInt8) : Nat → List UInt8
 | 0=>s
 | i + 1=>Qz (opI s i) (tlA i) (Qn (opI s i) (42 + 2 * i) 2)
def Qao (s : List UInt8) (i : Nat) : Bool:=decide (ub2 s 40 = 0 ∨ ub2 s (tlA i) ≠ ub2 s 40)
def Xy (s : List UInt8) : Bool:=(List.range 8).any (Qao s)
def QA (s : List UInt8) : List UInt8:=Qz (opI s 8) 40 (List.replicate 18 0)
theorem QcR {s : List UInt8} {u : Int} (h : s.length = 512) : ∀ i,i ≤ 8 → (prI s u i).length = 512
 | 0,_=>by
  show (Qz s 40 (le2 u)).length = _
  grind [XA,le2]
 | i + 1,hi=>by
  have ih:=QcR (u:=u) h i (by omega);have h2 : (Qn (prI s u i) (tlA i) 2).length = 2:=Xf (by unfold tlA;omega);show (Qz (Qz _ _ _) _ (le2 u)).length = _
  grind [XA,le2,tlA]
theorem ZH {s : List UInt8} (h : s.length = 512) : ∀ i,i ≤ 8 → (opI s i).length = 512
 | 0,_=>h
 | i + 1,hi=>by
  have ih:=ZH h i (by omega)
  grind [Qn,opI,Xf,Qz,XA,tlA]
theorem QkW {s : List UInt8} {u : Int} (h : s.length = 512) : ∀ i,i ≤ 8 → ∀ j,(prI s u i)[j]? = if j < 40 then s[j]? else if j < 42 then (le2 u)[j - 40]? else if j < 42 + 2 * i then s[tlA ((j - 42) / 2) + (j - 42) % 2]? else if j < 64 * i ∧ 62 ≤ j % 64 then (le2 u)[j % 64 - 62]? else s[j]?
 | 0,_,j=>by
  have hle : (le2 u).length = 2:=rfl;show (Qz s 40 (le2 u))[j]? = _
  grind [Yp]
 | i + 1,hi,j=>by
  have hl:=QcR (u:=u) h i (by omega);have ih:=QkW (u:=u) h i (by omega);have h2 : (Qn (prI s u i) (tlA i) 2).length = 2:=Xf (by unfold tlA;omega);have h3 : (Qz (prI s u i) (42 + 2 * i) (Qn (prI s u i) (tlA i) 2)).length = 512:=by rw [XA (by rw [h2,hl];omega),hl]
  show (Qz (Qz _ _ _) _ (le2 u))[j]? = _;rw [Yp (by rw [h3];simp only [le2,List.length_cons,List.length_nil,tlA];omega),Yp (by rw [h2,hl];omega),h2];have hle : (le2 u).length = 2:=rfl;rw [hle]
  have e1 : ∀ k,(Qn (prI s u i) (tlA i) 2)[k]? = if k < 2 then s[tlA i + k]? else none:=fun k=>by
   by_cases hk : k < 2
   ·rw [if_pos hk,Zn hk,ih];unfold tlA;rw [if_neg (by omega)]
    by_cases hi0 : 64 * i + 62 + k < 42
    ·omega
    ·rw [if_neg hi0];rw [if_neg (by omega),if_neg (by omega)]
   ·rw [if_neg hk,List.getElem?_eq_none (by rw [h2];omega)]
  rw [e1,ih];unfold tlA
  repeat' split
  all_goals first | rfl | (exfalso;omega) | (congr 1;omega)
theorem QpD {s : List UInt8} {i j : Nat} (h : i = j) : s[i]? = s[j]?:=by rw [h]
theorem QlT {s : List UInt8} (h : s.length = 512) : ∀ i,i ≤ 8 → ∀ j,(opI s i)[j]? = if j < 64 * i ∧ 62 ≤ j % 64 then s[42 + 2 * (j / 64) + (j % 64 - 62)]? else s[j]?
 | 0,_,j=>by
  rw [if_neg (by omega)];rfl
 | i + 1,hi,j=>by
  have hl:=ZH h i (by omega);have ih:=QlT h i (by omega);have h2 : (Qn (opI s i) (42 + 2 * i) 2).length = 2:=Xf (by omega);show (Qz _ _ _)[j]? = _;rw [Yp (by rw [h2,hl];unfold tlA;omega),h2];unfold tlA
  by_cases c1 : 64 * i + 62 ≤ j ∧ j < 64 * i + 64
  ·rw [if_neg (by omega),if_pos (by omega),if_pos (by omega),Zn (by omega),ih,if_neg (by omega)];congr 1;omega
  ·have e : (if j < 64 * i + 62 then (opI s i)[j]? else if j < 64 * i + 62 + 2 then (Qn (opI s i) (42 + 2 * i) 2)[j - (64 * i + 62)]? else (opI s i)[j]?) = (opI s i)[j]?:=by
    split
    ·rfl
    ·rw [if_neg (by omega)]
   refine e.trans ?_;rw [ih]
   by_cases d : j < 64 * i ∧ 62 ≤ j % 64
   ·rw [if_pos d,if_pos (by omega)]
   ·rw [if_neg d,if_neg (by omega)]
theorem YK {s : List UInt8} (h : s.length = 512) : (QA s).length = 512:=by
 unfold QA;rw [XA (by rw [ZH h 8 (by omega)];simp),ZH h 8 (by omega)]
theorem QaB {s : List UInt8} (h : s.length = 512) (j : Nat) : (QA s)[j]? = if 40 ≤ j ∧ j < 58 then some 0 else if j < 512 ∧ 62 ≤ j % 64 then s[42 + 2 * (j / 64) + (j % 64 - 62)]? else s[j]?:=by
 unfold QA;rw [Yp (by rw [ZH h 8 (by omega)];simp),QlT h 8 (by omega),List.length_replicate]
 by_cases c : 40 ≤ j ∧ j < 58
 ·rw [if_pos c,if_neg (by omega),if_pos (by omega),List.getElem?_replicate,if_pos (by omega)]
 ·rw [if_neg c];split
  ·rfl
  ·rw [if_neg (by omega)]
theorem QmH {s : List UInt8} {u : Int} (h : s.length = 512) : (Qbc s u).length = 512:=QcR h 8 (by omega)
theorem Y7 {s : List UInt8} {u : Int} (h : s.length = 512) (j : Nat) : (Qbc s u)[j]? = if j < 40 then s[j]? else if j < 42 then (le2 u)[j - 40]? else if j < 58 then s[tlA ((j - 42) / 2) + (j - 42) % 2]? else if j < 512 ∧ 62 ≤ j % 64 then (le2 u)[j % 64 - 62]? else s[j]?:=QkW h 8 (by omega) j
theorem Qon {s t : List UInt8} {i j : Nat} (h : s[i]? = t[j]?) : ub1 s i = ub1 t j:=by simp only [ub1,List.getD_eq_getElem?_getD,h]
theorem QpN {s t : List UInt8} {i j : Nat} (h : s[i]? = t[j]?) (h2 : s[i + 1]? = t[j + 1]?) : ub2 s i = ub2 t j:=by simp only [ub2,Qon h,Qon h2]
theorem QpG {u : Int} (h : 0 ≤ u ∧ u < 65536) : (ub2 (le2 u) 0 : Int) = u:=by
 have e0 : ub1 (le2 u) 0 = (by8 u).toNat:=rfl;have e1 : ub1 (le2 u) 1 = (by8 (u / 256)).toNat:=rfl;have f0:=QbV u;have f1:=QbV (u / 256);unfold ub2;rw [e0,e1];omega
theorem Qr3 {s : List UInt8} {u : Int} (h : s.length = 512) (hu : 0 ≤ u ∧ u < 65536) : (ub2 (Qbc s u) 40 : Int) = u:=by
 rw [QpN (t:=le2 u) (j:=0) (by rw [Y7 h,if_neg (by omega),if_pos (by omega)]) (by rw [Y7 h,if_neg (by omega),if_pos (by omega)])];exact QpG hu
theorem QmD {s : List UInt8} {u : Int} (h : s.length = 512) (hu : 0 ≤ u ∧ u < 65536) {i : Nat} (hi : i < 8) : (ub2 (Qbc s u) (tlA i) : Int) = u:=by
 rw [QpN (t:=le2 u) (j:=0) (by unfold tlA;rw [Y7 h,if_neg (by omega),if_neg (by omega),if_neg (by omega),if_pos (by omega)];congr 1;omega) (by unfold tlA;rw [Y7 h,if_neg (by omega),if_neg (by omega),if_neg (by omega),if_pos (by omega)];congr 1;omega)];exact QpG hu
theorem QuO {s : List UInt8} {u : Int} (h : s.length = 512) (hu : 1 ≤ u ∧ u < 65536) : Xy (Qbc s u) = false:=by
 cases hb : Xy (Qbc s u) with
 | false=>rfl
 | true=>
  simp only [Xy,List.any_eq_true,List.mem_range,Qao,decide_eq_true_eq] at hb;obtain ⟨i,hi,hh⟩:=hb;have h1:=Qr3 h (u:=u) (by omega);have h2:=QmD h (u:=u) (by omega) hi;omega
theorem Qot {s : List UInt8} {i n : Nat} (h : zer (Qn s i n) = true) (hl : i + n ≤ s.length) {j : Nat} (h1 : i ≤ j) (h2 : j < i + n) : s[j]? = some 0:=by
 have h3 : s[j]? = (Qn s i n)[j - i]?:=by rw [Zn (by omega)];congr 1;omega
 rw [QaJ,Xf hl] at h;rw [h3,h,List.getElem?_replicate,if_pos (by omega)]
theorem Qms {s : List UInt8} {u : Int} (h : s.length = 512) (hz : zer (Qn s 40 18) = true) : QA (Qbc s u) = s:=by
 have hl:=QmH (u:=u) h;apply List.ext_getElem?;intro j;rw [QaB hl]
 by_cases c : 40 ≤ j ∧ j < 58
 ·rw [if_pos c,Qot hz (by omega) c.1 (by omega)]
 ·rw [if_neg c]
  by_cases c2 : j < 512 ∧ 62 ≤ j % 64
  ·rw [if_pos c2,Y7 h,if_neg (by omega),if_neg (by omega),if_pos (by omega)];exact QpD (by unfold tlA;omega)
  ·rw [if_neg c2,Y7 h]
   by_cases d1 : j < 40
   ·rw [if_pos d1]
   ·rw [if_neg d1,if_neg (by omega),if_neg (by omega),if_neg (by omega)]
theorem Qh9 {s : List UInt8} : Xy s = false ↔ ub2 s 40 ≠ 0 ∧ ∀ i,i < 8 → ub2 s (tlA i) = ub2 s 40:=by
 constructor
 ·intro h
  have h2 : ∀ i,i < 8 → ¬ (ub2 s 40 = 0 ∨ ub2 s (tlA i) ≠ ub2 s 40):=by
   intro i hi hb;have : Xy s = true:=List.any_eq_true.2 ⟨i,List.mem_range.2 hi,decide_eq_true hb⟩;rw [this] at h;cases h
  have:=h2 0 (by omega);exact ⟨by omega,fun i hi=>by have:=h2 i hi;omega⟩
 ·rintro ⟨h1,h2⟩;cases hb : Xy s with
  | false=>rfl
  | true=>
   simp only [Xy,List.any_eq_true,List.mem_range,Qao,decide_eq_true_eq] at hb;obtain ⟨i,hi,hh⟩:=hb;have:=h2 i hi;omega
theorem Qit {s : List UInt8} {i j : Nat} (h : ub2 s i = ub2 s j) : ub1 s i = ub1 s j ∧ ub1 s (i + 1) = ub1 s (j + 1):=by
 have h1:=XV s i;have h2:=XV s (i + 1);have h3:=XV s j;have h4:=XV s (j + 1);unfold ub2 at h;omega
theorem Qkb {s t : List UInt8} {i j : Nat} (hi : i < s.length) (hj : j < t.length) (h : ub1 s i = ub1 t j) : s[i]? = t[j]?:=by
 simp only [ub1,List.getD_eq_getElem?_getD,List.getElem?_eq_getElem hi,List.getElem?_eq_getElem hj,Option.getD_some] at h;rw [List.getElem?_eq_getElem hi,List.getElem?_eq_getElem hj];exact congrArg _ (UInt8.toNat_inj.1 h)
theorem QlP {s : List UInt8} {i j : Nat} (hi : i + 1 < s.length) (hj : j < 2) : (le2 (ub2 s i : Int))[j]? = s[i + j]?:=by
 rw [← QfN (by omega),Zn hj]
theorem QmG {s : List UInt8} (h : s.length = 512) (ht : Xy s = false) : Qbc (QA s) (ub2 s 40 : Int) = s:=by
 have hl:=YK h;obtain ⟨h1,h2⟩:=Qh9.1 ht;apply List.ext_getElem?;intro j;rw [Y7 hl]
 by_cases c1 : j < 40
 ·rw [if_pos c1,QaB h,if_neg (by omega),if_neg (by omega)]
 ·rw [if_neg c1]
  by_cases c2 : j < 42
  ·rw [if_pos c2,QlP (by omega) (by omega)];exact QpD (by omega)
  ·rw [if_neg c2]
   by_cases c3 : j < 58
   ·rw [if_pos c3];unfold tlA;rw [QaB h,if_neg (by omega),if_pos (by omega)];exact QpD (by omega)
   ·rw [if_neg c3]
    by_cases c4 : j < 512 ∧ 62 ≤ j % 64
    ·rw [if_pos c4,QlP (by omega) (by omega)];have h3:=Qit (h2 (j / 64) (by omega));unfold tlA at h3
     by_cases c5 : j % 64 = 62
     ·rw [c5];exact Qkb (by omega) (by omega) (by rw [show j = 64 * (j / 64) + 62 by omega];exact h3.1.symm)
     ·rw [show j % 64 - 62 = 1 by omega];exact Qkb (by omega) (by omega) (by rw [show j = 64 * (j / 64) + 62 + 1 by omega];exact h3.2.symm)
    ·rw [if_neg c4,QaB h,if_neg (by omega),if_neg c4]
theorem QjZ {s : List UInt8} (h : s.length = 512) : zer (Qn (QA s) 40 18) = true:=by
 have hl:=YK h;rw [QaJ,Xf (by omega)];apply List.ext_getElem?;intro j;rcases Nat.lt_or_ge j 18 with hj | hj
 ·rw [Zn hj,QaB h,if_pos (by omega),List.getElem?_replicate,if_pos hj]
 ·rw [List.getElem?_eq_none (by rw [Xf (by omega)];omega),List.getElem?_eq_none (by simp;omega)]
def Qdh : List UInt8:=[73,78,68,88]
def hdB (num lsn : Int) (count : Nat) : List UInt8:=Qdh ++ List.replicate 4 0 ++ le4 lsn ++ le4 num ++ le2 count ++ List.replicate 46 0
def QcN (n : Nd) (num lsn : Int) : List UInt8:=hdB num lsn n.es.length ++ YN n ++ List.replicate (448 - (YN n).length) 0
def QiV (n : Nd) (num lsn usn : Int) : List UInt8:=Qbc (QcN n num lsn) usn
theorem Qa1 (num lsn : Int) (c : Nat) : (hdB num lsn c).length = 64:=rfl
theorem Qic {n : Nd} {num lsn : Int} (h : (YN n).length ≤ 448) : (QcN n num lsn).length = 512:=by
 unfold QcN;rw [List.length_append,List.length_append,Qa1,List.length_replicate];omega
theorem Qrt {n : Nd} {num lsn : Int} : Qn (QcN n num lsn) 0 64 = hdB num lsn n.es.length:=by
 unfold QcN Qn;rw [List.append_assoc,List.drop_zero,show (64 : Nat) = (hdB num lsn n.es.length).length from rfl,List.take_left]
theorem QgA {n : Nd} {num lsn : Int} : zer (Qn (QcN n num lsn) 40 18) = true:=by
 have h : Qn (Qn (QcN n num lsn) 0 64) 40 18 = Qn (hdB num lsn n.es.length) 40 18:=by rw [Qrt]
 rw [Qm8 (by omega),Nat.zero_add] at h;rw [h];rfl
def Qgc (s : List UInt8) (num : Int) : Bool:=decide (s.take 4 = Qdh) && (zer (Qn s 4 4) && (decide (ub4 s 8 ≤ 2147483647) && (decide ((ub4 s 12 : Int) = num) && (zer (Qn s 18 22) && zer (Qn s 58 6)))))
theorem Qs0 {s : List UInt8} {num : Int} {c : Nat} (h : 64 ≤ s.length) (hc : c = ub2 s 16) (hn : 0 ≤ num ∧ num < 4294967296) (hz : zer (Qn s 40 18) = true) (hlsn : ub4 s 8 ≤ 2147483647) : hdB num (ub4 s 8 : Int) c = Qn s 0 64 ↔ Qgc s num = true:=by
 subst hc
 have e : Qn s 0 64 = s.take 4 ++ Qn s 4 4 ++ le4 (ub4 s 8 : Int) ++ le4 (ub4 s 12 : Int) ++ le2 (ub2 s 16 : Int) ++ (Qn s 18 22 ++ (Qn s 40 18 ++ Qn s 58 6)):=by
  rw [show 64 = 4 + (4 + (4 + (4 + (2 + (22 + (18 + 6)))))) from rfl,Xn,Xn,Xn,Xn,Xn,Xn,Xn];simp only [Nat.zero_add,Nat.reduceAdd];rw [QhY (i:=8) (by omega),QhY (i:=12) (by omega),QfN (i:=16) (by omega),show Qn s 0 4 = s.take 4 by simp [Qn]];simp only [List.append_assoc]
 have z18:=(QaJ _).1 hz;rw [Xf (by omega)] at z18;have er : List.replicate 46 (0 : UInt8) = List.replicate 22 0 ++ (List.replicate 18 0 ++ List.replicate 6 0):=rfl;have l4 : (s.take 4).length = 4:=by simp only [List.length_take];omega
 have l44 : (Qn s 4 4).length = 4:=Xf (by omega);constructor
 ·intro hh;rw [e] at hh;unfold hdB at hh;obtain ⟨hh,f6⟩:=List.append_inj hh (by simp only [List.length_append,l4,l44];rfl);obtain ⟨hh,f5⟩:=List.append_inj hh (by simp only [List.length_append,l4,l44];rfl);obtain ⟨hh,f4⟩:=List.append_inj hh (by simp only [List.length_append,l4,l44];rfl);obtain ⟨hh,f3⟩:=List.append_inj hh (by simp only [List.length_append,l4,l44];rfl);obtain ⟨f1,f2⟩:=List.append_inj hh (by rw [l4];rfl);rw [er] at f6;obtain ⟨g1,f6⟩:=List.append_inj f6 (by rw [Xf (by omega)];rfl);obtain ⟨g2,g3⟩:=List.append_inj f6 (by rw [Xf (by omega)];rfl);have f4':=Qrn f4;have hb:=Qk8 s 12;simp only [Qgc,Bool.and_eq_true,decide_eq_true_eq];refine ⟨f1.symm,?_,hlsn,by omega,?_,?_⟩
  ·rw [← f2];rfl
  ·rw [← g1];rfl
  ·rw [← g3];rfl
 ·intro hh;simp only [Qgc,Bool.and_eq_true,decide_eq_true_eq] at hh;obtain ⟨f1,f2,_,f4,f5,f6⟩:=hh;rw [QaJ,Xf (by omega)] at f2 f5 f6;rw [e,f1,f2,f4,f5,z18,f6];rfl
def rdB (s : List UInt8) : Option (Nd × Nat):=if 1 ≤ ub2 s 16 ∧ ub2 s 16 ≤ 4 then rdN s 64 (ub2 s 16) else none
def QqX : Nd:=⟨false,[],[]⟩
structure NdR where
 n : Nd
 lsn : Int
 usn : Int
 e : Int
def ndE (e : Int) : NdR:=⟨QqX,0,0,e⟩
def Xv (b : List UInt8) (num : Int) : NdR:=
 if b.length = 512 then
  if 1 ≤ num ∧ num ≤ 120 then
   if Xy b then ndE 31
   else match rdB (QA b) with
    | some (n,last)=>if Qgc (QA b) num && zer ((QA b).drop last) then ⟨n,(ub4 (QA b) 8 : Int),(ub2 b 40 : Int),0⟩ else ndE 3
    | none=>ndE 3
  else ndE 2
 else ndE 10
theorem QbZ {s : List UInt8} {n : Nd} {last : Nat} (hl : s.length = 512) (h : rdB s = some (n,last)) : YN n = Qn s 64 (last - 64) ∧ 72 ≤ last ∧ last ≤ 512 ∧ n.es.length = ub2 s 16 ∧ (1 ≤ ub2 s 16 ∧ ub2 s 16 ≤ 4) ∧ NdW n:=by
 unfold rdB at h;split at h
 ·rename_i hc;obtain ⟨h1,h2,h3,h4,h5,h6,h7,h8,h9⟩:=QeN (by omega) h;exact ⟨h1,by omega,by omega,h6,hc,⟨h5,h8,by omega,h9⟩⟩
 ·cases h
theorem QiB {s : List UInt8} {n : Nd} {last : Nat} (hl : s.length = 512) (h : rdB s = some (n,last)) : (YN n).length = last - 64:=by
 obtain ⟨h1,h2,h3,_⟩:=QbZ hl h;rw [h1,Xf (by omega)]
theorem Qly {b : List UInt8} {num : Int} {n : Nd} {last : Nat} (hl : b.length = 512) (ht : Xy b = false) (hn : 0 ≤ num ∧ num < 4294967296) (h : rdB (QA b) = some (n,last)) (hlsn : ub4 (QA b) 8 ≤ 2147483647) :
  QiV n num (ub4 (QA b) 8 : Int) (ub2 b 40 : Int) = b ↔ (Qgc (QA b) num && zer ((QA b).drop last)) = true:=by
 have ho:=YK hl;obtain ⟨h1,h2,h3,h4,h5,h6⟩:=QbZ ho h;have hc:=QiB ho h;have hz:=QjZ hl;have hu:=Qc2 b 40;have hN : (QcN n num (ub4 (QA b) 8 : Int)).length = 512:=Qic (by omega)
 have hiff : QiV n num (ub4 (QA b) 8 : Int) (ub2 b 40 : Int) = b ↔ QcN n num (ub4 (QA b) 8 : Int) = QA b:=by
  constructor
  ·intro hh;have:=congrArg QA hh;unfold QiV at this
   rwa [Qms hN QgA] at this
  ·intro hh;unfold QiV;rw [hh];exact QmG hl ht
 rw [hiff]
 have hs : QA b = Qn (QA b) 0 64 ++ YN n ++ (QA b).drop last:=by
  rw [h1]
  have e1 : Qn (QA b) 0 64 ++ Qn (QA b) 64 (last - 64) = (QA b).take last:=by
   have:=Xn (QA b) 0 64 (last - 64);rw [Nat.zero_add] at this;rw [← this,show 64 + (last - 64) = last by omega];simp [Qn]
  rw [e1,List.take_append_drop]
 have hd:=Qs0 (s:=QA b) (num:=num) (c:=n.es.length) (by omega) h4 hn hz hlsn;have l64 : (Qn (QA b) 0 64).length = 64:=Xf (by omega);have hdl : ((QA b).drop last).length = 448 - (YN n).length:=by rw [List.length_drop,ho,hc];omega
 constructor
 ·intro hh;rw [hs] at hh;have hh' : hdB num (ub4 (Qn (QA b) 0 64 ++ YN n ++ (QA b).drop last) 8 : Int) n.es.length ++ YN n ++ List.replicate (448 - (YN n).length) 0 = Qn (QA b) 0 64 ++ YN n ++ (QA b).drop last:=hh;rw [← hs] at hh';have hh2 : hdB num (ub4 (QA b) 8 : Int) n.es.length ++ YN n ++ List.replicate (448 - (YN n).length) 0 = Qn (QA b) 0 64 ++ YN n ++ (QA b).drop last:=by rw [hh',← hs]
  obtain ⟨f1,f2⟩:=List.append_inj hh2 (by rw [List.length_append,List.length_append,l64];rfl);have f3:=List.append_cancel_right f1;rw [Bool.and_eq_true];refine ⟨hd.1 f3,?_⟩;rw [← f2];exact QlE _
 ·intro hh;rw [Bool.and_eq_true] at hh;have f1:=hd.2 hh.1;have f2:=(QaJ _).1 hh.2;rw [hdl] at f2;unfold QcN;rw [f1,← f2,← hs]
def Qa8 : List UInt8:=[82,79,79,84]
def rutB (t : Tre) : List UInt8:=Qa8 ++ [by8 t.co,by8 t.mo,by8 t.rm,by8 (nth t.ns 0).es.length] ++ YN (nth t.ns 0)
def noT : Tre:=⟨0,0,0,[]⟩
def Qas (co : Int) (es : List TEnt) (i : Nat) : Bool:=QB co (nth es i).key && decide (i = 0 ∨ Xm co (nth es (i - 1)).key (nth es i).key < 0)
def QdI (co : Int) (es : List TEnt) : Bool:=(List.range es.length).all (Qas co es)
theorem Qbo {co : Int} {es : List TEnt} : QdI co es = true ↔ ∀ i,i < es.length → Qas co es i = true:=by grind [QdI]
theorem Qk3 {co : Int} {es : List TEnt} {i : Nat} (hi : i < es.length) (h : Qas co es i = false) : QdI co es = false:=by
 cases hb : QdI co es with
 | false=>rfl
 | true=>rw [Qbo.1 hb i hi] at h;cases h
def Qa (s : List UInt8) : Tre × Int:=
 if s.length < 16 then (noT,10)
 else if s.take 4 = Qa8 then
  if Qp (at1 s 4) = 0 then
   if XO (at1 s 5) (at1 s 6) = 0 then
    if at1 s 5 ≤ 4 then
     if at1 s 7 ≤ at1 s 6 then
      match rdN s 8 (ub1 s 7) with
      | some (n,last)=>if last = s.length ∧ QdI (at1 s 4) n.es = true then (⟨at1 s 4,at1 s 5,at1 s 6,[n]⟩,0) else (noT,3)
      | none=>(noT,3)
     else (noT,16)
    else (noT,8)
   else (noT,XO (at1 s 5) (at1 s 6))
  else (noT,Qp (at1 s 4))
 else (noT,3)
def QdV (x : TEnt) : Bool:=decide (x.key.length + x.val.length ≤ 88)
def Qqs (n : Nd) : Bool:=n.es.all QdV
def QsL (t : Tre) : Int:=if (YX t).2 = 0 then if t.mo ≤ 4 ∧ t.ns.all Qqs = true then 0 else 8 else (YX t).2
structure Ixs where
 ro : List UInt8
 al : List UInt8
 bm : List UInt8
deriving DecidableEq,Inhabited
def Ixs.n (x : Ixs) : Nat:=x.al.length / 512
def Ixs.blk (x : Ixs) (i : Nat) : List UInt8:=Qn x.al ((i - 1) * 512) 512
def ZG (bm : List UInt8) (j : Nat) : Bool:=decide (ub1 bm (j / 8) / 2 ^ (j % 8) % 2 = 1)
def YC (x : Ixs) (i : Nat) : Bool:=decide (1 ≤ i ∧ i ≤ x.n) && ZG x.bm (i - 1)
def Qee (x : Ixs) : Bool:=(List.range (8 * x.bm.length)).any fun j=>decide (x.n ≤ j) && ZG x.bm j
def ixE (x : Ixs) : Int:=
 if x.al.length ≤ 61440 ∧ x.ro.length ≤ 200000 then
  if x.al.length % 512 = 0 ∧ x.bm.length = QS ((x.n + 7) / 8) then
   if (Qa x.ro).2 = 0 then
    if Qee x then 3 else if x.n = 0 ∨ ZG x.bm (x.n - 1) = true then 0 else 3
   else (Qa x.ro).2
  else 10
 else 8
def bkN (x : Ixs) (i : Nat) : Nd:=if YC x i then (Xv (x.blk i) i).n else QqX
def bkE (x : Ixs) (i : Nat) : Int:=if YC x i then (Xv (x.blk i) i).e else if zer (x.blk i) then 0 else 3
def QhF (x : Ixs) : Nat → Nat → Option Nat
 | 0,_=>none
 | f + 1,i=>if bkE x i = 0 then QhF x f (i + 1) else some i
def Xb (x : Ixs) (k : Nat) : List Nd:=(Qa x.ro).1.ns ++ (List.range k).map fun j=>bkN x (j + 1)
def Qb7 (x : Ixs) : Tre:=⟨(Qa x.ro).1.co,(Qa x.ro).1.mo,(Qa x.ro).1.rm,Xb x x.n⟩
def rdI (x : Ixs) : (Tre × Int) × Int:=
 if ixE x = 0 then
  match QhF x x.n 1 with
  | some i=>((noT,(i : Int)),bkE x i)
  | none=>if (YX (Qb7 x)).2 = 0 then ((Qb7 x,0),0) else ((noT,(YX (Qb7 x)).1),(YX (Qb7 x)).2)
 else ((noT,0),ixE x)
theorem Qfq (x : Ixs) (k : Nat) : Xb x (k + 1) = Xb x k ++ [bkN x (k + 1)]:=by
 unfold Xb;rw [List.range_succ,List.map_append,List.append_assoc];rfl
theorem Zb {x : Ixs} (h : (Qa x.ro).1.ns.length = 1) (k : Nat) : (Xb x k).length = k + 1:=by grind [Xb]
theorem QgT {x : Ixs} : ∀ {f i : Nat},(∀ j,i ≤ j → j < i + f → bkE x j = 0) → QhF x f i = none
 | 0,_,_=>rfl
 | f + 1,i,h=>by
  rw [QhF,if_pos (h i (Nat.le_refl _) (by omega))];exact QgT fun j h1 h2=>h j (by omega) (by omega)
theorem Y8 {s : List UInt8} (h : (Qa s).2 = 0) : ∃ n last,rdN s 8 (ub1 s 7) = some (n,last) ∧ last = s.length ∧ QdI (at1 s 4) n.es = true ∧ Qa s = (⟨at1 s 4,at1 s 5,at1 s 6,[n]⟩,0) ∧ 16 ≤ s.length ∧ s.take 4 = Qa8 ∧ Qp (at1 s 4) = 0 ∧ XO (at1 s 5) (at1 s 6) = 0 ∧ at1 s 5 ≤ 4 ∧ at1 s 7 ≤ at1 s 6:=by grind [Qa]
theorem QfS {x : Ixs} (h : ixE x = 0) : (x.al.length ≤ 61440 ∧ x.ro.length ≤ 200000) ∧ (x.al.length % 512 = 0 ∧ x.bm.length = QS ((x.n + 7) / 8)) ∧ (Qa x.ro).2 = 0 ∧ Qee x = false ∧ (x.n = 0 ∨ ZG x.bm (x.n - 1) = true):=by grind [ixE]
def QtE (ns : List Nd) (g : Nat) : Nat → Nat
 | 0=>0
 | i + 1=>QtE ns g i + (if (nth ns (8 * g + i + 1)).us = true ∧ 8 * g + i + 1 < ns.length then 2 ^ i else 0)
def Qvl (ns : List Nd) : Nat:=QS ((ns.length - 1 + 7) / 8)
def bmB (ns : List Nd) : List UInt8:=(List.range (Qvl ns)).map fun g=>by8 (QtE ns g 8 : Nat)
def Qp3 (blk : Nat → List UInt8) : Nat → List UInt8
 | 0=>[]
 | k + 1=>Qp3 blk k ++ blk (k + 1)
def Qvg : List UInt8:=List.replicate 512 0
def newB (t : Tre) (i : Nat) : List UInt8:=if (nth t.ns i).us = true then QiV (nth t.ns i) i 0 1 else Qvg
def wrI (t : Tre) : Ixs:=⟨rutB t,Qp3 (newB t) (t.ns.length - 1),bmB t.ns⟩
structure Holds (t : Tre) (blk : Nat → List UInt8) : Prop where
 len : ∀ i,(blk i).length = 512
 us : ∀ i,1 ≤ i → i < t.ns.length → (nth t.ns i).us = true → (Xv (blk i) i).n = nth t.ns i ∧ (Xv (blk i) i).e = 0
 free : ∀ i,1 ≤ i → i < t.ns.length → (nth t.ns i).us = false → zer (blk i) = true
def ixOf (t : Tre) (blk : Nat → List UInt8) : Ixs:=⟨rutB t,Qp3 blk (t.ns.length - 1),bmB t.ns⟩
end Gx
namespace Go.Proofs
open Go Go.RowKit Gx
attribute [local irreducible] Go.Calls Gx.S Gx.O Gx.D Gx.OpP Gx.OpQ Gx.OpH
set_option maxRecDepth 20000
instance : TFn Tryz.prog 87:=⟨by kernel_rfl⟩
theorem Qdn : Xl Tryz.prog 60 = true:=by kernel_rfl
instance : TFn Tryz.prog 60:=⟨Qdn⟩
instance : TFn Tryz.prog 192:=⟨by kernel_rfl⟩
theorem QhB : Xl Tryz.prog 131 = true:=by kernel_rfl
instance : TFn Tryz.prog 131:=⟨QhB⟩
theorem Qbe : QM Tryz.prog 5 = some [.int .u8 0]:=by kernel_rfl
theorem Qko : Xl Tryz.prog 152 = true:=by kernel_rfl
theorem Qpq : Xl Tryz.prog 153 = true:=by kernel_rfl
theorem c87 (w : World) (n lo hi : Int) : Calls Tryz.prog 87 #[.int .i64 n,.int .i64 lo,.int .i64 hi] w fun en w'=>en = .returned (.bool (decide (lo ≤ n) && decide (n ≤ hi))) ∧ Below w.heap.size w w':=by
 refine eN3 Tryz.func87 Tryz.ntmps87 ?_
 refine Qaj ?_
 refine YS 4 10 14 rfl
  (fun hg1 _=>by
   refine aU6 ?_
   exact oJt 4 14)
  (fun hg3 _=>by
   refine aU3 ?_
   exact oJf 4 14) ?_
 refine aU2 ?_
 exact rT rfl rfl (fun w' h'=>⟨rfl,h'.below⟩)
theorem c205 (w : World) (n lo hi : Int) : Calls Tryz.prog 205 #[.int .i64 n,.int .i64 lo,.int .i64 hi] w fun en w'=>en = .returned (.bool (decide (lo ≤ n) && decide (n ≤ hi))) ∧ Below w.heap.size w w':=by
 refine eN3 Tryz.func205 Tryz.ntmps205 ?_
 refine Qaj ?_
 refine YS 4 10 14 rfl
  (fun hg1 _=>by
   refine aU6 ?_
   exact oJt 4 14)
  (fun hg3 _=>by
   refine aU3 ?_
   exact oJf 4 14) ?_
 refine aU2 ?_
 exact rT rfl rfl (fun w' h'=>⟨rfl,h'.below⟩)
theorem c60 (w : World) (ok : Bool) (e : Int) : Calls Tryz.prog 60 #[.bool ok,.int .i64 e] w fun en w'=>en = .returned (.int .i64 (cond ok 0 e)) ∧ Below w.heap.size w w':=by
 refine eN2 Tryz.func60 Tryz.ntmps60 ?_
 refine aU9 ?_
 refine sCd rfl (fun h1=>?_) fun h1=>?_
 ·refine aU4 ?_
  exact rT rfl rfl (fun w' h'=>⟨by simp_all [Xj],h'.below⟩)
 refine aU6 ?_
 exact rT rfl rfl (fun w' h'=>⟨by simp_all [Xj],h'.below⟩)
theorem Qtd (w : World) (ok : Bool) (e : Int) : Calls Tryz.prog 192 #[.bool ok,.int .i64 e] w fun en w'=>en = .returned (.int .i64 (cond ok 0 e)) ∧ Below w.heap.size w w':=by
 refine eN2 Tryz.func192 Tryz.ntmps192 ?_
 refine aU9 ?_
 refine sCd rfl (fun h1=>?_) fun h1=>?_
 ·refine aU4 ?_
  exact rT rfl rfl (fun w' h'=>⟨by simp_all [Xj],h'.below⟩)
 refine aU6 ?_
 exact rT rfl rfl (fun w' h'=>⟨by simp_all [Xj],h'.below⟩)
theorem c59 (w : World) (a : Option Addr) (cap : Nat) (es : List Int) (hs : Sl w [] a 1 es.length (fun i=>[.int .i64 (es.getD i 0)])) (hm : es.length ≤ 1000) : Calls Tryz.prog 59 #[.slice a es.length cap] w fun en w'=>en = .returned (.int .i64 (Yj es)) ∧ Below w.heap.size w w':=by
 refine eN1 Tryz.func59 Tryz.ntmps59 ?_
 refine Qes ?_
 refine Qt (α:=Nat) [2,4,7,8,9,10,11,12,13,14] (fun k=>[(7,.int .i64 (k : Int))]) (fun _=>_) (fun k=>k ≤ es.length ∧ Yj es = Yj (es.drop k)) (fun k=>es.length - k) 0 ⟨by omega,rfl⟩ aSx (fun w h=>h) (fun k hk=>?_)
 obtain ⟨hk1,hk2⟩:=hk
 refine aU5 ?_
 refine sCd rfl (fun h1=>?_) fun h1=>?_
 ·refine aU5 ?_
  refine o_p (Qc rfl rfl rfl Y3 _ rfl (by omega) (hs.some (by omega))) rfl ?_
  refine o_q (Qe rfl rfl QpZ (hs.rd (i:=k) (j:=0) (by omega) rfl)) rfl ?_
  refine aU7 ?_
  refine sCd rfl (fun h2=>?_) fun h2=>?_
  ·refine aU5 ?_
   exact rT rfl rfl (fun w' h'=>⟨by simp only [Xj];rw [hk2,YI (by omega),if_neg (by assumption)],h'.below⟩)
  refine aT4 ?_
  refine aU2 ?_
  exact QW (k+1) (by omega) ⟨by omega,by rw [hk2,YI (by omega),if_pos (by assumption)]⟩ aSx (fun w h=>h)
 refine Qo rfl ?_
 refine aU4 ?_
 exact rT rfl rfl (fun w' h'=>⟨by simp only [Xj];rw [hk2,QcM (by omega)],h'.below⟩)
theorem f59 {w0 w : World} {M : List Nat} {As As' : List HA} {b cap n : Nat} {t : TypeId} {tot : Nat} {cs : List Value} (h : HS w0 M As w) (hp : QD As (.blk b t tot cs) As') (hc : cs.all QgE = true) (hn : cs.length = n) (hl : n ≤ 1000) :
    Calls Tryz.prog 59 #[.slice (some ⟨b,0,none⟩) n cap] w fun en w'=>en = .returned (.int .i64 (Xt cs)) ∧ Below w.heap.size w w':=by
  subst hn;have:=c59 w (some ⟨b,0,none⟩) cap (cs.map Go.RowKit.intOf) (by simpa using h.sl_ints hp hc) (by simpa using hl);rw [QbY hc] at this
  simpa using this
theorem c203 (w : World) (a : Option Addr) (cap : Nat) (es : List Int) (hs : Sl w [] a 1 es.length (fun i=>[.int .i64 (es.getD i 0)])) (hm : es.length ≤ 1000) : Calls Tryz.prog 203 #[.slice a es.length cap] w fun en w'=>en = .returned (.int .i64 (Yj es)) ∧ Below w.heap.size w w':=by
 refine eN1 Tryz.func203 Tryz.ntmps203 ?_
 refine Qes ?_
 refine Qt (α:=Nat) [2,4,7,8,9,10,11,12,13,14] (fun k=>[(7,.int .i64 (k : Int))]) (fun _=>_) (fun k=>k ≤ es.length ∧ Yj es = Yj (es.drop k)) (fun k=>es.length - k) 0 ⟨by omega,rfl⟩ aSx (fun w h=>h) (fun k hk=>?_)
 obtain ⟨hk1,hk2⟩:=hk
 refine aU5 ?_
 refine sCd rfl (fun h1=>?_) fun h1=>?_
 ·refine aU5 ?_
  refine o_p (Qc rfl rfl rfl Y3 _ rfl (by omega) (hs.some (by omega))) rfl ?_
  refine o_q (Qe rfl rfl QpZ (hs.rd (i:=k) (j:=0) (by omega) rfl)) rfl ?_
  refine aU7 ?_
  refine sCd rfl (fun h2=>?_) fun h2=>?_
  ·refine aU5 ?_
   exact rT rfl rfl (fun w' h'=>⟨by simp only [Xj];rw [hk2,YI (by omega),if_neg (by assumption)],h'.below⟩)
  refine aT4 ?_
  refine aU2 ?_
  exact QW (k+1) (by omega) ⟨by omega,by rw [hk2,YI (by omega),if_pos (by assumption)]⟩ aSx (fun w h=>h)
 refine Qo rfl ?_
 refine aU4 ?_
 exact rT rfl rfl (fun w' h'=>⟨by simp only [Xj];rw [hk2,QcM (by omega)],h'.below⟩)
theorem f203 {w0 w : World} {M : List Nat} {As As' : List HA} {b cap n : Nat} {t : TypeId} {tot : Nat} {cs : List Value} (h : HS w0 M As w) (hp : QD As (.blk b t tot cs) As') (hc : cs.all QgE = true) (hn : cs.length = n) (hl : n ≤ 1000) :
    Calls Tryz.prog 203 #[.slice (some ⟨b,0,none⟩) n cap] w fun en w'=>en = .returned (.int .i64 (Xt cs)) ∧ Below w.heap.size w w':=by
  subst hn;have:=c203 w (some ⟨b,0,none⟩) cap (cs.map Go.RowKit.intOf) (by simpa using h.sl_ints hp hc) (by simpa using hl);rw [QbY hc] at this
  simpa using this
theorem c88 (w : World) (x : TEnt) (hk : x.key.length ≤ 1000000) (hv : x.val.length ≤ 1000000) : Calls Tryz.prog 88 #[.agg #[.string (bs x.key),.string (bs x.val)]] w fun en w'=>en = .returned (.bool (QdV x)) ∧ Below w.heap.size w w':=by
 refine eN1 Tryz.func88 Tryz.ntmps88 ?_
 refine aU2 ?_
 refine oBx fun b1 _=>?_
 refine aU6 ?_
 refine o_p (Qf rfl rfl Tryz.underlying9) rfl ?_
 refine aU2 ?_
 refine o_p (Qf rfl rfl Tryz.underlying9) rfl ?_
 refine aT ?_
 refine aU3 ?_
 exact rT rfl rfl (fun w' h'=>⟨by simp only [Xj,QdV];congr 2;congr 1;first | omega | (rw [eq_iff_iff];omega) | (apply decide_eq_decide.2;omega),h'.below⟩)
theorem QsW (w : World) (s : List UInt8) : Calls Tryz.prog 129 #[.string (bs s)] w fun en w'=>en = .returned (.int .i64 (cond (decide ((s.length : Int) = 512)) 0 10)) ∧ Below w.heap.size w w':=by
 refine eN1 Tryz.func129 Tryz.ntmps129 ?_
 refine aU7 ?_
 refine o_p (Qf rfl rfl Tryz.underlying9) rfl ?_
 refine aU ?_
 refine oCq rfl (fun w1 h1=>Qtd w1 _ _) ?_
 refine aU2 ?_
 exact rT rfl rfl (fun w' h'=>⟨rfl,h'.below⟩)
theorem QqI (w : World) (a : Option Addr) (m cap : Nat) (x : List UInt8) (hs : Vl w a (x.map bv)) (hm : x.length = m) (h2 : 2 ≤ m) (hc : m ≤ cap) (hc9 : cap ≤ 9223372036854775807) : Calls Tryz.prog 131 #[.slice a m cap] w fun en w'=>en = .returned (.int .u16 (at2 x 0)) ∧ Below w.heap.size w w':=by
 refine eN1 Tryz.func131 Tryz.ntmps131 ?_
 refine aU5 ?_
 refine QL [] QZ ?_
 refine dP 0 ?_
 refine dV 1 rfl (Qc rfl rfl rfl Qw 0 rfl (by omega) (hs.some (by rw [List.length_map];omega))) ?_
 refine dQ 2 [] rfl (Qe rfl rfl QdB ((hs.rd (i:=0) (ZR (l:=x) (k:=0) (by omega))))) ?_
 refine dV 3 rfl (Qm rfl rfl Zf X0) ?_
 refine dP 4 ?_
 refine dV 5 rfl (Qc rfl rfl rfl Qw 1 rfl (by omega) (hs.some (by rw [List.length_map];omega))) ?_
 refine dQ 6 [] rfl (Qe rfl rfl QdB ((hs.rd (i:=1) (ZR (l:=x) (k:=1) (by omega))))) ?_
 refine dV 7 rfl (Qm rfl rfl Zf X0) ?_
 refine dV 8 rfl (QeZ rfl rfl rfl (by decide) 8 rfl) ?_
 refine dP 9 ?_
 refine dP 10 ?_
 refine dNi ?_
 exact rT rfl rfl (fun w' h'=>⟨by rw [← Qii];rfl,h'.below⟩)
theorem c132 (w : World) (a : Option Addr) (m cap : Nat) (x : List UInt8) (hs : Vl w a (x.map bv)) (hm : x.length = m) (h2 : 4 ≤ m) (hc : m ≤ cap) (hc9 : cap ≤ 9223372036854775807) : Calls Tryz.prog 132 #[.slice a m cap] w fun en w'=>en = .returned (.int .u32 (at4 x 0)) ∧ Below w.heap.size w w':=by
 have hx2:=Qag x 0
 have hx3:=Qag x 2
 refine eN1 Tryz.func132 Tryz.ntmps132 ?_
 refine aU5 ?_
 refine QL [] QZ ?_
 refine dP 0 ?_
 refine dQ 1 [] rfl (QE rfl QhB rfl (fun w1 h1=>QqI w1 a m cap x (hs.later h1) hm (by omega) hc hc9)) ?_
 refine dV 2 rfl (Qm rfl rfl X0 YH) ?_
 refine dP 3 ?_
 refine dV 4 rfl (Qs _ _ 2 m rfl rfl Qw ⟨_,_,rfl,rfl⟩ rfl (by omega) (by omega)) ?_
 refine dQ 5 [] rfl (QE rfl QhB rfl (fun w1 h1=>QqI w1 (XC a cap 2 1) (m - 2) (cap - 2) (x.drop 2) (by rw [List.map_drop];exact (hs.later h1).drop (by rw [List.length_map];omega) (by omega)) (by rw [List.length_drop];omega) (by omega) (by omega) (by omega))) ?_
 refine dV 6 rfl (Qm rfl rfl X0 YH) ?_
 refine dV 7 rfl (QeZ rfl rfl rfl (by decide) 16 rfl) ?_
 refine dP 8 ?_
 refine dP 9 ?_
 refine dNi ?_
 exact rT rfl rfl (fun w' h'=>⟨by have h9:=Qja (at2 x 0) (at2 (x.drop 2) 0) (Qag _ _) (Qag _ _);rw [Qau] at h9 ⊢;exact (congrArg Ending.returned h9),h'.below⟩)
theorem Qta (w : World) (a : Option Addr) (cap : Nat) (l : List UInt8) (n : Int) (hw : HS w (fps [.byz a cap (l)]) [.byz a cap (l)] w) (hn : 0 ≤ n ∧ n < 65536) (hl : l.length ≤ 1000000) : Calls Tryz.prog 152 #[.slice a l.length cap,.int .u16 n] w fun en w'=>∃ g : Option Addr × Nat,en = .returned (.slice g.1 (l ++ le2 n).length g.2) ∧ QbC a cap g (l ++ le2 n).length ∧ HS w (fps [.byz a cap (l)]) [.byz g.1 g.2 (l ++ le2 n)] w':=by
 refine eW2 Tryz.func152 Tryz.ntmps152 hw ?_
 refine aU8 ?_
 refine o_p (Qm rfl rfl X0 Zf) rfl ?_
 refine Qk (YO _) ?_
 refine aU ?_
 refine o_p (QcQ rfl rfl rfl (by decide) 8 rfl) rfl ?_
 refine o_p (Qm rfl rfl X0 Zf) rfl ?_
 refine Qk (show _ = bv (by8 (n / 256)) from YO _) ?_
 refine o_h (Ql (cs:=[_,_]) rfl rfl Qw Qbe rfl rfl rfl) rfl (fun b1 _=>?_)
 refine o_h (Qaw [by8 n,by8 (n / 256)] rfl rfl rfl Qw Tryz.underlying139 Qbe aPk (Xe aPk) (by simp only [List.length_append,List.length_cons,List.length_nil,le2,le4] <;> omega) (by simp only [maxLen,List.length_append,List.length_cons,List.length_nil,le2,le4] <;> omega)) rfl (fun ⟨b2,c3⟩ h4=>?_)
 refine aU2 ?_
 exact rT rfl rfl (fun w' h'=>⟨(b2,c3),rfl,h4,h'.ent aEt⟩)
theorem Qvr (w : World) (a : Option Addr) (cap : Nat) (l : List UInt8) (n : Int) (hw : HS w (fps [.byz a cap (l)]) [.byz a cap (l)] w) (hn : 0 ≤ n) (hl : l.length ≤ 1000000) : Calls Tryz.prog 152 #[.slice a l.length cap,.int .u16 (n % 65536)] w fun en w'=>∃ g : Option Addr × Nat,en = .returned (.slice g.1 (l ++ le2 n).length g.2) ∧ QbC a cap g (l ++ le2 n).length ∧ HS w (fps [.byz a cap (l)]) [.byz g.1 g.2 (l ++ le2 n)] w':=by
  have h9:=Qta w a cap l (n % 65536) hw (by omega) hl;rw [QoT] at h9;exact h9
theorem c153 (w : World) (a : Option Addr) (cap : Nat) (l : List UInt8) (n : Int) (hw : HS w (fps [.byz a cap (l)]) [.byz a cap (l)] w) (hn : 0 ≤ n ∧ n < 4294967296) (hl : l.length ≤ 1000000) : Calls Tryz.prog 153 #[.slice a l.length cap,.int .u32 n] w fun en w'=>∃ g : Option Addr × Nat,en = .returned (.slice g.1 (l ++ le4 n).length g.2) ∧ QbC a cap g (l ++ le4 n).length ∧ HS w (fps [.byz a cap (l)]) [.byz g.1 g.2 (l ++ le4 n)] w':=by
 have he9 : l ++ le4 n = (l ++ le2 n) ++ [by8 (n / 65536),by8 (n / 16777216)]:=by rw [Qtz,List.append_assoc]
 refine eW2 Tryz.func153 Tryz.ntmps153 hw ?_
 refine aU8 ?_
 refine o_p (Qm rfl rfl YH X0) rfl ?_
 refine Qk (show _ = Value.int .u16 (n % 65536) from by rw [Qjl]) ?_
 refine o_h (Xg (Cs:=[.byz a cap (l)]) rfl Qko rfl aPs (fun w1 h1 hf=>Qvr w1 a cap l n hf (by omega) hl)) rfl (fun ⟨b1,c2⟩ hz3=>?_)
 refine aU ?_
 refine o_p (QcQ rfl rfl rfl (by decide) 16 rfl) rfl ?_
 refine o_p (Qm rfl rfl YH Zf) rfl ?_
 refine Qk (show _ = bv (by8 (n / 65536)) from YO _) ?_
 refine aU ?_
 refine o_p (QcQ rfl rfl rfl (by decide) 24 rfl) rfl ?_
 refine o_p (Qm rfl rfl YH Zf) rfl ?_
 refine Qk (show _ = bv (by8 (n / 16777216)) from YO _) ?_
 refine o_h (Ql (cs:=[_,_]) rfl rfl Qw Qbe rfl rfl rfl) rfl (fun b4 _=>?_)
 refine o_h (Qaw (l:=l ++ le2 n) [by8 (n / 65536),by8 (n / 16777216)] rfl rfl rfl Qw Tryz.underlying139 Qbe aPk (Xe aPk) (by simp only [List.length_append,List.length_cons,List.length_nil,le2,le4] <;> omega) (by simp only [maxLen,List.length_append,List.length_cons,List.length_nil,le2,le4] <;> omega)) rfl (fun ⟨b5,c6⟩ h7=>?_)
 refine aU2 ?_
 exact rT rfl rfl (fun w' h'=>⟨(b5,c6),by rw [he9];rfl,by rw [he9];exact (hz3).trans h7 (by simp only [List.length_append];omega),by rw [he9];exact h'.ent aEt⟩)
theorem c154 (w : World) (a : Option Addr) (cap : Nat) (l : List UInt8) (hw : HS w (fps [.byz a cap (l)]) [.byz a cap (l)] w) (hl : l.length ≤ 1000000) : Calls Tryz.prog 154 #[.slice a l.length cap] w fun en w'=>∃ g : Option Addr × Nat,en = .returned (.slice g.1 (l ++ List.replicate (QS l.length - l.length) 0).length g.2) ∧ QbC a cap g (l ++ List.replicate (QS l.length - l.length) 0).length ∧ HS w (fps [.byz a cap (l)]) [.byz g.1 g.2 (l ++ List.replicate (QS l.length - l.length) 0)] w':=by
 have hp8:=ZC l.length
 have hm8 : QS l.length % 8 = 0:=by unfold QS;omega
 refine eW1 Tryz.func154 Tryz.ntmps154 hw ?_
 refine aU6 ?_
 refine Qt (α:=Nat × Option Addr × Nat) [0,3,4,5,6,7,8,9] (fun x=>[(0,.slice x.2.1 (l ++ List.replicate x.1 0).length x.2.2)]) (fun x=>HS w (fps [.byz a cap (l)]) [.byz x.2.1 x.2.2 (l ++ List.replicate x.1 0)]) (fun x=>x.1 ≤ (QS l.length - l.length) ∧ QbC a cap (x.2.1,x.2.2) (l ++ List.replicate x.1 0).length) (fun x=>(QS l.length - l.length) - x.1) (0,a,cap) ⟨Nat.zero_le _,fun _=>⟨rfl,rfl⟩⟩ (by simp only [List.replicate_zero,List.append_nil];exact aSx) (fun w h=>(by simp only [List.replicate_zero,List.append_nil];exact h.ent aEt)) (fun ⟨k,a2,c2⟩ hk1=>?_)
 dsimp only
 simp only [] at hk1
 obtain ⟨hk2,hk3⟩:=hk1
 have hlk : (l ++ List.replicate k 0).length = l.length + k:=by simp
 refine aU5 ?_
 refine o_p (Zl rfl rfl rfl (by omega) (by omega)) rfl ?_
 refine aU2 ?_
 refine sCd rfl (fun h1=>?_) fun h1=>?_
 ·have hk : k < (QS l.length - l.length):=by have hq:=h1;rw [hlk] at hq;omega
  have hrep : l ++ List.replicate (k + 1) 0 = (l ++ List.replicate k 0) ++ [0]:=by rw [List.replicate_succ',List.append_assoc]
  refine aU4 ?_
  refine o_h (Ql (cs:=[_]) rfl rfl Qw Qbe rfl rfl rfl) rfl (fun b2 _=>?_)
  refine o_h (Qaw (l:=l ++ List.replicate k 0) [0] rfl rfl rfl Qw Tryz.underlying139 Qbe aPk (Xe aPk) (by simp only [List.length_replicate,List.length_append,List.length_cons,List.length_nil,le2,le4] <;> omega) (by simp only [maxLen,List.length_replicate,List.length_append,List.length_cons,List.length_nil,le2,le4] <;> omega)) rfl (fun ⟨b3,c4⟩ h5=>?_)
  refine aU3 ?_
  exact QW (k + 1,b3,c4) (by (try simp only []);omega) (by simp only [];rw [hrep];exact ⟨by omega,hk3.trans h5 (by simp only [List.length_append];omega)⟩) (by dsimp only;rw [hrep];exact aSx) (fun w h=>by dsimp only;rw [hrep];exact h.ent aEt)
 have hk : k = (QS l.length - l.length):=by have hq:=h1;rw [hlk] at hq;omega
 subst hk
 refine Qo rfl ?_
 refine aU5 ?_
 exact rT rfl rfl (fun w' h'=>⟨(a2,c2),rfl,hk3,h'.ent aEt⟩)
theorem c156 (w : World) (a : Option Addr) (cap : Nat) (l : List UInt8) (c : Int) (hw : HS w (fps [.byz a cap (l)]) [.byz a cap (l)] w) (hc9 : 0 ≤ c ∧ c < 4294967296) (hl : l.length ≤ 900000) : Calls Tryz.prog 156 #[.slice a l.length cap,.int .i64 c] w fun en w'=>∃ g : Option Addr × Nat,en = .returned (.slice g.1 (l ++ Qeq c).length g.2) ∧ QbC a cap g (l ++ Qeq c).length ∧ HS w (fps [.byz a cap (l)]) [.byz g.1 g.2 (l ++ Qeq c)] w':=by
 have he9 : l ++ Qeq c = ((l ++ le2 8) ++ [0,0]) ++ le4 c:=by simp only [Qeq,List.append_assoc]
 have l2 : (l ++ le2 8).length = l.length + 2:=by rw [List.length_append];rfl
 have l3 : ((l ++ le2 8) ++ [0,0]).length = l.length + 4:=by rw [List.length_append,l2];rfl
 refine eW2 Tryz.func156 Tryz.ntmps156 hw ?_
 refine aU7 ?_
 refine o_h (Xg (Cs:=[.byz a cap (l)]) rfl Qko rfl aPs (fun w1 h1 hf=>Qta w1 a cap l 8 hf (by omega) (by omega))) rfl (fun ⟨b1,c2⟩ hz3=>?_)
 refine aU5 ?_
 refine o_h (Ql (cs:=[_,_]) rfl rfl Qw Qbe rfl rfl rfl) rfl (fun b4 _=>?_)
 refine o_h (Qaw (l:=l ++ le2 8) [0,0] rfl rfl rfl Qw Tryz.underlying139 Qbe aPk (Xe aPk) (by simp only [List.length_append,List.length_cons,List.length_nil,le2,le4] <;> omega) (by simp only [maxLen,List.length_append,List.length_cons,List.length_nil,le2,le4] <;> omega)) rfl (fun ⟨b5,c6⟩ h7=>?_)
 refine aU6 ?_
 refine o_p (Qm rfl rfl YY YH) rfl ?_
 refine Qk (show _ = Value.int .u32 c from by rw [Qea];congr 1;omega) ?_
 refine o_h (Xg (Cs:=[.byz b5 c6 ((l ++ le2 8) ++ [0,0])]) rfl Qpq rfl aPs (fun w1 h1 hf=>c153 w1 b5 c6 ((l ++ le2 8) ++ [0,0]) c hf hc9 (by omega))) rfl (fun ⟨b8,c9⟩ hz10=>?_)
 refine aU2 ?_
 exact rT rfl rfl (fun w' h'=>⟨(b8,c9),by rw [he9];rfl,by rw [he9];exact ((hz3).trans h7 (by simp only [List.length_append];omega)).trans hz10 (by simp only [List.length_append];omega),by rw [he9];exact h'.ent aEt⟩)
end Go.Proofs
namespace Gx
open Go Go.RowKit
theorem Qpm {s : List UInt8} {k : Nat} (h : k < s.length) : zer (s.take (k + 1)) = (zer (s.take k) && decide (s.getD k 0 = 0)):=by
 unfold zer;rw [List.take_add_one,List.getElem?_eq_getElem h,List.all_append,List.getD_eq_getElem?_getD,List.getElem?_eq_getElem h];simp
theorem QtS {s : List UInt8} {k : Nat} (h : k < s.length) (h2 : ¬ s.getD k 0 = 0) : zer s = false:=by
 cases hb : zer s with
 | false=>rfl
 | true=>
  unfold zer at hb;have:=List.all_eq_true.1 hb _ (List.getElem_mem h)
  grind
theorem QiA {u : UInt8} : (u.toNat : Int) = 0 ↔ u = 0:=by
 constructor
 ·intro h;exact UInt8.toNat_inj.1 (by have : (0 : UInt8).toNat = 0:=rfl;omega)
 simp_all
def ZU (x : TEnt) (c : Int) : Int:=if 1 ≤ x.key.length ∧ x.key.length ≤ 40 then if x.key.length + x.val.length ≤ 88 then if 0 ≤ c ∧ c ≤ 120 then 0 else 2 else 8 else 3
structure NdP (n : Nd) : Prop where
 el : n.es.length ≤ 1000
 es : ∀ x ∈ n.es,x.key.length ≤ 300 ∧ x.val.length ≤ 300
 cl : n.cs.length = 0 ∨ n.cs.length = n.es.length + 1
 cs : ∀ c ∈ n.cs,0 ≤ c ∧ c < 4294967296
theorem NdW.ndp {n : Nd} (h : NdW n) (hl : n.es.length ≤ 1000) : NdP n:=
 ⟨hl,fun x hx=>by have:=h.es x hx;simp only [YB,decide_eq_true_eq] at this;omega,h.cl,fun c hc=>by have:=h.cs c hc;omega⟩
theorem NdP.kid {n : Nd} (h : NdP n) {i : Nat} (hi : i ≤ n.es.length) : 0 ≤ YZ n.cs i ∧ YZ n.cs i < 4294967296:=by
 unfold YZ;split
 ·omega
 ·have hl : i < n.cs.length:=by have:=h.cl;omega
  rw [List.getD_eq_getElem?_getD,List.getElem?_eq_getElem hl];exact h.cs _ (List.getElem_mem hl)
theorem QrB {n m : Nat} (h : n ≤ 8 * m) : QS n ≤ 8 * m:=by unfold QS;omega
theorem QpK {n m : Nat} (h : n % 8 = 0) : QS (n + m) = n + QS m:=by unfold QS;omega
theorem NdP.ents {n : Nd} (h : NdP n) : ∀ k,k ≤ n.es.length → (XZ n k).length ≤ 608 * k ∧ (XZ n k).length % 8 = 0
 | 0,_=>by simp [XZ]
 | k + 1,hk=>by
  have ih:=h.ents k (by omega);have hx:=h.es _ (QC (show k < n.es.length by omega));have hsz : (nth n.es k).sz = 8 + (nth n.es k).key.length + (nth n.es k).val.length:=rfl
  grind [QrB,nth,QS,XZ,QoQ]
def conP (n : Nd) (k : Nat) : List UInt8:=if k ≤ n.es.length then XZ n k else YN n
end Gx
namespace Go.Proofs
open Go Go.RowKit Gx
attribute [local irreducible] Go.Calls Gx.S Gx.O Gx.D Gx.OpP Gx.OpQ Gx.OpH
set_option maxRecDepth 20000
instance : TFn Tryz.prog 178:=⟨by kernel_rfl⟩
theorem QnW : Xl Tryz.prog 121 = true:=by kernel_rfl
instance : TFn Tryz.prog 121:=⟨QnW⟩
theorem Qr7 : Xl Tryz.prog 95 = true:=by kernel_rfl
instance : TFn Tryz.prog 95:=⟨Qr7⟩
instance : TFn Tryz.prog 94:=⟨by kernel_rfl⟩
instance : TFn Tryz.prog 86:=⟨by kernel_rfl⟩
theorem c94 (w : World) (n : Int) (c : Nat) (hn : 0 ≤ n ∧ n ≤ 9223372036854775807) (hc : c ≤ 1000) : Calls Tryz.prog 94 #[.int .i64 n,.int .i64 (c : Int)] w fun en w'=>en = .returned (.string (bs (QkG c n))) ∧ Below w.heap.size w w':=by
 refine eN2 Tryz.func94 Tryz.ntmps94 ?_
 refine Qh8 ?_
 refine Qt (α:=Nat × Int × List UInt8 × Option Addr × Nat) [0,5,6,7,8,9,10,11,12,13,14,15,16,17,18,19] (fun x=>[(6,.int .i64 (x.1 : Int)),(0,.int .i64 x.2.1),(5,.slice x.2.2.2.1 x.2.2.1.length x.2.2.2.2)]) (fun x=>HS w [] [.own (.slice x.2.2.2.1 x.2.2.1.length x.2.2.2.2) 5 1 (x.2.2.1.length) ((x.2.2.1).map bv)]) (fun x=>x.1 ≤ c ∧ x.2.2.1.length = x.1 ∧ (0 ≤ x.2.1 ∧ x.2.1 ≤ 9223372036854775807) ∧ QkG c n = x.2.2.1 ++ QkG (c - x.1) x.2.1) (fun x=>c - x.1) (0,n,[],none,0) ⟨Nat.zero_le _,rfl,hn,rfl⟩ aSx (fun w h=>(h.own_nil 5 1).ent aEt) (fun ⟨k,m,p,ga,gc⟩ hx=>?_)
 dsimp only
 obtain ⟨hk1,hpl,hm,hst⟩:=hx
 simp only [] at hk1 hpl hm hst
 refine aU7 ?_
 refine sCd rfl (fun h1=>?_) fun h1=>?_
 ·have hk : k < c:=by omega
  refine aU7 ?_
  refine o_p (Zl rfl rfl rfl (by omega) (by omega)) rfl ?_
  refine o_p (Qm rfl rfl YY Zf) rfl ?_
  refine Qk (show _ = bv (by8 m) from (YO _).trans (by rw [Qct (show m % 256 % 256 = m % 256 by omega)])) ?_
  refine o_h (Ql (cs:=[_]) rfl rfl Qw Qbe rfl rfl rfl) rfl (fun b2 _=>?_)
  refine o_h (Xx _ rfl rfl rfl Qw Tryz.underlying139 Qbe rfl aPk (Xe aPk) rfl (by intro u hu;simp only [List.mem_cons,List.mem_nil_iff,or_false] at hu;subst hu;rfl) (by omega) (by simp only [maxLen];omega)) rfl (fun b3 _=>?_)
  refine aU4 ?_
  refine o_p (XD rfl rfl rfl (by omega) (by omega) (by omega)) rfl ?_
  refine aT6 ?_
  refine aU2 ?_
  exact QW (k + 1,m / 256,p ++ [by8 m],b3.1,b3.2) (by (try simp only []);omega) ⟨by (try simp only []);omega,by simp [hpl],by (try simp only []);omega,by simp only [];rw [hst,show c - k = (c - (k + 1)) + 1 by omega,QkG,List.append_assoc];rfl⟩ (by dsimp only;rw [List.length_append];exact aSx) (fun w h=>by dsimp only;rw [List.length_append,List.map_append];exact h.ent aEt)
 obtain rfl : k = c:=by omega
 rw [Nat.sub_self,QkG,List.append_nil] at hst
 refine Qo rfl ?_
 refine aU3 ?_
 refine o_q (Qho rfl rfl Tryz.underlying139 Tryz.underlying9 Tryz.underlying5 aPk (QaH _)) rfl ?_
 refine aU2 ?_
 exact rT rfl rfl (fun w' h'=>⟨by rw [ZK,hst];rfl,h'.below⟩)
theorem QlK (c : Nat) : Xw [.int .u8 0] (c * 1) = (List.replicate c (0 : UInt8)).map bv:=by
  rw [Nat.mul_one,List.map_replicate];exact Qc5 _ _
theorem QpB {m : Int} (h : 0 ≤ m ∧ m ≤ 1000000000000) : Value.int .i64 (IntKind.i64.wrap ((-m).tdiv 8)) = Value.int .i64 (-(m / 8)):=by
  rw [Int.neg_tdiv,Int.tdiv_eq_ediv_of_nonneg h.1];exact Qet (by omega) (by omega)
theorem Qox {m : Int} (h : 0 ≤ m) : (-m).tmod 8 = -(m % 8):=by rw [Int.neg_tmod,Int.tmod_eq_emod_of_nonneg h]
theorem c86 (w : World) (c : Nat) (hc : c ≤ 100000) : Calls Tryz.prog 86 #[.int .i64 (c : Int)] w fun en w'=>en = .returned (.string (bs (List.replicate c 0))) ∧ Below w.heap.size w w':=by
 refine eN1 Tryz.func86 Tryz.ntmps86 ?_
 refine aU7 ?_
 refine o_p (QpO rfl rfl rfl ) rfl ?_
 refine o_p (QkH rfl rfl rfl ) rfl ?_
 refine Qk (show _ = Value.int .i64 (c : Int) from congrArg (Value.int .i64) (by split <;> split <;> omega)) ?_
 refine o_h (Qkc (n:=c) rfl rfl rfl Qw Qbe (by omega) (by omega)) rfl (fun b1 _=>?_)
 refine o_q (Yw rfl rfl Tryz.underlying139 Tryz.underlying9 Tryz.underlying5 aPk (by simp [Qx]) (by intro v hv;rw [QlK] at hv;exact QaH _ v hv)) rfl ?_
 refine aU2 ?_
 exact rT rfl rfl (fun w' h'=>⟨by rw [QlK,ZK];rfl,h'.below⟩)
theorem c53 (w : World) (s : List UInt8) (hm : s.length ≤ 1000000000) : Calls Tryz.prog 53 #[.string (bs s)] w fun en w'=>en = .returned (.bool (zer s)) ∧ Below w.heap.size w w':=by
 refine eN1 Tryz.func53 Tryz.ntmps53 ?_
 refine Qaj ?_
 refine Qt (α:=Nat) [2,3,4,5,6,7,8,9,10,11,12,13] (fun k=>[(3,.int .i64 (k : Int))]) (fun _=>_) (fun k=>k ≤ s.length ∧ zer (s.take k) = true) (fun k=>s.length - k) 0 ⟨Nat.zero_le _,rfl⟩ aSx (fun w h=>h) (fun k hkk=>?_)
 obtain ⟨hk1,hk2⟩:=hkk
 refine aU5 ?_
 refine o_p (Qf rfl rfl Tryz.underlying9) rfl ?_
 refine aU2 ?_
 refine sCd rfl (fun h1=>?_) fun h1=>?_
 ·have hk : k < s.length:=by omega
  have hst:=Qpm hk
  refine aU7 ?_
  refine o_p (Q1 rfl rfl rfl Tryz.underlying9 (k) (by omega) (by omega)) rfl ?_
  refine aU2 ?_
  refine sCd rfl (fun h2=>?_) fun h2=>?_
  ·have hz : ¬ s.getD k 0 = 0:=by have hq:=h2;intro h9;exact hq (QiA.2 h9)
   have hf:=QtS hk hz
   refine aU4 ?_
   exact rT rfl rfl (fun w' h'=>⟨by rw [hf];rfl,h'.below⟩)
  have hz : s.getD k 0 = 0:=QiA.1 (by have hq:=h2;simpa using hq)
  refine aT5 ?_
  refine aU2 ?_
  exact QW (k + 1) (by omega) ⟨by omega,by rw [hst,hk2,hz];rfl⟩ aSx (fun w h=>h)
 obtain rfl : k = s.length:=by omega
 rw [List.take_length] at hk2
 refine Qo rfl ?_
 refine aU4 ?_
 exact rT rfl rfl (fun w' h'=>⟨by rw [hk2];rfl,h'.below⟩)
theorem c54 (w : World) (l : List UInt8) (p : Nat) (d : List UInt8) (hp : p + d.length ≤ l.length) (hl : l.length ≤ 1000000000) : Calls Tryz.prog 54 #[.string (bs l),.int .i64 (p : Int),.string (bs d)] w fun en w'=>en = .returned (.string (bs (Qz l p d))) ∧ Below w.heap.size w w':=by
 refine eN3 Tryz.func54 Tryz.ntmps54 ?_
 refine aU5 ?_
 refine QL [] QZ ?_
 refine dP 0 ?_
 refine dP 1 ?_
 refine dV 2 rfl (YR p rfl rfl rfl Tryz.underlying9 rfl (by omega)) ?_
 refine dP 3 ?_
 refine dV 4 rfl (QbQ rfl rfl rfl (by (try simp only [List.length_append,List.length_cons,List.length_nil,List.length_replicate,List.length_take,List.length_drop]);omega)) ?_
 refine dP 5 ?_
 refine dP 6 ?_
 refine dP 7 ?_
 refine dV 8 rfl (Qf rfl rfl Tryz.underlying9) ?_
 refine dP 9 ?_
 try refine dWr ?_
 refine dV 10 rfl (Yv (p + d.length) rfl rfl rfl Tryz.underlying9 (by omega) (by omega)) ?_
 refine dV 11 rfl (QbQ rfl rfl rfl (by (try simp only [List.length_append,List.length_cons,List.length_nil,List.length_replicate,List.length_take,List.length_drop]);omega)) ?_
 refine dP 12 ?_
 refine dNi ?_
 exact rT rfl rfl (fun w' h'=>⟨by rfl,h'.below⟩)
theorem c178 (w : World) (m : Int) (hm : 0 ≤ m ∧ m ≤ 1000000000000) : Calls Tryz.prog 178 #[.int .i64 (-m),.int .i64 8] w fun en w'=>en = .returned (.int .i64 (-((m + 7) / 8))) ∧ Below w.heap.size w w':=by
 refine eN2 Tryz.func178 Tryz.ntmps178 ?_
 refine aU8 ?_
 refine o_p (Qp0 rfl rfl rfl (by decide)) rfl ?_
 refine Qk (QpB hm) ?_
 refine aU7 ?_
 refine o_p (QlM rfl rfl rfl (by decide)) rfl ?_
 refine Qk (show _ = Value.int .i64 (-(m % 8)) from by rw [Qox hm.1]) ?_
 refine aU2 ?_
 refine sCd rfl (fun h1=>?_) fun h1=>?_
 ·refine aT3 ?_
  refine aU7 ?_
  exact rT rfl rfl (fun w' h'=>⟨by simp only [Xj];congr 2;omega,h'.below⟩)
 refine aU6 ?_
 exact rT rfl rfl (fun w' h'=>⟨by simp only [Xj];congr 2;omega,h'.below⟩)
theorem c121 (w : World) (m : Int) (hm : 0 ≤ m ∧ m ≤ 1000000000000) : Calls Tryz.prog 121 #[.int .i64 m,.int .i64 8] w fun en w'=>en = .returned (.int .i64 ((m + 7) / 8)) ∧ Below w.heap.size w w':=by
 refine eN2 Tryz.func121 Tryz.ntmps121 ?_
 refine aT8 ?_
 refine Qk (show _ = Value.int .i64 (-m) from by rw [Int.zero_sub]) ?_
 refine aU ?_
 refine oCq rfl (fun w1 h1=>c178 w1 m hm) ?_
 refine aT ?_
 refine Qk (show _ = Value.int .i64 ((m + 7) / 8) from by congr 1;omega) ?_
 refine aU2 ?_
 exact rT rfl rfl (fun w' h'=>⟨by rfl,h'.below⟩)
theorem c95 (w : World) (m : Nat) (hm : m ≤ 1000000000) : Calls Tryz.prog 95 #[.int .i64 (m : Int)] w fun en w'=>en = .returned (.int .i64 ((QS m : Nat) : Int)) ∧ Below w.heap.size w w':=by
 refine eN1 Tryz.func95 Tryz.ntmps95 ?_
 refine aU7 ?_
 refine oCq rfl (fun w1 h1=>c121 w1 (m : Int) (by omega)) ?_
 refine aT ?_
 refine aU2 ?_
 exact rT rfl rfl (fun w' h'=>⟨by simp only [Xj,QS];congr 2,h'.below⟩)
theorem c29 (w : World) (x : TEnt) (c : Int) (hk : x.key.length ≤ 1000000) (hv : x.val.length ≤ 1000000) : Calls Tryz.prog 29 #[.agg #[.string (bs x.key),.string (bs x.val)],.int .i64 c] w fun en w'=>en = .returned (.int .i64 (ZU x c)) ∧ Below w.heap.size w w':=by
 refine eN2 Tryz.func29 Tryz.ntmps29 ?_
 refine aU2 ?_
 refine oBx fun b1 _=>?_
 refine aU7 ?_
 refine o_p (Qf rfl rfl Tryz.underlying9) rfl ?_
 refine oCq rfl (fun w1 h1=>c40 w1 _ _ _) ?_
 refine aU2 ?_
 refine sCd rfl (fun h2=>?_) fun h2=>?_
 ·have hz : ZU x c = 3:=by have hq:=h2;unfold ZU;rw [if_neg (by first | omega | (simp at hq;omega))]
  refine aU4 ?_
  exact rT rfl rfl (fun w' h'=>⟨by rw [hz];rfl,h'.below⟩)
 have hk1 : 1 ≤ x.key.length ∧ x.key.length ≤ 40:=by have hq:=h2;first | omega | (simp at hq;omega)
 refine aU6 ?_
 refine o_p (Qf rfl rfl Tryz.underlying9) rfl ?_
 refine aU2 ?_
 refine o_p (Qf rfl rfl Tryz.underlying9) rfl ?_
 refine aT ?_
 refine aU2 ?_
 refine sCd rfl (fun h3=>?_) fun h3=>?_
 ·have hz : ZU x c = 8:=by have hq:=h3;unfold ZU;rw [if_pos hk1,if_neg (by omega)]
  refine aU4 ?_
  exact rT rfl rfl (fun w' h'=>⟨by rw [hz];rfl,h'.below⟩)
 have hk2 : x.key.length + x.val.length ≤ 88:=by have hq:=h3;omega
 refine aU5 ?_
 refine oCq rfl (fun w1 h1=>c40 w1 _ _ _) ?_
 refine aU2 ?_
 refine sCd rfl (fun h4=>?_) fun h4=>?_
 ·have hz : ZU x c = 2:=by have hq:=h4;unfold ZU;rw [if_pos hk1,if_pos hk2,if_neg (by first | omega | (simp at hq;omega))]
  refine aU4 ?_
  exact rT rfl rfl (fun w' h'=>⟨by rw [hz];rfl,h'.below⟩)
 have hz : ZU x c = 0:=by have hq:=h4;unfold ZU;rw [if_pos hk1,if_pos hk2,if_pos (by first | omega | (simp at hq;omega))]
 refine aU5 ?_
 exact rT rfl rfl (fun w' h'=>⟨by rw [hz];rfl,h'.below⟩)
theorem Qun : Xl Tryz.prog 154 = true:=by kernel_rfl
instance : TFn Tryz.prog 88:=⟨by kernel_rfl⟩
theorem Qjh : Xl Tryz.prog 59 = true:=by kernel_rfl
instance : TFn Tryz.prog 59:=⟨Qjh⟩
theorem Qsx : Xl Tryz.prog 89 = true:=by kernel_rfl
theorem c89 (w : World) (a : Option Addr) (cap : Nat) (l : List UInt8) (x : TEnt) (c : Int) (hw : HS w (fps [.byz a cap (l)]) [.byz a cap (l)] w) (hl : l.length ≤ 900000) (hl8 : l.length % 8 = 0) (hk : x.key.length ≤ 300) (hv : x.val.length ≤ 300) (hc : 0 ≤ c ∧ c < 4294967296) : Calls Tryz.prog 89 #[.slice a l.length cap,.agg #[.string (bs x.key),.string (bs x.val)],.int .i64 c] w fun en w'=>∃ g : Option Addr × Nat,en = .returned (.slice g.1 (l ++ Qcu x c).length g.2) ∧ QbC a cap g (l ++ Qcu x c).length ∧ HS w (fps [.byz a cap (l)]) [.byz g.1 g.2 (l ++ Qcu x c)] w':=by
 have hsz : x.sz = 8 + x.key.length + x.val.length:=rfl
 have hp8:=ZC x.sz
 have l1 : (l ++ le2 ((QS x.sz : Nat) : Int)).length = l.length + 2:=by rw [List.length_append];rfl
 have l2 : ((l ++ le2 ((QS x.sz : Nat) : Int)) ++ [by8 x.key.length,by8 x.val.length]).length = l.length + 4:=by rw [List.length_append,l1];rfl
 have l3 : (((l ++ le2 ((QS x.sz : Nat) : Int)) ++ [by8 x.key.length,by8 x.val.length]) ++ le4 c).length = l.length + 8:=by rw [List.length_append,l2];rfl
 have l4 : ((((l ++ le2 ((QS x.sz : Nat) : Int)) ++ [by8 x.key.length,by8 x.val.length]) ++ le4 c) ++ x.key).length = l.length + 8 + x.key.length:=by rw [List.length_append,l3]
 have l5 : (((((l ++ le2 ((QS x.sz : Nat) : Int)) ++ [by8 x.key.length,by8 x.val.length]) ++ le4 c) ++ x.key) ++ x.val).length = l.length + x.sz:=by rw [List.length_append,l4];omega
 have hpd : QS (((((l ++ le2 ((QS x.sz : Nat) : Int)) ++ [by8 x.key.length,by8 x.val.length]) ++ le4 c) ++ x.key) ++ x.val).length - (((((l ++ le2 ((QS x.sz : Nat) : Int)) ++ [by8 x.key.length,by8 x.val.length]) ++ le4 c) ++ x.key) ++ x.val).length = QS x.sz - x.sz:=by rw [l5,QpK hl8];omega
 have he9 : l ++ Qcu x c = (((((l ++ le2 ((QS x.sz : Nat) : Int)) ++ [by8 x.key.length,by8 x.val.length]) ++ le4 c) ++ x.key) ++ x.val) ++ List.replicate (QS (((((l ++ le2 ((QS x.sz : Nat) : Int)) ++ [by8 x.key.length,by8 x.val.length]) ++ le4 c) ++ x.key) ++ x.val).length - (((((l ++ le2 ((QS x.sz : Nat) : Int)) ++ [by8 x.key.length,by8 x.val.length]) ++ le4 c) ++ x.key) ++ x.val).length) 0:=by rw [hpd];simp only [Qcu,List.append_assoc]
 refine eW3 Tryz.func89 Tryz.ntmps89 hw ?_
 refine aU2 ?_
 refine oBx fun b1 _=>?_
 refine aU6 ?_
 refine o_p (Qf rfl rfl Tryz.underlying9) rfl ?_
 refine aT ?_
 refine aU2 ?_
 refine o_p (Qf rfl rfl Tryz.underlying9) rfl ?_
 refine aT ?_
 refine aT ?_
 refine aT ?_
 refine o_p (XD rfl rfl rfl (by omega) (by omega) (by omega)) rfl ?_
 refine aT ?_
 refine Qk (show _ = Value.int .i64 ((QS x.sz : Nat) : Int) from by congr 1;unfold QS;omega) ?_
 refine aU6 ?_
 refine o_p (Qm rfl rfl YY X0) rfl ?_
 refine Qk (show _ = Value.int .u16 ((QS x.sz : Nat) : Int) from by first | rfl | (rw [Qjl];congr 1;omega)) ?_
 refine o_h (Xg (Cs:=[.byz a cap (l)]) rfl Qko rfl aPs (fun w1 h1 hf=>Qta w1 a cap l ((QS x.sz : Nat) : Int) hf (by omega) (by omega))) rfl (fun ⟨b2,c3⟩ hz4=>?_)
 refine aU7 ?_
 refine o_p (Qf rfl rfl Tryz.underlying9) rfl ?_
 refine o_p (Qm rfl rfl YY Zf) rfl ?_
 refine Qk (YO _) ?_
 refine aU2 ?_
 refine o_p (Qf rfl rfl Tryz.underlying9) rfl ?_
 refine o_p (Qm rfl rfl YY Zf) rfl ?_
 refine Qk (YO _) ?_
 refine o_h (Ql (cs:=[_,_]) rfl rfl Qw Qbe rfl rfl rfl) rfl (fun b5 _=>?_)
 refine o_h (Qaw (l:=(l ++ le2 ((QS x.sz : Nat) : Int))) [by8 x.key.length,by8 x.val.length] rfl rfl rfl Qw Tryz.underlying139 Qbe aPk (Xe aPk) (by simp only [List.length_append,List.length_cons,List.length_nil,le2,le4] <;> omega) (by simp only [maxLen,List.length_append,List.length_cons,List.length_nil,le2,le4] <;> omega)) rfl (fun ⟨b6,c7⟩ h8=>?_)
 refine aU3 ?_
 refine Qj (L':=[(0,_),(2,_),(4,_),(6,_)]) aSx (fun _ h=>h) ?_
 refine aU3 ?_
 refine o_p (Qm rfl rfl YY YH) rfl ?_
 refine Qk (show _ = Value.int .u32 c from by first | rfl | (rw [Qea];congr 1;omega)) ?_
 refine o_h (Xg (Cs:=[.byz b6 c7 (((l ++ le2 ((QS x.sz : Nat) : Int)) ++ [by8 x.key.length,by8 x.val.length]))]) rfl Qpq rfl aPs (fun w1 h1 hf=>c153 w1 b6 c7 ((l ++ le2 ((QS x.sz : Nat) : Int)) ++ [by8 x.key.length,by8 x.val.length]) c hf hc (by omega))) rfl (fun ⟨b9,c10⟩ hz11=>?_)
 refine aU3 ?_
 refine QeJ [.blk b1 27 2 [.string (bs x.key),.string (bs x.val)]] [] QZ ?_
 refine dP 0 ?_
 refine dFa 1 ?_
 refine dLd 2 [] ?_
 refine dFa 4 ?_
 refine dLd 5 [] ?_
 refine dH 3 rfl (Qcb (l:=(((l ++ le2 ((QS x.sz : Nat) : Int)) ++ [by8 x.key.length,by8 x.val.length]) ++ le4 c)) rfl rfl rfl Qw Tryz.underlying9 Qbe aPk (by simp only [List.length_append,List.length_cons,List.length_nil,le2,le4] <;> omega) (by simp only [maxLen,List.length_append,List.length_cons,List.length_nil,le2,le4] <;> omega)) (fun ⟨b12,c13⟩ h14=>?_)
 refine dH 6 rfl (Qcb (l:=((((l ++ le2 ((QS x.sz : Nat) : Int)) ++ [by8 x.key.length,by8 x.val.length]) ++ le4 c) ++ x.key)) rfl rfl rfl Qw Tryz.underlying9 Qbe aPk (by simp only [List.length_append,List.length_cons,List.length_nil,le2,le4] <;> omega) (by simp only [maxLen,List.length_append,List.length_cons,List.length_nil,le2,le4] <;> omega)) (fun ⟨b15,c16⟩ h17=>?_)
 refine dH 7 rfl (Xg (Cs:=[.byz b15 c16 ((((((l ++ le2 ((QS x.sz : Nat) : Int)) ++ [by8 x.key.length,by8 x.val.length]) ++ le4 c) ++ x.key) ++ x.val))]) rfl Qun rfl aPs (fun w1 h1 hf=>c154 w1 b15 c16 (((((l ++ le2 ((QS x.sz : Nat) : Int)) ++ [by8 x.key.length,by8 x.val.length]) ++ le4 c) ++ x.key) ++ x.val) hf (by omega))) (fun ⟨b18,c19⟩ hz20=>?_)
 refine dP 8 ?_
 refine dNi ?_
 exact rT rfl rfl (fun w' h'=>⟨(b18,c19),by rw [he9];rfl,by rw [he9];exact (((((hz4).trans h8 (by simp only [List.length_append];omega)).trans hz11 (by simp only [List.length_append];omega)).trans h14 (by simp only [List.length_append];omega)).trans h17 (by simp only [List.length_append];omega)).trans hz20 (by simp only [List.length_append];omega),by rw [he9];exact h'.ent aEt⟩)
theorem Qn4 : Xl Tryz.prog 202 = true:=by kernel_rfl
theorem QoZ : Xl Tryz.prog 156 = true:=by kernel_rfl
theorem c202 (w : World) (b : Nat) (n : LNd) (i : Nat) (hb : Rd w [] b 2 (.slice n.ca n.cs.length n.cc)) (hcs : Rw inV 1 w [] n.ca n.cs) (hl : n.cs.length ≤ 1000000) (hi : n.cs.length = 0 ∨ i < n.cs.length) : Calls Tryz.prog 202 #[.int .i64 (i : Int),.pointer (some ⟨b,0,none⟩)] w fun en w'=>en = .returned (.int .i64 (YZ n.cs i)) ∧ Below w.heap.size w w':=by
 refine eN2 Tryz.func202 Tryz.ntmps202 ?_
 refine aU8 ?_
 refine o_q (Qe rfl rfl Qbl (hb)) rfl ?_
 refine aU3 ?_
 refine sCd rfl (fun h1=>?_) fun h1=>?_
 ·have hz : YZ n.cs i = 0:=if_pos (by have hq:=h1;omega)
  refine aU4 ?_
  exact rT rfl rfl (fun w' h'=>⟨by rw [hz];rfl,h'.below⟩)
 have hc0 : ¬ n.cs.length = 0:=by have hq:=h1;omega
 have hz : YZ n.cs i = nth n.cs i:=if_neg hc0
 refine aU4 ?_
 refine o_q (Qe rfl rfl Qbl (hb)) rfl ?_
 refine aU ?_
 refine o_p (Qc rfl rfl rfl QN (i) (by omega) (by omega) (Rw.some hcs (by omega))) rfl ?_
 refine o_q (Qe rfl rfl Za ((hcs.rdj (i:=i) 0 (by omega) rfl))) rfl ?_
 refine aU2 ?_
 exact rT rfl rfl (fun w' h'=>⟨by rw [hz];rfl,h'.below⟩)
theorem c148 (w : World) (a : Option Addr) (cap : Nat) (l : List UInt8) (n : LNd) (hw : HS w (fps [.byz a cap (l)]) [.byz a cap (l)] w) (hl : l.length ≤ 100000) (hl8 : l.length % 8 = 0) (hes : Rw TEnt.vals 2 w (fps [.byz a cap (l)]) n.ea n.es) (hcs : Rw inV 1 w (fps [.byz a cap (l)]) n.ca n.cs) (hp : NdP n.pl) : Calls Tryz.prog 148 #[.slice a l.length cap,.agg #[.bool n.us,.slice n.ea n.es.length n.ec,.slice n.ca n.cs.length n.cc]] w fun en w'=>∃ g : Option Addr × Nat,en = .returned (.slice g.1 (l ++ YN n.pl).length g.2) ∧ QbC a cap g (l ++ YN n.pl).length ∧ HS w (fps [.byz a cap (l)]) [.byz g.1 g.2 (l ++ YN n.pl)] w':=by
 have hcl : n.cs.length = 0 ∨ n.cs.length = n.es.length + 1:=hp.cl
 have hel : n.es.length ≤ 1000:=hp.el
 have he9 : l ++ YN n.pl = (l ++ XZ n.pl n.es.length) ++ Qeq (YZ n.cs n.es.length):=by rw [List.append_assoc];rfl
 have hee:=hp.ents n.es.length (Nat.le_refl _)
 have hle : (l ++ XZ n.pl n.es.length).length = l.length + (XZ n.pl n.es.length).length:=List.length_append
 have hke : 0 ≤ YZ n.cs n.es.length ∧ YZ n.cs n.es.length < 4294967296:=hp.kid (i:=n.es.length) (Nat.le_refl _)
 refine eW2 Tryz.func148 Tryz.ntmps148 hw ?_
 refine aU2 ?_
 refine oBx fun b1 _=>?_
 refine aU16 ?_
 refine Qt (α:=Nat × Option Addr × Nat) [0,6,7,12,13,14,15,16,17,18,19,20,21,22,23] (fun x=>[(12,.int .i64 (x.1 : Int)),(0,.slice x.2.1 (l ++ XZ n.pl x.1).length x.2.2)]) (fun x=>HS w (fps [.byz a cap (l)]) [.byz x.2.1 x.2.2 (l ++ XZ n.pl x.1),.blk b1 69 3 (LNd.vals n)]) (fun x=>x.1 ≤ n.es.length ∧ QbC a cap (x.2.1,x.2.2) (l ++ XZ n.pl x.1).length) (fun x=>n.es.length - x.1) (0,a,cap) ⟨Nat.zero_le _,fun _=>⟨rfl,rfl⟩⟩ (by simp only [XZ,List.append_nil];exact aSx) (fun w h=>(by simp only [XZ,List.append_nil];exact h.ent aEt)) (fun ⟨k,a2,c2⟩ hk1=>?_)
 dsimp only
 simp only [] at hk1
 obtain ⟨hk2,hk3⟩:=hk1
 have hek:=hp.ents k hk2
 have hlk : (l ++ XZ n.pl k).length = l.length + (XZ n.pl k).length:=List.length_append
 refine aU5 ?_
 refine sCd rfl (fun h2=>?_) fun h2=>?_
 ·have hk : k < n.es.length:=by omega
  have hst : l ++ XZ n.pl (k + 1) = (l ++ XZ n.pl k) ++ Qcu (nth n.es k) (YZ n.cs k):=by rw [List.append_assoc];rfl
  have hkk : 0 ≤ YZ n.cs k ∧ YZ n.cs k < 4294967296:=hp.kid (i:=k) (Nat.le_of_lt hk)
  have hx9 : (nth n.es k).key.length ≤ 300 ∧ (nth n.es k).val.length ≤ 300:=hp.es _ (QC hk)
  refine aU6 ?_
  refine o_p (Qc rfl rfl rfl Q7 (k) (by omega) (by omega) (Rw.some hes (by omega))) rfl ?_
  refine o_q (Zj _ rfl rfl YF rfl (Rw.rd hes (by omega))) rfl ?_
  refine oAl (fun b3 _=>?_) Yb
  refine aU3 ?_
  refine QL [5] QZ ?_
  refine dP 0 ?_
  refine dLn 1 [[]] ?_
  refine dP 2 ?_
  refine dP 3 ?_
  refine dQ 4 [[]] rfl (Z9 rfl rfl Qn4 rfl (fun w1 h1=>c202 w1 b1 n k (h1.rd_blk (Mc:=[]) aPk rfl (by simp)) (hcs.later h1) (by omega) (by omega))) ?_
  refine dH 5 rfl (Xg (Cs:=[.byz a2 c2 (l ++ XZ n.pl k)]) rfl Qsx rfl aPs (fun w1 h1 hf=>c89 w1 a2 c2 (l ++ XZ n.pl k) (nth n.es k) (YZ n.cs k) hf (by omega) (by omega) hx9.1 hx9.2 hkk)) (fun ⟨b4,c5⟩ hz6=>?_)
  refine dTu [] ?_
  refine dP 6 ?_
  refine dNi ?_
  refine aT3 ?_
  refine aU2 ?_
  exact QW (k + 1,b4,c5) (by (try simp only []);omega) (by simp only [];rw [hst];exact ⟨by omega,hk3.trans hz6 (by simp only [List.length_append];omega)⟩) (by dsimp only;rw [hst];exact aSx) (fun w h=>by dsimp only;rw [hst];exact h.ent aEt)
 obtain rfl : k = n.es.length:=by omega
 refine Qo rfl ?_
 refine aU7 ?_
 refine o_q (Z9 rfl rfl Qn4 rfl (fun w1 h1=>c202 w1 b1 n n.es.length (h1.rd_blk (Mc:=[]) aPk rfl (by simp)) (hcs.later h1) (by omega) (by omega))) rfl ?_
 refine o_h (Xg (Cs:=[.byz a2 c2 (l ++ XZ n.pl n.es.length)]) rfl QoZ rfl aPs (fun w1 h1 hf=>c156 w1 a2 c2 (l ++ XZ n.pl n.es.length) (YZ n.cs n.es.length) hf hke (by omega))) rfl (fun ⟨b7,c8⟩ hz9=>?_)
 refine aU2 ?_
 exact rT rfl rfl (fun w' h'=>⟨(b7,c8),by rw [he9];rfl,by rw [he9];exact hk3.trans hz9 (by simp only [List.length_append];omega),by rw [he9];exact h'.ent aEt⟩)
end Go.Proofs
namespace Gx
open Go Go.RowKit
def bigsN (L : List LNd) : List Bool:=L.map fun n=>!Qqs n.pl
def bigsE (es : List TEnt) : List Bool:=es.map fun x=>!QdV x
end Gx
namespace Go.Proofs
open Go Go.RowKit Gx
attribute [local irreducible] Go.Calls Gx.S Gx.O Gx.D Gx.OpP Gx.OpQ Gx.OpH
set_option maxRecDepth 20000
theorem QsY : Xl Tryz.prog 148 = true:=by kernel_rfl
end Go.Proofs
namespace Gx
open Go Go.RowKit
section
variable {w : World} {a : Option Addr} {vs : List Value}
theorem Vl.nilA : Vl w a []:=⟨fun hn=>absurd hn (Nat.lt_irrefl 0)⟩
theorem Vl.dropA {cap k : Nat} (h : Vl w a vs) (hk : k ≤ vs.length) (hc : vs.length ≤ cap) : Vl w (XC a cap k 1) (vs.drop k):=by
 rcases Nat.eq_or_lt_of_le hk with e | e
 ·grind [Vl.nilA]
 ·exact h.drop e (by omega)
theorem Vl.takeA {n : Nat} (h : Vl w a vs) : Vl w a (vs.take n):=by
 refine ⟨fun hn=>?_⟩;rw [List.length_take] at hn;obtain ⟨b,o,rfl,h2⟩:=h.at_ (by omega)
 grind
theorem Vl.sub {cap lo n : Nat} {x : List UInt8} (h : Vl w a (x.map bv)) (hlo : lo + n ≤ x.length) (hc : x.length ≤ cap) : Vl w (XC a cap lo 1) ((Qn x lo n).map bv):=by
 unfold Qn;rw [List.map_take,List.map_drop];exact (h.dropA (by rw [List.length_map];omega) (by rw [List.length_map];omega)).takeA
end
section
variable {P : Program} {o : Oper} {L : Qb} {w0 : World} {As : List HA}
theorem Zp {src dst e n cap : Nat} {x : Operand} {a : Option Addr} (l : List UInt8) (ho : o.op = .convert src dst x) (hx : ev L x = some (.slice a n cap)) (hs : P.underlying src = some (.slice e)) (hd : P.underlying dst = some .string) (he : P.underlying e = some (.int .u8)) (hl : l.length = n) (hv : Vl w0 a (l.map bv)) : OpQ P o L (HS w0 [] As) (.string (bs l)):=by
 refine QeW l ho hx hs hd he hl fun w hw hn=>?_;have h1:=hv.later hw;have h2:=h1.some (by rw [List.length_map];omega);refine ⟨ab a,ao a,h2,fun j hj=>?_⟩;have h3:=h1.rd (i:=j) (v:=.int .u8 (l[j].toNat : Int)) (by rw [List.getElem?_map,List.getElem?_eq_getElem hj];rfl);have h4:=h3.2.2
 rwa [Nat.mul_one] at h4
end
theorem QeK {s : List UInt8} {p0 k count : Nat} {r : RdS} (h : rdE s p0 k = some r) (hk : k < count) (hs : Y1 s r.p = false) : rdN s p0 count = none:=by
 unfold rdN;rw [Qte h hs hk]
theorem Qlb {s : List UInt8} {p0 count : Nat} {r : RdS} (h : rdE s p0 count = some r) (hs : Y0 s r.p = false) : rdN s p0 count = none:=by grind [rdN]
theorem Qlo {s : List UInt8} {p0 count : Nat} {r : RdS} (h : rdE s p0 count = some r) (hs : Y0 s r.p = true) : rdN s p0 count = if noz (r.cs ++ [(ub4 s (r.p + 4) : Int)]) then some (⟨true,r.es,r.cs ++ [(ub4 s (r.p + 4) : Int)]⟩,r.p + 8) else if QdP (r.cs ++ [(ub4 s (r.p + 4) : Int)]) then some (⟨true,r.es,[]⟩,r.p + 8) else none:=by grind [rdN]
def stR (s : List UInt8) (p0 count k : Nat) : Option RdS:=if k ≤ count then rdE s p0 k else match rdE s p0 count with
 | none=>none
 | some r=>if Y0 s r.p then some ⟨r.es,r.cs ++ [(ub4 s (r.p + 4) : Int)],r.p + 8⟩ else none
theorem QdJ {s : List UInt8} {p0 count k : Nat} (h : k ≤ count) : stR s p0 count k = rdE s p0 k:=if_pos h
theorem QoV {s : List UInt8} {p0 count k : Nat} {r : RdS} (h : stR s p0 count k = some r) (hk : k < count) (hs : Y1 s r.p = true) : stR s p0 count (k + 1) = some ⟨r.es ++ [Q3 s r.p],r.cs ++ [(ub4 s (r.p + 4) : Int)],r.p + ub2 s r.p⟩:=by grind [QdJ,Qdv]
theorem QnX {s : List UInt8} {p0 count : Nat} {r : RdS} (h : stR s p0 count count = some r) (hs : Y0 s r.p = true) : stR s p0 count (count + 1) = some ⟨r.es,r.cs ++ [(ub4 s (r.p + 4) : Int)],r.p + 8⟩:=by grind [QdJ,stR]
theorem Qg0 {s : List UInt8} {p0 count k : Nat} {r : RdS} (h : stR s p0 count k = some r) (hk : k < count) (hs : Y1 s r.p = false) : rdN s p0 count = none:=by grind [QdJ,QeK]
theorem Qle {s : List UInt8} {p0 count : Nat} {r : RdS} (h : stR s p0 count count = some r) (hs : Y0 s r.p = false) : rdN s p0 count = none:=by grind [QdJ,Qlb]
theorem QrT {s : List UInt8} {p0 count : Nat} {r : RdS} (h : stR s p0 count (count + 1) = some r) : rdN s p0 count = if noz r.cs then some (⟨true,r.es,r.cs⟩,r.p) else if QdP r.cs then some (⟨true,r.es,[]⟩,r.p) else none:=by grind [stR,rdE,Qlo]
theorem Qt8 {s : List UInt8} {p0 count k : Nat} (h0 : p0 ≤ s.length) {r : RdS} (h : stR s p0 count k = some r) (hk : k ≤ count + 1) : p0 ≤ r.p ∧ r.p ≤ s.length ∧ r.es.length ≤ k ∧ r.cs.length ≤ k:=by
 unfold stR at h;split at h
 ·obtain ⟨h1,h2,h3,h4,_⟩:=QaW h0 h;omega
 ·cases hq : rdE s p0 count with
  | none=>rw [hq] at h;cases h
  | some q=>
   rw [hq] at h;simp only [] at h;obtain ⟨h1,h2,h3,h4,_⟩:=QaW h0 hq
   grind [Y0]
theorem Qj4 {s : List UInt8} {p : Nat} (h : ¬ (p + 8 ≤ s.length ∧ ub4 s (p + 4) ≤ 120 ∧ p + ub2 s p ≤ s.length ∧ Q8 s p ≤ ub2 s p)) : Y1 s p = false ∧ Y0 s p = false:=by
 have hp:=ZC (Q8 s p);have hb : ub2 s (p + 2) = ub1 s (p + 2) + ub1 s (p + 3) * 256:=rfl
 grind [Q8,ub1,Y1,Y2,YB,Y0]
theorem QlF {s : List UInt8} {p : Nat} (h : YB (Q3 s p) (ub4 s (p + 4)) = false) : Y1 s p = false:=by grind [Y1,Y2]
theorem QlA {s : List UInt8} {p : Nat} (h : p + 8 ≤ s.length ∧ ub4 s (p + 4) ≤ 120 ∧ p + ub2 s p ≤ s.length ∧ Q8 s p ≤ ub2 s p) (hK : YB (Q3 s p) (ub4 s (p + 4)) = true) : decide (Qcu (Q3 s p) (ub4 s (p + 4) : Int) = Qn s p (ub2 s p)) = Y1 s p:=by grind [Qlx,Y2]
theorem Qjv {s : List UInt8} {p : Nat} (h : p + 8 ≤ s.length ∧ ub4 s (p + 4) ≤ 120 ∧ p + ub2 s p ≤ s.length ∧ Q8 s p ≤ ub2 s p) : decide (Qeq (ub4 s (p + 4) : Int) = Qn s p (ub2 s p)) = Y0 s p:=by grind [QkS,Y0]
def nzB (l : List Int) : List Bool:=l.map fun c=>decide (c ≠ 0)
theorem QqO {l : List Int} {k : Nat} (h : k < l.length) : (nzB l).getD k false = decide (nth l k ≠ 0):=by
 unfold nzB;rw [Qdc (d:=default) h];rfl
theorem QlY (l : List Int) : (nzB l).any id = !(QdP l):=by simp [List.any_map,List.all_eq_not_any_not,Bool.not_not,nzB,QdP]
theorem Qk9 (l : List Int) : noz l = !(decide ((0 : Int) ∈ l)):=by grind [noz]
def QrW (s : List UInt8) (p : Nat) : Prop:=p + 8 ≤ s.length ∧ ub4 s (p + 4) ≤ 120 ∧ p + ub2 s p ≤ s.length ∧ Q8 s p ≤ ub2 s p
theorem Qll {s : List UInt8} {p0 count k : Nat} {r : RdS} (h : stR s p0 count k = some r) (hk : k < count + 1) (hs : ¬ QrW s r.p) : rdN s p0 count = none:=by
 rcases Nat.lt_or_ge k count with h9 | h9
 ·exact Qg0 h h9 (Qj4 hs).1
 ·obtain rfl : k = count:=by omega
  exact Qle h (Qj4 hs).2
def QiY (s : List UInt8) (p k count : Nat) : List UInt8:=if k < count then Qcu (Q3 s p) (ub4 s (p + 4) : Int) else Qeq (ub4 s (p + 4) : Int)
def esR (s : List UInt8) (r : RdS) (k count : Nat) : List TEnt:=if k < count then r.es ++ [Q3 s r.p] else r.es
theorem Qhq {s : List UInt8} {p k count : Nat} (h : k < count) : QiY s p k count = Qcu (Q3 s p) (ub4 s (p + 4) : Int):=if_pos h
theorem Qhi {s : List UInt8} {p k count : Nat} (h : ¬ k < count) : QiY s p k count = Qeq (ub4 s (p + 4) : Int):=if_neg h
theorem QoY {s : List UInt8} {r : RdS} {k count : Nat} (h : k < count) : esR s r k count = r.es ++ [Q3 s r.p]:=if_pos h
theorem Qnw {s : List UInt8} {r : RdS} {k count : Nat} (h : ¬ k < count) : esR s r k count = r.es:=if_neg h
theorem QsJ {s : List UInt8} {p0 count k : Nat} {r : RdS} (hst : stR s p0 count k = some r) (hk : k < count + 1) (h4 : QrW s r.p) (hK : k < count → YB (Q3 s r.p) (ub4 s (r.p + 4)) = true) (h : ¬ QiY s r.p k count = Qn s r.p (ub2 s r.p)) : rdN s p0 count = none:=by
 rcases Nat.lt_or_ge k count with h9 | h9
 ·rw [Qhq h9] at h;refine Qg0 hst h9 ?_;rw [← QlA h4 (hK h9)]
  grind
 ·obtain rfl : k = count:=by omega
  rw [Qhi (Nat.lt_irrefl _)] at h;refine Qle hst ?_;rw [← Qjv h4]
  grind
theorem Que {s : List UInt8} {p0 count k : Nat} {r : RdS} (hst : stR s p0 count k = some r) (hk : k < count + 1) (h4 : QrW s r.p) (hK : k < count → YB (Q3 s r.p) (ub4 s (r.p + 4)) = true) (h : QiY s r.p k count = Qn s r.p (ub2 s r.p)) : stR s p0 count (k + 1) = some ⟨esR s r k count,r.cs ++ [(ub4 s (r.p + 4) : Int)],r.p + ub2 s r.p⟩:=by
 rcases Nat.lt_or_ge k count with h9 | h9
 ·rw [Qhq h9] at h;rw [QoY h9];refine QoV hst h9 ?_;rw [← QlA h4 (hK h9)]
  grind
 ·obtain rfl : k = count:=by omega
  rw [Qhi (Nat.lt_irrefl _)] at h;rw [Qnw (Nat.lt_irrefl _)];have he : Y0 s r.p = true:=by rw [← Qjv h4];exact decide_eq_true h
  grind [ub2,Y0,QnX]
theorem Qcs {α β : Type} {f : α → List β} (l : List α) (x : α) : (l ++ [x]).flatMap f = l.flatMap f ++ f x:=by simp
theorem Qfr {x : TEnt} {c : Nat} (hc : c ≤ 120) : YB x c = ((decide (1 ≤ (x.key.length : Int)) && decide ((x.key.length : Int) ≤ 40)) && (decide ((x.val.length : Int) ≤ 64) && QdV x)):=by grind [YB,QdV]
end Gx
namespace Go.Proofs
open Go Go.RowKit Gx
attribute [local irreducible] Go.Calls Gx.S Gx.O Gx.D Gx.OpP Gx.OpQ Gx.OpH
set_option maxRecDepth 20000
instance : TFn Tryz.prog 207:=⟨by kernel_rfl⟩
theorem c157 (w : World) (a b : Option Addr) (c d : Nat) (x y : List UInt8) (hx : Vl w a (x.map bv)) (hy : Vl w b (y.map bv)) : Calls Tryz.prog 157 #[.slice a x.length c,.slice b y.length d] w fun en w'=>en = .returned (.bool (decide (x = y))) ∧ Below w.heap.size w w':=by
 refine eN2 Tryz.func157 Tryz.ntmps157 ?_
 refine aU7 ?_
 refine o_q (Zp x rfl rfl Tryz.underlying139 Tryz.underlying9 Tryz.underlying5 rfl hx) rfl ?_
 refine aU ?_
 refine o_q (Zp y rfl rfl Tryz.underlying139 Tryz.underlying9 Tryz.underlying5 rfl hy) rfl ?_
 refine aU3 ?_
 exact rT rfl rfl (fun w' h'=>⟨by rfl,h'.below⟩)
theorem c159 (w : World) (c : Int) : Calls Tryz.prog 159 #[.int .i64 c] w fun en w'=>en = .returned (.bool (decide (c ≠ 0))) ∧ Below w.heap.size w w':=by
 refine eN1 Tryz.func159 Tryz.ntmps159 ?_
 refine Qaj ?_
 exact rT rfl rfl (fun w' h'=>⟨by simp only [Xj];congr 2;simp,h'.below⟩)
theorem c207 (w : World) (a : Option Addr) (cap : Nat) (l : List Int) (q : Nat) (cv : Array Value) (bt : List Bool) (hs : Rw inV 1 w [] a l) (hm : l.length ≤ 1000000) (hq : Xl Tryz.prog q = true) (hb : bt.length = l.length) (hc : ∀ k w1,k < l.length → HS w [] [] w1 → Calls Tryz.prog q (#[] ++ [.int .i64 (nth l k)].toArray ++ cv) w1 fun en w2=>en = .returned (.bool (bt.getD k false)) ∧ Below w1.heap.size w1 w2) : Calls Tryz.prog 207 #[.slice a l.length cap,.func (.func q) #[] cv] w fun en w'=>en = .returned (.int .i64 (ixI bt)) ∧ Below w.heap.size w w':=by
 refine eN2 Tryz.func207 Tryz.ntmps207 ?_
 refine Qes ?_
 refine Qt (α:=Nat) [4,5,8,9,10,11,12,13,14,15,16,17,18] (fun k=>[(8,.int .i64 (k : Int))]) (fun _=>_) (fun k=>k ≤ l.length ∧ ∀ i,i < k → bt.getD i false = false) (fun k=>l.length - k) 0 ⟨by omega,fun i h=>absurd h (Nat.not_lt_zero i)⟩ aSx (fun w h=>h) (fun k hk=>?_)
 obtain ⟨hk1,hk2⟩:=hk
 refine aU5 ?_
 refine sCd rfl (fun h1=>?_) fun h1=>?_
 ·refine Qgd ?_
  refine o_p (Qc rfl rfl rfl QN (k) (by omega) (by omega) (Rw.some hs (by omega))) rfl ?_
  refine o_q (Qe rfl rfl Za ((hs.rdj (i:=k) 0 (by omega) rfl))) rfl ?_
  refine o_q (Z9 rfl rfl hq rfl (fun w1 h1=>hc k w1 (by omega) (h1.ent aEt))) rfl ?_
  refine aU ?_
  refine sCd rfl (fun h2=>?_) fun h2=>?_
  ·refine aU5 ?_
   exact rT rfl rfl (fun w' h'=>⟨by have e:=QfF (l:=bt) (k:=k) (by omega) hk2 (fun _=>by assumption);simp only [Xj,ixI,e];rw [if_pos (by omega)],h'.below⟩)
  refine aT4 ?_
  refine aU2 ?_
  exact QW (k+1) (by omega) ⟨by omega,fun i hi=>(Nat.lt_or_ge i k).elim (hk2 i) (fun h=>by obtain rfl : i = k:=(by omega);assumption)⟩ aSx (fun w h=>h)
 refine Qo rfl ?_
 refine aU4 ?_
 exact rT rfl rfl (fun w' h'=>⟨by have e:=QfF (l:=bt) (k:=k) (by omega) hk2 (fun h=>by omega);simp only [Xj,ixI,e];rw [if_neg (by omega)],h'.below⟩)
theorem c158 (w : World) (a : Option Addr) (cap : Nat) (l : List Int) (q : Nat) (cv : Array Value) (bt : List Bool) (hs : Rw inV 1 w [] a l) (hm : l.length ≤ 1000000) (hq : Xl Tryz.prog q = true) (hb : bt.length = l.length) (hc : ∀ k w1,k < l.length → HS w [] [] w1 → Calls Tryz.prog q (#[] ++ [.int .i64 (nth l k)].toArray ++ cv) w1 fun en w2=>en = .returned (.bool (bt.getD k false)) ∧ Below w1.heap.size w1 w2) : Calls Tryz.prog 158 #[.slice a l.length cap,.func (.func q) #[] cv] w fun en w'=>en = .returned (.bool (bt.any id)) ∧ Below w.heap.size w w':=by
 refine eN2 Tryz.func158 Tryz.ntmps158 ?_
 refine aU8 ?_
 refine oCq rfl (fun w1 h1=>c207 w1 a cap l q cv bt (hs.later h1) hm hq hb (fun k w2 hk h2=>hc k w2 hk (by simpa using h1.call h2))) ?_
 refine aU3 ?_
 exact rT rfl rfl (fun w' h'=>⟨by simp only [Xj];rw [← QkN],h'.below⟩)
end Go.Proofs
namespace Gx
open Go Go.RowKit
def czI (l : List Int) : Nat:=(l.filter fun c=>decide (c = 0)).length
theorem Qpu (l : List Int) : czI l ≤ l.length:=List.length_filter_le _ _
theorem QoJ {l : List Int} {k : Nat} (h : k < l.length) : czI (l.take (k + 1)) = czI (l.take k) + (if nth l k = 0 then 1 else 0):=by
 unfold czI;rw [List.take_add_one,List.getElem?_eq_getElem h,List.filter_append,List.length_append]
 grind [nth,Zr]
theorem Qsk {l : List Int} : czI l = 0 ↔ noz l = true:=by simp_all [czI,noz]
theorem QlS {l : List Int} : czI l = l.length ↔ QdP l = true:=by simp_all [czI,QdP]
theorem Qak (s : List UInt8) (a b : Nat) : (s.take b).drop a = Qn s a (b - a):=by
 unfold Qn;rw [List.drop_take]
theorem Qji {x : TEnt} {c : Nat} : YB x c = (decide (ZU x c = 0) && decide ((x.val.length : Int) ≤ 64)):=by grind [YB,ZU]
theorem Qrj {s : List UInt8} {p : Nat} (h : ¬ (ub2 s p = QS (Q8 s p) ∧ p + ub2 s p ≤ s.length ∧ zer (Qn s (p + Q8 s p) (ub2 s p - Q8 s p)) = true)) : Y1 s p = false:=by grind [Y1,Y2]
theorem Qq8 {s : List UInt8} {p : Nat} (h8 : p + 8 ≤ s.length) (h : ub2 s p = QS (Q8 s p) ∧ p + ub2 s p ≤ s.length ∧ zer (Qn s (p + Q8 s p) (ub2 s p - Q8 s p)) = true) (hK : YB (Q3 s p) (ub4 s (p + 4)) = true) : Y1 s p = true:=
 Y2.2 ⟨⟨h8,h.1,h.2.1⟩,h.2.2,hK⟩
section
variable {w0 w : World} {M : List Nat} {As As' : List HA} {a : Option Addr} {cap et nt' : Nat} {L : List LNd}
theorem HS.nodes_of1 {n : LNd} (h : HS w0 M (.own (.slice a 1 cap) nt' 3 1 (LNd.vals n) :: .ents et n.ea n.ec n.es :: .kids n.ca n.cc n.cs :: As) w) : HS w0 M (.nodes et nt' a cap [n] :: As) w:=by
 have h1 : HS w0 M ([.ents et n.ea n.ec n.es,.kids n.ca n.cc n.cs] ++ (.own (.slice a 1 cap) nt' 3 1 (LNd.vals n) :: As)) w:=h.perm ((List.Perm.swap ..).trans (List.Perm.cons _ (List.Perm.swap ..)));have h2 : HS w0 M ([Qdl et n] ++ (.own (.slice a 1 cap) nt' 3 1 (LNd.vals n) :: As)) w:=HS.star_close h1;have h3 : HS w0 M (.star ([n].map (Qdl et)) :: .own (.slice a 1 cap) nt' 3 1 (LNd.vals n) :: As) w:=HS.star_close h2;exact HS.row_shut (l:=[n]) (h3.perm (List.Perm.swap ..)) rfl (by simp)
theorem HS.nodes_own (h : HS w0 M As w) (hp : QD As (.nodes et nt' a cap L) As') : HS w0 M (.own (.slice a L.length cap) nt' 3 L.length (L.flatMap LNd.vals) :: As') w:=by
 have h1:=HS.row_open (h.pick hp);exact (h1.perm ((List.Perm.swap ..))).tail
theorem HS.nodes_some (hn : 0 < L.length) (h : HS w0 M As w) (hp : QD As (.nodes et nt' a cap L) As') : ∃ g,a = some ⟨g,0,none⟩ ∧ L.length ≤ cap ∧ cap ≤ maxLen:=by
 obtain ⟨_,⟨_,h0⟩ | ⟨g,cap',e,h1,h2,_⟩⟩:=(h.nodes_own hp).head
 ·omega
 grind
theorem HS.nodes_blk {g : Nat} {x : LNd} (h : HS w0 M As w) (hp : QD As (.nodes et nt' (some ⟨g,0,none⟩) cap [x]) As') : HS w0 M (.blk g nt' (cap * 3) (LNd.vals x) :: As') w:=by
 have h1:=h.nodes_own hp;have h2:=HS.own_at h1 .here
 simpa using h2
end
theorem HS.ents_some {w0 w : World} {M : List Nat} {As As' : List HA} {et cap : Nat} {a : Option Addr} {l : List TEnt} (hn : 0 < l.length) (h : HS w0 M As w) (hp : QD As (.ents et a cap l) As') : ∃ g,a = some ⟨g,0,none⟩:=by
 obtain ⟨g,e,_⟩:=HS.own_blk hn hp h;exact ⟨g,e⟩
theorem Qkt {L : List LNd} {x : Nd} (h : pln L = [x]) : ∃ y,L = [y] ∧ y.pl = x:=by simp_all
def XL (co : Int) (es : List TEnt) : Bool:=es.all fun x=>QB co x.key
theorem Qh5 {co : Int} {es : List TEnt} {k : Nat} (h : k < es.length) (h2 : QB co (nth es k).key = false) : XL co es = false:=by
 cases hb : XL co es with
 | false=>rfl
 | true=>
  have:=List.all_eq_true.1 hb _ (QC h)
  grind
theorem QbK {co : Int} {es : List TEnt} (h : ∀ i,i < es.length → QB co (nth es i).key = true) : XL co es = true:=by
 refine List.all_eq_true.2 fun x hx=>?_;obtain ⟨i,hi,e⟩:=List.getElem_of_mem hx;have:=h i hi
 simp_all [Zr,hi]
theorem Qbm {co : Int} {es : List TEnt} (h : XL co es = true) {k : Nat} (hk : k < es.length) : QB co (nth es k).key = true:=List.all_eq_true.1 h _ (QC hk)
theorem QoR {co : Int} {k : List UInt8} : Xq co k = 0 ↔ QB co k = true:=by grind [Xq]
theorem Qiv {s : List UInt8} (h : s.length < 16) : Qa s = (noT,10):=if_pos h
section
variable {s : List UInt8} (h1 : ¬ s.length < 16)
include h1
theorem Qk4 (h2 : ¬ s.take 4 = Qa8) : Qa s = (noT,3):=by unfold Qa;rw [if_neg h1,if_neg h2]
variable (h2 : s.take 4 = Qa8)
include h2
theorem Qnx (h3 : ¬ Qp (at1 s 4) = 0) : Qa s = (noT,Qp (at1 s 4)):=by unfold Qa;rw [if_neg h1,if_pos h2,if_neg h3]
variable (h3 : Qp (at1 s 4) = 0)
include h3
theorem QpE (h4 : ¬ XO (at1 s 5) (at1 s 6) = 0) : Qa s = (noT,XO (at1 s 5) (at1 s 6)):=by unfold Qa;rw [if_neg h1,if_pos h2,if_pos h3,if_neg h4]
variable (h4 : XO (at1 s 5) (at1 s 6) = 0)
include h4
theorem QlO (h5 : ¬ at1 s 5 ≤ 4) : Qa s = (noT,8):=by unfold Qa;rw [if_neg h1,if_pos h2,if_pos h3,if_pos h4,if_neg h5]
variable (h5 : at1 s 5 ≤ 4)
include h5
theorem QlG (h6 : ¬ at1 s 7 ≤ at1 s 6) : Qa s = (noT,16):=by unfold Qa;rw [if_neg h1,if_pos h2,if_pos h3,if_pos h4,if_pos h5,if_neg h6]
variable (h6 : at1 s 7 ≤ at1 s 6)
include h6
theorem Qj1 (h7 : ∀ n,rdN s 8 (ub1 s 7) = some (n,s.length) → QdI (at1 s 4) n.es = false) : Qa s = (noT,3):=by grind [Qa,rdN,ub1]
theorem Qsa {n : Nd} (h7 : rdN s 8 (ub1 s 7) = some (n,s.length)) (h8 : QdI (at1 s 4) n.es = true) : Qa s = (⟨at1 s 4,at1 s 5,at1 s 6,[n]⟩,0):=by grind [Qa]
end
def rtE (s : List UInt8) : Int:=if Qp (at1 s 4) = 0 then if XO (at1 s 5) (at1 s 6) = 0 then if at1 s 5 ≤ 4 then if at1 s 7 ≤ at1 s 6 then 0 else 16 else 8 else XO (at1 s 5) (at1 s 6) else Qp (at1 s 4)
theorem Qu9 {s : List UInt8} (h : rtE s = 0) : Qp (at1 s 4) = 0 ∧ XO (at1 s 5) (at1 s 6) = 0 ∧ at1 s 5 ≤ 4 ∧ at1 s 7 ≤ at1 s 6:=by grind [rtE]
theorem Qtc {s : List UInt8} (h1 : ¬ s.length < 16) (h2 : s.take 4 = Qa8) (h : ¬ rtE s = 0) : Qa s = (noT,rtE s):=by
 by_cases h3 : Qp (at1 s 4) = 0
 ·grind [XO,at1,rtE,QlG,QlO,QpE]
 grind [Qnx,rtE]
section
variable {P : Program} {o : Oper} {L : Qb} {w0 : World} {M : List Nat} {As As' : List HA}
theorem Qhz {src dst e n cap b bt tot : Nat} {x : Operand} (s : List UInt8) (ho : o.op = .convert src dst x) (hx : ev L x = some (.slice (some ⟨b,0,none⟩) n cap)) (hs : P.underlying src = some (.slice e)) (hd : P.underlying dst = some .string) (he : P.underlying e = some (.int .u8)) (hn : n ≤ s.length) (hp : QD As (.blk b bt tot (s.map bv)) As') : OpQ P o L (HS w0 M As) (.string (bs (s.take n))):=by
 refine QeW (s.take n) ho hx hs hd he (by rw [List.length_take];omega) fun w hw _=>⟨b,0,rfl,fun j hj=>?_⟩;rw [List.length_take] at hj;rw [Nat.zero_add];refine (hw.blk_get hp).cell ?_
 grind [bv]
end
theorem QaQ {s : List UInt8} {p0 count k : Nat} (h0 : p0 ≤ s.length) {r : RdS} (h : stR s p0 count k = some r) (hk : k ≤ count + 1) : r.es.length ≤ count ∧ ∀ x ∈ r.es,YB x 0 = true:=by
 unfold stR at h;split at h
 ·obtain ⟨h1,_,_,_,_,h6,_⟩:=QaW h0 h
  grind
 ·cases hq : rdE s p0 count with
  | none=>rw [hq] at h;cases h
  | some q=>
   rw [hq] at h;simp only [] at h;obtain ⟨h1,_,_,_,_,h6,_⟩:=QaW h0 hq
   grind
theorem Quh {x : TEnt} {c : Nat} (h : YB x c = true) : YB x 0 = true:=by grind [YB]
theorem QtF {s : List UInt8} {p0 count k : Nat} (h0 : p0 ≤ s.length) {r : RdS} (h : stR s p0 count k = some r) (hk : k < count + 1) (hK : k < count → YB (Q3 s r.p) (ub4 s (r.p + 4)) = true) : (esR s r k count).length ≤ count ∧ ∀ x ∈ esR s r k count,YB x 0 = true:=by
 obtain ⟨h1,h2⟩:=QaQ h0 h (by omega);rcases Nat.lt_or_ge k count with hc | hc
 ·rw [QoY hc];rw [QdJ (by omega)] at h;have h3:=(QaW h0 h).1
  grind [Quh]
 grind [Qnw]
end Gx
namespace Go.Proofs
open Go Go.RowKit Gx
attribute [local irreducible] Go.Calls Gx.S Gx.O Gx.D Gx.OpP Gx.OpQ Gx.OpH
set_option maxRecDepth 20000
theorem QtP : Xl Tryz.prog 159 = true:=by kernel_rfl
theorem Qpd : Xl Tryz.prog 132 = true:=by kernel_rfl
theorem Qdk : Zc Tryz.prog 27 = some [(0,1),(1,1)]:=by kernel_rfl
instance : TFn Tryz.prog 157:=⟨by kernel_rfl⟩
instance : TFn Tryz.prog 158:=⟨by kernel_rfl⟩
theorem c92 (w : World) (s : List UInt8) (p0 count : Nat) (a : Option Addr) (cap : Nat) (hs : Vl w a ((s.drop p0).map bv)) (hp0 : p0 ≤ s.length) (hsl : s.length ≤ 1000000) (hcap : s.length - p0 ≤ cap) (hc9 : cap ≤ 9223372036854775807) (hct : count ≤ 1000) : Calls Tryz.prog 92 #[.slice a (s.length - p0) cap,.int .i64 (count : Int)] w fun en w'=>∃ g : LNd × Option Addr × Nat × Nat,en = .returned (.tuple #[.agg (LNd.vals g.1).toArray,.slice g.2.1 g.2.2.1 g.2.2.2,.bool (rdN s p0 count).isSome]) ∧ ((∀ nd e,rdN s p0 count = some (nd,e) → g.1.pl = nd ∧ g.2.2.1 = s.length - e) ∧ g.1.es.length ≤ count ∧ ∀ x ∈ g.1.es,YB x 0 = true) ∧ HS w [] [.ents 27 g.1.ea g.1.ec g.1.es,.kids g.1.ca g.1.cc g.1.cs] w':=by
 refine eN2 Tryz.func92 Tryz.ntmps92 ?_
 refine aU2 ?_
 refine oAl (fun b1 _=>?_) XS
 refine aT17 ?_
 refine aU3 ?_
 refine Qt (α:=Nat × RdS × (Option Addr × Nat) × (Option Addr × Nat) × (Option Addr × Nat)) [0,5,6,7,8,9,10,11,12,13,14,19,20,21,22,23,24,25,26,27,28,29,30,31,32,33,34,35,36,37,38,39,40,41,42,43,44,45,46,47,48,49,50,51,52,53,54,55,56,57,58,59,60,61,62,63,64,65,66,67,68,69,70,71,72,73,74,75,76,77,78,79,80,81,82,83,84,85,86,87,88,89,90,91,92,93,94,95,96,97,98,99,100,101,102,103,104,105,106,107,108,109,110,111,112,113,114] (fun x=>[(19,.int .i64 (x.1 : Int)),(7,.slice x.2.2.2.1.1 x.2.1.cs.length x.2.2.2.1.2),(0,.slice x.2.2.2.2.1 (s.length - x.2.1.p) x.2.2.2.2.2)]) (fun x=>HS w [] [.blk b1 69 3 [.bool true,.slice x.2.2.1.1 x.2.1.es.length x.2.2.1.2,.slice none 0 0],.own (.slice x.2.2.1.1 x.2.1.es.length x.2.2.1.2) 27 2 x.2.1.es.length (x.2.1.es.flatMap TEnt.vals),.own (.slice x.2.2.2.1.1 x.2.1.cs.length x.2.2.2.1.2) 3 1 x.2.1.cs.length (x.2.1.cs.flatMap inV)]) (fun x=>x.1 ≤ count + 1 ∧ stR s p0 count x.1 = some x.2.1 ∧ Vl w x.2.2.2.2.1 ((s.drop x.2.1.p).map bv) ∧ s.length - x.2.1.p ≤ x.2.2.2.2.2 ∧ x.2.2.2.2.2 ≤ 9223372036854775807) (fun x=>count + 1 - x.1) (0,⟨[],[],p0⟩,(none,0),(none,0),(a,cap)) ⟨Nat.zero_le _,QdJ (Nat.zero_le _),hs,hcap,hc9⟩ aSx (fun w h=>((h.own_nil 27 2).own_nil 3 1).ent aEt) (fun ⟨k,r,⟨ea,ec⟩,⟨da,dc⟩,⟨ba,bc⟩⟩ hk1=>?_)
 dsimp only
 simp only [] at hk1
 obtain ⟨hk2,hst,hv,hbc,hbm⟩:=hk1
 obtain ⟨hp1,hp2,hle,hlc⟩:=Qt8 hp0 hst hk2
 have hdl : (s.drop r.p).length = s.length - r.p:=List.length_drop
 refine aU5 ?_
 refine sCd rfl (fun h2=>?_) fun h2=>?_
 ·have hk : k < count + 1:=by omega
  refine aU15 ?_
  refine sCd rfl (fun h3=>?_) fun h3=>?_
  ·have hN : rdN s p0 count = none:=Qll hst hk (fun h9=>by have hq:=h3;have:=h9.1;omega)
   refine aU7 ?_
   exact Qi (rs:=[.cell 4 69,.tmp 5,.tmp 6]) rfl (.cell rfl Yd aPk rfl (.tmp rfl (.tmp rfl (.nil)))) (fun w' h'=>⟨(⟨true,ea,ec,r.es,none,0,[]⟩,none,0,0),by rw [hN];rfl,⟨fun _ _ h9=>(by rw [hN] at h9;cases h9),QaQ hp0 hst hk2⟩,(h'.own_nil 3 1).ent aEt⟩)
  have h8 : r.p + 8 ≤ s.length:=by have hq:=h3;omega
  have hb2:=Qc2 s r.p
  have hbk:=XV s (r.p + 2)
  have hbv:=XV s (r.p + 3)
  have hb4:=Qk8 s (r.p + 4)
  have hsz : Q8 s r.p = 8 + ub1 s (r.p + 2) + ub1 s (r.p + 3):=rfl
  have hb12 : ((s.drop r.p).getD 2 0).toNat = ub1 s (r.p + 2):=Qk2 s r.p 2
  have hb13 : ((s.drop r.p).getD 3 0).toNat = ub1 s (r.p + 3):=Qk2 s r.p 3
  have ha2 : at2 (s.drop r.p) 0 = ((ub2 s r.p : Nat) : Int):=by rw [Qau,Nat.add_zero,Qch]
  have ha4 : at4 (s.drop (r.p + 4)) 0 = ((ub4 s (r.p + 4) : Nat) : Int):=by rw [QeX,Nat.add_zero,Qf6]
  refine aU2 ?_
  refine QL [] QZ ?_
  refine dP 0 ?_
  refine dQ 1 [] rfl (QE rfl QhB rfl (fun w1 h1=>QqI w1 ba (s.length - r.p) bc (s.drop r.p) (hv.later h1) hdl (by omega) hbc hbm)) ?_
  refine dV 2 rfl (Qm rfl rfl X0 YY) ?_
  try refine dWr ?_
  refine QT (show _ = Value.int .i64 ((ub2 s r.p : Nat) : Int) from by first | exact congrArg (Value.int .i64) ha2 | (rw [ha2];exact Qet (by omega) (by omega))) ?_
  refine dP 3 ?_
  refine dV 4 rfl (Qc rfl rfl rfl Qw 2 rfl (by omega) (hv.some (by rw [List.length_map,List.length_drop];omega))) ?_
  refine dQ 5 [] rfl (Qe rfl rfl QdB ((hv.rd (i:=2) (ZR (l:=(s.drop r.p)) (k:=2) (by omega))))) ?_
  refine dV 6 rfl (Qm rfl rfl Zf YY) ?_
  try refine dWr ?_
  refine QT (show _ = Value.int .i64 ((ub1 s (r.p + 2) : Nat) : Int) from by first | exact congrArg (fun z : Nat=>Value.int .i64 (z : Int)) hb12 | (rw [hb12];exact Qet (by omega) (by omega))) ?_
  refine dP 7 ?_
  refine dV 8 rfl (Qc rfl rfl rfl Qw 3 rfl (by omega) (hv.some (by rw [List.length_map,List.length_drop];omega))) ?_
  refine dQ 9 [] rfl (Qe rfl rfl QdB ((hv.rd (i:=3) (ZR (l:=(s.drop r.p)) (k:=3) (by omega))))) ?_
  refine dV 10 rfl (Qm rfl rfl Zf YY) ?_
  try refine dWr ?_
  refine QT (show _ = Value.int .i64 ((ub1 s (r.p + 3) : Nat) : Int) from by first | exact congrArg (fun z : Nat=>Value.int .i64 (z : Int)) hb13 | (rw [hb13];exact Qet (by omega) (by omega))) ?_
  refine dP 11 ?_
  refine dV 12 rfl (Qs _ _ 4 (s.length - r.p) rfl rfl Qw ⟨_,_,rfl,rfl⟩ rfl (by omega) (by omega)) ?_
  refine dQ 13 [] rfl (QE rfl Qpd rfl (fun w1 h1=>c132 w1 (XC ba bc 4 1) (s.length - r.p - 4) (bc - 4) (s.drop (r.p + 4)) (by have h9:=(hv.later h1).dropA (k:=4) (cap:=bc) (by rw [List.length_map,hdl];omega) (by rw [List.length_map,hdl];omega);rw [← List.map_drop,List.drop_drop] at h9;exact h9) (by rw [List.length_drop];omega) (by omega) (by omega) (by omega))) ?_
  refine dV 14 rfl (Qm rfl rfl YH YY) ?_
  try refine dWr ?_
  refine QT (show _ = Value.int .i64 ((ub4 s (r.p + 4) : Nat) : Int) from by first | exact congrArg (Value.int .i64) ha4 | (rw [ha4];exact Qet (by omega) (by omega))) ?_
  refine dP 15 ?_
  refine dP 16 ?_
  refine dP 17 ?_
  refine dP 18 ?_
  refine dNi ?_
  refine aU2 ?_
  refine Qj (L':=[(0,_),(1,_),(4,_),(7,_),(8,_),(9,_),(10,_),(11,_),(12,_),(16,_),(17,_),(18,_),(19,_)]) aSx (fun _ h=>h) ?_
  refine aU4 ?_
  refine oOr 5 43 48 rfl
   (fun hg4 _=>by
    refine aU8 ?_
    exact oJf 5 48)
   (fun hg6 _=>by
    refine aU4 ?_
    exact oJt 5 48) ?_
  refine aU ?_
  refine oOr 7 49 56 rfl
   (fun hg8 _=>by
    refine aT6 ?_
    refine aT4 ?_
    refine aU2 ?_
    exact oJf 7 56)
   (fun hg10 _=>by
    refine aU6 ?_
    exact oJt 7 56) ?_
  refine aU ?_
  refine sCd rfl (fun h12=>?_) fun h12=>?_
  ·have hN : rdN s p0 count = none:=Qll hst hk (fun h9=>by have hq:=h12;obtain ⟨q1,q2,q3,q4⟩:=h9;grind)
   refine aU7 ?_
   exact Qi (rs:=[.cell 4 69,.tmp 5,.tmp 6]) rfl (.cell rfl Yd aPk rfl (.tmp rfl (.tmp rfl (.nil)))) (fun w' h'=>⟨(⟨true,ea,ec,r.es,none,0,[]⟩,none,0,0),by rw [hN];rfl,⟨fun _ _ h9=>(by rw [hN] at h9;cases h9),QaQ hp0 hst hk2⟩,(h'.own_nil 3 1).ent aEt⟩)
  have h4 : QrW s r.p:=by have hq:=h12;refine ⟨h8,?_,?_,?_⟩ <;> grind
  obtain ⟨_,h41,h42,h43⟩:=id h4
  obtain ⟨hes,hkl,hvl⟩:=Qc1 (s:=s) (p:=r.p) (by omega)
  refine aU2 ?_
  refine QL [16] QZ ?_
  refine dP 0 ?_
  refine dP 1 ?_
  refine dP 2 ?_
  try refine dWr ?_
  refine dV 3 rfl (Qs _ _ 8 (8 + ub1 s (r.p + 2)) rfl rfl Qw ⟨_,_,rfl,rfl⟩ ⟨_,_,rfl,(by omega)⟩ (by omega) (by omega)) ?_
  refine dQ 4 [[]] rfl (Zp (Q3 s r.p).key rfl rfl Tryz.underlying139 Tryz.underlying9 Tryz.underlying5 (by rw [hkl];omega) (by have h9:=hv.sub (cap:=bc) (lo:=8) (n:=ub1 s (r.p + 2)) (by rw [hdl];omega) (by rw [hdl];omega);rw [QdU] at h9;exact h9)) ?_
  refine dP 5 ?_
  refine dP 6 ?_
  refine dP 7 ?_
  try refine dWr ?_
  refine dP 8 ?_
  refine dP 9 ?_
  try refine dWr ?_
  refine dP 10 ?_
  refine dP 11 ?_
  try refine dWr ?_
  refine dV 12 rfl (Qs _ _ (8 + ub1 s (r.p + 2)) (8 + ub1 s (r.p + 2) + ub1 s (r.p + 3)) rfl rfl Qw ⟨_,_,rfl,(by omega)⟩ ⟨_,_,rfl,(by omega)⟩ (by omega) (by omega)) ?_
  refine dQ 13 [[]] rfl (Zp (Q3 s r.p).val rfl rfl Tryz.underlying139 Tryz.underlying9 Tryz.underlying5 (by rw [hvl];omega) (by have h9:=hv.sub (cap:=bc) (lo:=8 + ub1 s (r.p + 2)) (n:=ub1 s (r.p + 3)) (by rw [hdl];omega) (by rw [hdl];omega);rw [QdU,← Nat.add_assoc] at h9;exact h9)) ?_
  refine dV 14 rfl (QF (cs:=[_,_]) rfl rfl Qdk Yb rfl) ?_
  refine dH 15 rfl (QbX rfl Yb) (fun b13 _=>?_)
  refine dBa ?_
  refine dSt 16 ?_ (hl:=(by simp only [Qg,List.length_set,List.length_cons,List.length_nil,List.length_map];omega))
  refine dTu [] ?_
  refine dNi ?_
  refine aU ?_
  refine Qj (L':=[(0,_),(1,_),(4,_),(7,_),(8,_),(9,_),(10,_),(11,_),(12,_),(13,_),(16,_),(17,_),(18,_),(19,_)]) aSx (fun _ h=>h) ?_
  refine aU2 ?_
  refine Ye (fun w h=>h.byz_nil) ?_
  refine o_h (Xg (Cs:=[.byz none 0 []]) rfl QoZ rfl aPs (fun w1 h1 hf=>c156 w1 none 0 [] ((ub4 s (r.p + 4) : Nat) : Int) hf (by omega) (Nat.zero_le _))) rfl (fun ⟨b14,c15⟩ hz16=>?_)
  refine aU9 ?_
  refine Qa2 (α:=(Option Addr × Nat) × (Option Addr × Nat)) [5,6,14,78,79,80,81,82,83,84,85,86,87,88,89,90,91,92,93,94,95,96,97,98,99] (fun y=>[(14,.slice y.1.1 (QiY s r.p k count).length y.1.2)]) (fun y=>HS w [] [.blk b1 69 3 [.bool true,.slice y.2.1 (esR s r k count).length y.2.2,.slice none 0 0],.own (.slice y.2.1 (esR s r k count).length y.2.2) 27 2 (esR s r k count).length ((esR s r k count).flatMap TEnt.vals),.own (.slice da r.cs.length dc) 3 1 r.cs.length (r.cs.flatMap inV),.byz y.1.1 y.1.2 (QiY s r.p k count)]) (fun _=>k < count → YB (Q3 s r.p) (ub4 s (r.p + 4)) = true) ?_ ?_
  ·skip
   refine sCd rfl (fun h17=>?_) fun h17=>?_
   ·have hkc : k < count:=by have hq:=h17;omega
    refine aU4 ?_
    refine oCq rfl (fun w1 h1=>c87 w1 _ _ _) ?_
    refine aU2 ?_
    refine oOr 3 81 84 rfl
     (fun hg18 _=>by
      refine aU4 ?_
      exact oJf 3 84)
     (fun hg20 _=>by
      refine aU2 ?_
      exact oJt 3 84) ?_
    refine aU ?_
    refine oOr 4 85 89 rfl
     (fun hg22 _=>by
      refine aU3 ?_
      refine oCq rfl (fun w1 h1=>c88 w1 _ (by omega) (by omega)) ?_
      refine aU2 ?_
      exact oJf 4 89)
     (fun hg24 _=>by
      refine aU3 ?_
      exact oJt 4 89) ?_
    refine aU ?_
    refine sCd rfl (fun h26=>?_) fun h26=>?_
    ·have hN : rdN s p0 count = none:=Qg0 hst hkc (QlF (by rw [Qfr h41];have hq:=h26;grind))
     refine aU7 ?_
     exact Qi (rs:=[.cell 4 69,.tmp 5,.tmp 6]) rfl (.cell rfl Yd aPk rfl (.tmp rfl (.tmp rfl (.nil)))) (fun w' h'=>⟨(⟨true,ea,ec,r.es,none,0,[]⟩,none,0,0),by rw [hN];rfl,⟨fun _ _ h9=>(by rw [hN] at h9;cases h9),QaQ hp0 hst hk2⟩,(h'.own_nil 3 1).ent aEt⟩)
    have hK : YB (Q3 s r.p) (ub4 s (r.p + 4)) = true:=by rw [Qfr h41];have hq:=h26;grind
    refine aU5 ?_
    refine Ye (fun w h=>h.byz_nil) ?_
    refine o_h (Xg (Cs:=[.byz none 0 []]) rfl Qsx rfl aPs (fun w1 h1 hf=>c89 w1 none 0 [] (Q3 s r.p) ((ub4 s (r.p + 4) : Nat) : Int) hf (Nat.zero_le _) rfl (by omega) (by omega) (by omega))) rfl (fun ⟨b27,c28⟩ hz29=>?_)
    refine aU2 ?_
    refine Qj (L':=[(0,_),(1,_),(4,_),(7,_),(8,_),(9,_),(10,_),(11,_),(12,_),(13,_),(14,_),(16,_),(17,_),(18,_),(19,_),(73,_),(74,_),(75,_),(76,_),(77,_)]) aSx (fun _ h=>h) ?_
    refine aU4 ?_
    refine o_h (Ql (cs:=[_,_]) rfl rfl Q7 Yb rfl rfl rfl) rfl (fun b30 _=>?_)
    refine o_h (Xx ((Q3 s r.p).vals) rfl rfl rfl Q7 Tryz.underlying67 Yb rfl aPk (Xe aPk) rfl (ev1 _) (by omega) (by simp only [maxLen];omega)) rfl (fun b31 _=>?_)
    refine aU3 ?_
    exact QH ((b27,c28),(b31.1,b31.2)) (fun _=>hK) (by dsimp only;rw [Qhq hkc];exact aSx) (fun w h=>by dsimp only;rw [Qhq hkc,QoY hkc,List.length_append,Qcs];exact h.ent aEt)
   have hkc : ¬ k < count:=by have hq:=h17;omega
   refine aU ?_
   exact QH ((b14,c15),(ea,ec)) (fun h9=>absurd h9 hkc) (by dsimp only;rw [Qhi hkc];exact aSx) (fun w h=>by dsimp only;rw [Qhi hkc,Qnw hkc];exact h.ent aEt)
  intro ⟨⟨o1,o2⟩,⟨e1,e2⟩⟩ hKK
  refine aU6 ?_
  refine o_p (Qs _ _ 0 (ub2 s r.p) rfl rfl Qw rfl ⟨_,_,rfl,rfl⟩ (by omega) (by omega)) rfl ?_
  refine Qk (show _ = Value.slice (XC ba bc 0 1) (Qn s r.p (ub2 s r.p)).length (bc - 0) from by rw [Xf h42];rfl) ?_
  refine oCq rfl (fun w1 h1=>c157 w1 o1 (XC ba bc 0 1) o2 (bc - 0) (QiY s r.p k count) (Qn s r.p (ub2 s r.p)) (h1.vl_byz aPk) (by have h9:=(hv.later h1).sub (cap:=bc) (lo:=0) (n:=(ub2 s r.p)) (by rw [hdl];omega) (by rw [hdl];omega);rw [QdU,Nat.add_zero] at h9;exact h9)) ?_
  refine aU2 ?_
  refine sCd rfl (fun h32=>?_) fun h32=>?_
  ·have hN : rdN s p0 count = none:=QsJ hst hk h4 hKK (by have hq:=h32;simpa using hq)
   refine aU7 ?_
   exact Qi (rs:=[.cell 4 69,.tmp 5,.tmp 6]) rfl (.cell rfl Yd aPk rfl (.tmp rfl (.tmp rfl (.nil)))) (fun w' h'=>⟨(⟨true,e1,e2,esR s r k count,none,0,[]⟩,none,0,0),by rw [hN];rfl,⟨fun _ _ h9=>(by rw [hN] at h9;cases h9),QtF hp0 hst hk hKK⟩,(h'.own_nil 3 1).ent aEt⟩)
  have how : QiY s r.p k count = Qn s r.p (ub2 s r.p):=by have hq:=h32;simpa using hq
  have hnx:=Que hst hk h4 hKK how
  have hvn : Vl w (XC ba bc (ub2 s r.p) 1) ((s.drop (r.p + (ub2 s r.p))).map bv):=by have h9:=hv.dropA (k:=(ub2 s r.p)) (cap:=bc) (by rw [List.length_map,hdl];omega) (by rw [List.length_map,hdl];omega);rw [← List.map_drop,List.drop_drop] at h9;exact h9
  refine aU ?_
  refine QL [3] QZ ?_
  refine dP 0 ?_
  refine dP 1 ?_
  refine dP 4 ?_
  refine dP 5 ?_
  refine dV 6 rfl (Qs _ _ (ub2 s r.p) (s.length - r.p) rfl rfl Qw ⟨_,_,rfl,rfl⟩ rfl (by omega) (by omega)) ?_
  refine QT (show _ = Value.slice (XC ba bc (ub2 s r.p) 1) (s.length - (r.p + (ub2 s r.p))) (bc - (ub2 s r.p)) from by rw [Nat.sub_sub]) ?_
  refine dH 2 rfl (Ql (cs:=[_]) rfl rfl QN Qbp rfl rfl rfl) (fun b33 _=>?_)
  refine dBa ?_
  refine dH 3 rfl (Xx (inV ((ub4 s (r.p + 4) : Nat) : Int)) rfl rfl rfl QN Tryz.underlying28 Qbp rfl aPk (Xe aPk) rfl (Qt4 _) (by omega) (by simp only [maxLen];omega)) (fun b34 _=>?_)
  refine dTu [] ?_
  refine dP 7 ?_
  refine dP 8 ?_
  refine dNi ?_
  refine aU ?_
  refine Qj (L':=[(0,_),(1,_),(4,_),(7,_),(16,_),(17,_),(18,_),(19,_)]) aSx (fun _ h=>h) ?_
  refine aT2 ?_
  refine aU2 ?_
  exact QW (k + 1,⟨esR s r k count,r.cs ++ [((ub4 s (r.p + 4) : Nat) : Int)],r.p + (ub2 s r.p)⟩,(e1,e2),(b34.1,b34.2),(XC ba bc (ub2 s r.p) 1,bc - (ub2 s r.p))) (by (try simp only []);omega) (by simp only [];exact ⟨by omega,hnx,hvn,by omega,by omega⟩) (by dsimp only;rw [List.length_append];exact aSx) (fun w h=>by dsimp only;rw [List.length_append,Qcs];exact h.ent aEt)
 obtain rfl : k = count + 1:=by omega
 have hN:=QrT hst
 refine Qo rfl ?_
 refine aU4 ?_
 refine oCq rfl (fun w1 h1=>c62 w1 da dc r.cs 0 (h1.rw_own iv1 aPk rfl) (by omega)) ?_
 refine aU9 ?_
 refine sCd rfl (fun h35=>?_) fun h35=>?_
 ·have hz : noz r.cs = true:=by rw [Qk9];have hq:=h35;simpa using hq
  rw [hz] at hN
  have hN : rdN s p0 count = some (⟨true,r.es,r.cs⟩,r.p):=hN
  refine Qh8 ?_
  exact Qi (rs:=[.cell 4 69,.tmp 5,.tmp 6]) rfl (.cell rfl Yd aPk rfl (.tmp rfl (.tmp rfl (.nil)))) (fun w' h'=>by first | exact ⟨(⟨true,ea,ec,r.es,da,dc,r.cs⟩,ba,s.length - r.p,bc),by rw [hN];rfl,⟨fun nd e h9=>by (rw [hN] at h9;injection h9 with h9;injection h9 with q1 q2;subst q1 q2;exact ⟨rfl,rfl⟩),QaQ hp0 hst hk2⟩,h'.ent aEt⟩ | exact ⟨(⟨true,ea,ec,r.es,none,0,[]⟩,ba,s.length - r.p,bc),by rw [hN];rfl,⟨fun nd e h9=>by (rw [hN] at h9;injection h9 with h9;injection h9 with q1 q2;subst q1 q2;exact ⟨rfl,rfl⟩),QaQ hp0 hst hk2⟩,(h'.own_nil 3 1).ent aEt⟩)
 have hz : noz r.cs = false:=by rw [Qk9];have hq:=h35;simpa using hq
 rw [hz] at hN
 refine aU3 ?_
 refine oCq rfl (fun w1 h1=>c158 w1 da dc r.cs 159 #[] (nzB r.cs) (h1.rw_own iv1 aPk rfl) (by omega) QtP (by simp [nzB]) (fun k w2 hk h2=>by rw [QqO hk];exact c159 w2 (nth r.cs k))) ?_
 refine aU2 ?_
 refine sCd rfl (fun h36=>?_) fun h36=>?_
 ·have hz2 : QdP r.cs = false:=by have hq:=h36;rw [QlY] at hq;simpa using hq
  rw [hz2] at hN
  have hN : rdN s p0 count = none:=hN
  refine aU7 ?_
  exact Qi (rs:=[.cell 4 69,.tmp 5,.tmp 6]) rfl (.cell rfl Yd aPk rfl (.tmp rfl (.tmp rfl (.nil)))) (fun w' h'=>⟨(⟨true,ea,ec,r.es,none,0,[]⟩,none,0,0),by rw [hN];rfl,⟨fun _ _ h9=>(by rw [hN] at h9;cases h9),QaQ hp0 hst hk2⟩,(h'.own_nil 3 1).ent aEt⟩)
 have hz2 : QdP r.cs = true:=by have hq:=h36;rw [QlY] at hq;simpa using hq
 rw [hz2] at hN
 have hN : rdN s p0 count = some (⟨true,r.es,[]⟩,r.p):=hN
 refine Qaj ?_
 exact Qi (rs:=[.cell 4 69,.tmp 5,.tmp 6]) rfl (.cell rfl Yd aPk rfl (.tmp rfl (.tmp rfl (.nil)))) (fun w' h'=>by first | exact ⟨(⟨true,ea,ec,r.es,da,dc,r.cs⟩,ba,s.length - r.p,bc),by rw [hN];rfl,⟨fun nd e h9=>by (rw [hN] at h9;injection h9 with h9;injection h9 with q1 q2;subst q1 q2;exact ⟨rfl,rfl⟩),QaQ hp0 hst hk2⟩,h'.ent aEt⟩ | exact ⟨(⟨true,ea,ec,r.es,none,0,[]⟩,ba,s.length - r.p,bc),by rw [hN];rfl,⟨fun nd e h9=>by (rw [hN] at h9;injection h9 with h9;injection h9 with q1 q2;subst q1 q2;exact ⟨rfl,rfl⟩),QaQ hp0 hst hk2⟩,(h'.own_nil 3 1).ent aEt⟩)
instance : TFn Tryz.prog 53:=⟨by kernel_rfl⟩
instance : TFn Tryz.prog 29:=⟨by kernel_rfl⟩
theorem c98 (w : World) (s : List UInt8) (p0 count : Nat) (hp0 : p0 ≤ s.length) (hsl : s.length ≤ 1000000) (hct : count ≤ 1000) : Calls Tryz.prog 98 #[.string (bs s),.int .i64 (p0 : Int),.int .i64 (count : Int)] w fun en w'=>∃ g : LNd × Nat,en = .returned (.tuple #[.agg (LNd.vals g.1).toArray,.int .i64 (g.2 : Int),.bool (rdN s p0 count).isSome]) ∧ ((∀ nd e,rdN s p0 count = some (nd,e) → g.1.pl = nd ∧ g.2 = e) ∧ g.1.es.length ≤ count ∧ ∀ x ∈ g.1.es,YB x 0 = true) ∧ HS w [] [.ents 27 g.1.ea g.1.ec g.1.es,.kids g.1.ca g.1.cc g.1.cs] w':=by
 refine eN3 Tryz.func98 Tryz.ntmps98 ?_
 refine aU2 ?_
 refine oAl (fun b1 _=>?_) XS
 refine aU5 ?_
 refine o_p (QF (cs:=[_,_,_]) rfl rfl QiR XS rfl) rfl ?_
 refine oAl (fun b2 _=>?_) XS
 refine Qes ?_
 refine Qt (α:=Nat × RdS × (Option Addr × Nat) × (Option Addr × Nat)) [1,7,8,10,11,12,13,14,15,16,17,21,22,23,24,25,26,27,28,29,30,31,32,33,34,35,36,37,38,39,40,41,42,43,44,45,46,47,48,49,50,51,52,53,54,55,56,57,58,59,60,61,62,63,64,65,66,67,68,69,70,71,72,73,74,75,76,77,78,79,80,81,82,83,84,85,86,87,88,89,90,91,92,93,94,95,96,97,98,99,100,101,102,103,104,105,106,107,108,109,110,111,112,113,114,115,116,117] (fun x=>[(11,.int .i64 (x.1 : Int)),(1,.int .i64 (x.2.1.p : Int)),(10,.slice x.2.2.2.1 x.2.1.cs.length x.2.2.2.2)]) (fun x=>HS w [] [.blk b2 69 3 [.bool true,.slice x.2.2.1.1 x.2.1.es.length x.2.2.1.2,.slice none 0 0],.own (.slice x.2.2.1.1 x.2.1.es.length x.2.2.1.2) 27 2 x.2.1.es.length (x.2.1.es.flatMap TEnt.vals),.own (.slice x.2.2.2.1 x.2.1.cs.length x.2.2.2.2) 3 1 x.2.1.cs.length (x.2.1.cs.flatMap inV),.blk b1 69 3 [.bool false,.slice none 0 0,.slice none 0 0]]) (fun x=>x.1 ≤ count ∧ rdE s p0 x.1 = some x.2.1) (fun x=>count - x.1) (0,⟨[],[],p0⟩,(none,0),(none,0)) ⟨Nat.zero_le _,rfl⟩ aSx (fun w h=>((h.own_nil 27 2).own_nil 3 1).ent aEt) (fun ⟨k,r,⟨ea,ec⟩,⟨da,dc⟩⟩ hk1=>?_)
 dsimp only
 simp only [] at hk1
 obtain ⟨hk2,hst⟩:=hk1
 obtain ⟨hle,hlc,hp1,hp2,_,hee,_⟩:=QaW hp0 hst
 refine aU7 ?_
 refine sCd rfl (fun h3=>?_) fun h3=>?_
 ·have hk : k < count:=by omega
  refine aT8 ?_
  refine aU ?_
  refine o_p (Qf rfl rfl Tryz.underlying9) rfl ?_
  refine aU2 ?_
  refine sCd rfl (fun h4=>?_) fun h4=>?_
  ·have hN : rdN s p0 count = none:=QeK hst hk (Qj4 (fun h9=>by have hq:=h4;have:=h9.1;omega)).1
   refine aU7 ?_
   exact Qi (rs:=[.cell 6 69,.tmp 7,.tmp 8]) rfl (.cell rfl Yd aPk rfl (.tmp rfl (.tmp rfl (.nil)))) (fun w' h'=>⟨(⟨true,ea,ec,r.es,none,0,[]⟩,0),by rw [hN];rfl,⟨fun _ _ h9=>(by rw [hN] at h9;cases h9),by show r.es.length ≤ _;omega,hee⟩,(h'.own_nil 3 1).ent aEt⟩)
  have h8 : r.p + 8 ≤ s.length:=by have hq:=h4;omega
  have hb2:=Qc2 s r.p
  have hbk:=XV s (r.p + 2)
  have hbv:=XV s (r.p + 3)
  have hb4:=Qk8 s (r.p + 4)
  have hsz : Q8 s r.p = 8 + ub1 s (r.p + 2) + ub1 s (r.p + 3):=rfl
  have hp8:=ZC (Q8 s r.p)
  refine aU5 ?_
  refine oCq rfl (fun w1 h1=>by have h9:=c72 w1 s (r.p) 2 (by omega) (by omega) (by omega);rw [QcH,Qch] at h9;exact h9) ?_
  refine aT3 ?_
  refine oCq rfl (fun w1 h1=>by have h9:=c72 w1 s (r.p + 2) 1 (by omega) (by omega) (by omega);rw [QcB,QkM] at h9;exact h9) ?_
  refine aT3 ?_
  refine oCq rfl (fun w1 h1=>by have h9:=c72 w1 s (r.p + 3) 1 (by omega) (by omega) (by omega);rw [QcB,QkM] at h9;exact h9) ?_
  refine aT3 ?_
  refine oCq rfl (fun w1 h1=>by have h9:=c72 w1 s (r.p + 4) 4 (by omega) (by omega) (by omega);rw [YU,Qf6] at h9;exact h9) ?_
  refine aU6 ?_
  refine Qj (L':=[(0,_),(1,_),(2,_),(6,_),(9,_),(10,_),(11,_),(12,_),(13,_),(14,_),(15,_),(20,_)]) aSx (fun _ h=>h) ?_
  refine aT3 ?_
  refine aT2 ?_
  refine Qk (show _ = Value.int .i64 ((Q8 s r.p : Nat) : Int) from congrArg (Value.int .i64) (by omega)) ?_
  refine aU7 ?_
  refine oCq rfl (fun w1 h1=>c95 w1 (Q8 s r.p) (by omega)) ?_
  refine aU2 ?_
  refine oOr 7 55 62 rfl
   (fun hg5 _=>by
    refine aT6 ?_
    refine aU3 ?_
    refine o_p (Qf rfl rfl Tryz.underlying9) rfl ?_
    refine aU2 ?_
    exact oJf 7 62)
   (fun hg7 _=>by
    refine aU6 ?_
    exact oJt 7 62) ?_
  refine aU ?_
  refine oOr 11 63 74 rfl
   (fun hg9 _=>by
    refine aT8 ?_
    refine aT6 ?_
    refine aU ?_
    refine o_p (Q0 _ _ (r.p + Q8 s r.p) (r.p + ub2 s r.p) rfl rfl Tryz.underlying9 ⟨_,_,rfl,(by omega)⟩ ⟨_,_,rfl,(by omega)⟩ (by omega) (by omega)) rfl ?_
    refine Qk (show _ = Value.string (bs (Qn s (r.p + Q8 s r.p) (ub2 s r.p - Q8 s r.p))) from by rw [Qak];congr 3;omega) ?_
    refine aU ?_
    refine oCq rfl (fun w1 h1=>c53 w1 (Qn s (r.p + Q8 s r.p) (ub2 s r.p - Q8 s r.p)) (by rw [Xf (by omega)];omega)) ?_
    refine aU2 ?_
    exact oJf 11 74)
   (fun hg11 _=>by
    refine Qaj ?_
    exact oJt 11 74) ?_
  refine aU ?_
  refine sCd rfl (fun h13=>?_) fun h13=>?_
  ·have hN : rdN s p0 count = none:=QeK hst hk (Qrj (fun h9=>by have hq:=h13;obtain ⟨q1,q2,q3⟩:=h9;grind))
   refine aU7 ?_
   exact Qi (rs:=[.cell 6 69,.tmp 7,.tmp 8]) rfl (.cell rfl Yd aPk rfl (.tmp rfl (.tmp rfl (.nil)))) (fun w' h'=>⟨(⟨true,ea,ec,r.es,none,0,[]⟩,0),by rw [hN];rfl,⟨fun _ _ h9=>(by rw [hN] at h9;cases h9),by show r.es.length ≤ _;omega,hee⟩,(h'.own_nil 3 1).ent aEt⟩)
  have h4 : ub2 s r.p = QS (Q8 s r.p) ∧ r.p + ub2 s r.p ≤ s.length ∧ zer (Qn s (r.p + Q8 s r.p) (ub2 s r.p - Q8 s r.p)) = true:=by have hq:=h13;grind
  obtain ⟨hes,hkl,hvl⟩:=Qc1 (s:=s) (p:=r.p) (by omega)
  refine aU2 ?_
  refine QL [19] QZ ?_
  refine dP 0 ?_
  refine dP 1 ?_
  refine dP 2 ?_
  try refine dWr ?_
  refine dP 3 ?_
  refine dP 4 ?_
  try refine dWr ?_
  refine dP 5 ?_
  refine dP 6 ?_
  try refine dWr ?_
  refine dV 7 rfl (Q0 _ _ (r.p + 8) (r.p + 8 + ub1 s (r.p + 2)) rfl rfl Tryz.underlying9 ⟨_,_,rfl,(by omega)⟩ ⟨_,_,rfl,(by omega)⟩ (by omega) (by omega)) ?_
  refine QT (show _ = Value.string (bs (Q3 s r.p).key) from by rw [Qak];congr 2;show Qn _ _ _ = Qn _ _ _;congr 1;omega) ?_
  refine dP 8 ?_
  refine dP 9 ?_
  refine dP 10 ?_
  try refine dWr ?_
  refine dP 11 ?_
  refine dP 12 ?_
  try refine dWr ?_
  refine dP 13 ?_
  refine dP 14 ?_
  refine dP 15 ?_
  try refine dWr ?_
  refine dV 16 rfl (Q0 _ _ (r.p + 8 + ub1 s (r.p + 2)) (r.p + Q8 s r.p) rfl rfl Tryz.underlying9 ⟨_,_,rfl,(by omega)⟩ ⟨_,_,rfl,(by omega)⟩ (by omega) (by omega)) ?_
  refine QT (show _ = Value.string (bs (Q3 s r.p).val) from by rw [Qak];congr 2;show Qn _ _ _ = Qn _ _ _;congr 1;omega) ?_
  refine dV 17 rfl (QF (cs:=[_,_]) rfl rfl Qdk Yb rfl) ?_
  refine dH 18 rfl (QbX rfl Yb) (fun b14 _=>?_)
  refine dBa ?_
  refine dSt 19 ?_ (hl:=(by simp only [Qg,List.length_set,List.length_cons,List.length_nil,List.length_map];omega))
  refine dTu [] ?_
  refine dNi ?_
  refine aU2 ?_
  refine Qj (L':=[(0,_),(1,_),(2,_),(6,_),(9,_),(10,_),(11,_),(12,_),(15,_),(17,_),(20,_)]) aSx (fun _ h=>h) ?_
  refine aU3 ?_
  refine oCq rfl (fun w1 h1=>c29 w1 (Q3 s r.p) ((ub4 s (r.p + 4) : Nat) : Int) (by omega) (by omega)) ?_
  refine aU2 ?_
  refine oOr 5 98 103 rfl
   (fun hg15 _=>by
    refine aU5 ?_
    refine o_p (Qf rfl rfl Tryz.underlying9) rfl ?_
    refine aU2 ?_
    exact oJf 5 103)
   (fun hg17 _=>by
    refine aU4 ?_
    exact oJt 5 103) ?_
  refine aU ?_
  refine sCd rfl (fun h19=>?_) fun h19=>?_
  ·have hN : rdN s p0 count = none:=QeK hst hk (QlF (by rw [Qji];have hq:=h19;grind))
   refine aU7 ?_
   exact Qi (rs:=[.cell 6 69,.tmp 7,.tmp 8]) rfl (.cell rfl Yd aPk rfl (.tmp rfl (.tmp rfl (.nil)))) (fun w' h'=>⟨(⟨true,ea,ec,r.es,none,0,[]⟩,0),by rw [hN];rfl,⟨fun _ _ h9=>(by rw [hN] at h9;cases h9),by show r.es.length ≤ _;omega,hee⟩,(h'.own_nil 3 1).ent aEt⟩)
  have hK : YB (Q3 s r.p) (ub4 s (r.p + 4)) = true:=by rw [Qji];have hq:=h19;grind
  have hok:=Qq8 h8 h4 hK
  refine aU6 ?_
  refine o_h (Ql (cs:=[_,_]) rfl rfl Q7 Yb rfl rfl rfl) rfl (fun b20 _=>?_)
  refine o_h (Xx ((Q3 s r.p).vals) rfl rfl rfl Q7 Tryz.underlying67 Yb rfl aPk (Xe aPk) rfl (ev1 _) (by omega) (by simp only [maxLen];omega)) rfl (fun b21 _=>?_)
  refine aU2 ?_
  refine o_h (Ql (cs:=[_]) rfl rfl QN Qbp rfl rfl rfl) rfl (fun b22 _=>?_)
  refine o_h (Xx (inV ((ub4 s (r.p + 4) : Nat) : Int)) rfl rfl rfl QN Tryz.underlying28 Qbp rfl aPk (Xe aPk) rfl (Qt4 _) (by omega) (by simp only [maxLen];omega)) rfl (fun b23 _=>?_)
  refine aT8 ?_
  refine aU3 ?_
  refine Qj (L':=[(0,_),(1,_),(2,_),(6,_),(9,_),(10,_),(11,_),(20,_)]) aSx (fun _ h=>h) ?_
  refine aT3 ?_
  refine aU2 ?_
  exact QW (k + 1,⟨r.es ++ [Q3 s r.p],r.cs ++ [((ub4 s (r.p + 4) : Nat) : Int)],r.p + ub2 s r.p⟩,(b21.1,b21.2),(b23.1,b23.2)) (by (try simp only []);omega) ⟨by (try simp only []);omega,Qdv hst hok⟩ (by dsimp only;rw [List.length_append];exact aSx) (fun w h=>by dsimp only;rw [@List.length_append _ r.es _,@List.length_append _ r.cs _,Qcs,Qcs];exact h.ent aEt)
 obtain rfl : k = count:=by omega
 refine Qo rfl ?_
 refine aT5 ?_
 refine aU ?_
 refine o_p (Qf rfl rfl Tryz.underlying9) rfl ?_
 refine aU2 ?_
 refine oOr 5 123 128 rfl
  (fun hg24 _=>by
   refine aU5 ?_
   refine oCq rfl (fun w1 h1=>by have h9:=c72 w1 s (r.p) 2 (by omega) (by omega) (by omega);rw [QcH,Qch] at h9;exact h9) ?_
   refine aU2 ?_
   exact oJf 5 128)
  (fun hg26 _=>by
   refine aU4 ?_
   exact oJt 5 128) ?_
 refine aU ?_
 refine oOr 6 129 135 rfl
  (fun hg28 _=>by
   refine aT6 ?_
   refine aU ?_
   refine oCq rfl (fun w1 h1=>by have h9:=c72 w1 s (r.p + 2) 2 (by omega) (by omega) (by omega);rw [QcH,Qch] at h9;exact h9) ?_
   refine aU2 ?_
   exact oJf 6 135)
  (fun hg30 _=>by
   refine aU5 ?_
   exact oJt 6 135) ?_
 refine aU ?_
 refine oOr 7 136 143 rfl
  (fun hg32 _=>by
   refine aT6 ?_
   refine aU ?_
   refine oCq rfl (fun w1 h1=>by have h9:=c72 w1 s (r.p + 4) 4 (by omega) (by omega) (by omega);rw [YU,Qf6] at h9;exact h9) ?_
   refine aU ?_
   refine oCq rfl (fun w1 h1=>c40 w1 _ _ _) ?_
   refine aU2 ?_
   exact oJf 7 143)
  (fun hg34 _=>by
   refine aU6 ?_
   exact oJt 7 143) ?_
 refine aU ?_
 refine sCd rfl (fun h36=>?_) fun h36=>?_
 ·have hN : rdN s p0 k = none:=Qlb hst (by unfold Y0;have hq:=h36;grind)
  refine aU7 ?_
  exact Qi (rs:=[.cell 6 69,.tmp 7,.tmp 8]) rfl (.cell rfl Yd aPk rfl (.tmp rfl (.tmp rfl (.nil)))) (fun w' h'=>⟨(⟨true,ea,ec,r.es,none,0,[]⟩,0),by rw [hN];rfl,⟨fun _ _ h9=>(by rw [hN] at h9;cases h9),by show r.es.length ≤ _;omega,hee⟩,(h'.own_nil 3 1).ent aEt⟩)
 have hE : Y0 s r.p = true:=by unfold Y0;have hq:=h36;grind
 have hN:=Qlo hst hE
 obtain ⟨h8,_,_,_⟩ : r.p + 8 ≤ s.length ∧ ub2 s r.p = 8 ∧ ub2 s (r.p + 2) = 0 ∧ ub4 s (r.p + 4) ≤ 120:=by simpa [Y0] using hE
 obtain ⟨ch,hch⟩ : ∃ ch : List Int,ch = r.cs ++ [((ub4 s (r.p + 4) : Nat) : Int)]:=⟨_,rfl⟩
 rw [← hch] at hN
 have hchl : ch.length ≤ 1001:=by rw [hch,List.length_append];simp only [List.length_cons,List.length_nil];omega
 refine aT7 ?_
 refine oCq rfl (fun w1 h1=>by have h9:=c72 w1 s (r.p + 4) 4 (by omega) (by omega) (by omega);rw [YU,Qf6] at h9;exact h9) ?_
 refine o_h (Ql (cs:=[_]) rfl rfl QN Qbp rfl rfl rfl) rfl (fun b37 _=>?_)
 refine o_h (Xx (inV ((ub4 s (r.p + 4) : Nat) : Int)) rfl rfl rfl QN Tryz.underlying28 Qbp rfl aPk (Xe aPk) rfl (Qt4 _) (by omega) (by simp only [maxLen];omega)) rfl (fun b38 _=>?_)
 refine Qk (show _ = Value.slice b38.1 ch.length b38.2 from by rw [hch,List.length_append];rfl) ?_
 refine aU8 ?_
 refine Qj (L':=[(0,_),(1,_),(2,_),(6,_),(9,_),(10,_),(11,_),(18,_),(20,_)]) aSx (fun _ h=>h) ?_
 refine aU4 ?_
 obtain ⟨fa,fc⟩:=b38
 dsimp only
 refine QaN (fun w9 h=>HS.kids_some (l:=ch) (by rw [hch,List.length_append];exact Nat.succ_pos _) (show HS w [] [.kids fa fc ch] w9 from by rw [hch,HA.kids,@List.length_append _ r.cs _,Qcs];exact h.ent aEt) .here) fun hfa=>?_
 obtain ⟨gf,rfl⟩:=hfa
 refine Qt (α:=Nat) [18,19,152,153,154,155,156,157,158,159,160,161,162,163,164,165] (fun i=>[(19,.int .i64 (i : Int)),(18,.int .i64 ((czI (ch.take i) : Nat) : Int))]) (fun _=>HS w [] [.blk b2 69 3 [.bool true,.slice ea r.es.length ec,.slice none 0 0],.own (.slice ea r.es.length ec) 27 2 r.es.length (r.es.flatMap TEnt.vals),.own (.slice (some ⟨gf,0,none⟩) ch.length fc) 3 1 ch.length (ch.flatMap inV),.blk b1 69 3 [.bool false,.slice none 0 0,.slice none 0 0]]) (fun i=>i ≤ ch.length) (fun i=>ch.length - i) 0 (Nat.zero_le _) aSx (fun w h=>by rw [hch,@List.length_append _ r.cs _,Qcs];exact h.ent aEt) (fun i hi1=>?_)
 refine aU8 ?_
 refine sCd rfl (fun h39=>?_) fun h39=>?_
 ·have hi : i < ch.length:=by omega
  have hcz : ((czI (ch.take (i + 1)) : Nat) : Int) = ((czI (ch.take i) : Nat) : Int) + (if nth ch i = 0 then 1 else 0):=by rw [QoJ hi];split <;> simp
  have hczl:=Qpu (ch.take i)
  rw [List.length_take] at hczl
  refine aU7 ?_
  refine o_p (Qc rfl rfl rfl QN (i) (by omega) (by omega) rfl) rfl ?_
  refine o_q (Xi rfl rfl Za (fun w9 h=>(show Rd w9 [] gf (0 + i * 1) (.int .i64 (nth ch i)) from (h.rw_own (a:=some ⟨gf,0,none⟩) (l:=ch) iv1 aPk rfl).rdj (i:=i) 0 hi rfl))) rfl ?_
  refine aU ?_
  refine oCq rfl (fun w1 h1=>Qtf w1 _) ?_
  refine aT ?_
  refine Qk (show _ = Value.int .i64 ((czI (ch.take (i + 1)) : Nat) : Int) from by rw [hcz];by_cases hz9 : nth ch i = 0 <;> simp only [hz9,decide_true,decide_false,if_true,if_false,Bool.false_eq_true] <;> first | rfl | exact Qet (by omega) (by omega)) ?_
  refine aT6 ?_
  refine aU2 ?_
  exact sBk (i + 1) (by omega) (by omega) (by exact aSx)
 obtain rfl : i = ch.length:=by omega
 rw [List.take_length]
 refine Qo rfl ?_
 refine aU6 ?_
 refine sCd rfl (fun h40=>?_) fun h40=>?_
 ·have hz : noz ch = true:=Qsk.1 (by have hq:=h40;omega)
  rw [hz] at hN
  have hN : rdN s p0 k = some (⟨true,r.es,ch⟩,r.p + 8):=hN
  refine Qml ?_
  refine aU4 ?_
  exact Qi (rs:=[.cell 6 69,.tmp 7,.tmp 8]) rfl (.cell rfl Yd aPk rfl (.tmp rfl (.tmp rfl (.nil)))) (fun w' h'=>by first | exact ⟨(⟨true,ea,ec,r.es,some ⟨gf,0,none⟩,fc,ch⟩,r.p + 8),by rw [hN];rfl,⟨fun nd e h9=>(by rw [hN] at h9;injection h9 with h9;injection h9 with q1 q2;subst q1 q2;exact ⟨rfl,rfl⟩),by show r.es.length ≤ _;omega,hee⟩,h'.ent aEt⟩ | exact ⟨(⟨true,ea,ec,r.es,none,0,[]⟩,r.p + 8),by rw [hN];rfl,⟨fun nd e h9=>(by rw [hN] at h9;injection h9 with h9;injection h9 with q1 q2;subst q1 q2;exact ⟨rfl,rfl⟩),by show r.es.length ≤ _;omega,hee⟩,(h'.own_nil 3 1).ent aEt⟩)
 have hz0 : ¬ czI ch = 0:=by have hq:=h40;omega
 have hz : noz ch = false:=by cases hb : noz ch;rfl;exact absurd (Qsk.2 hb) hz0
 rw [hz] at hN
 refine aU7 ?_
 refine sCd rfl (fun h41=>?_) fun h41=>?_
 ·have hz2 : QdP ch = false:=by cases hb : QdP ch;rfl;have:=QlS.2 hb;have hq:=h41;omega
  rw [hz2] at hN
  have hN : rdN s p0 k = none:=hN
  refine aU7 ?_
  exact Qi (rs:=[.cell 6 69,.tmp 7,.tmp 8]) rfl (.cell rfl Yd aPk rfl (.tmp rfl (.tmp rfl (.nil)))) (fun w' h'=>⟨(⟨true,ea,ec,r.es,none,0,[]⟩,0),by rw [hN];rfl,⟨fun _ _ h9=>(by rw [hN] at h9;cases h9),by show r.es.length ≤ _;omega,hee⟩,(h'.own_nil 3 1).ent aEt⟩)
 have hz2 : QdP ch = true:=QlS.1 (by have:=Qpu ch;have hq:=h41;omega)
 rw [hz2] at hN
 have hN : rdN s p0 k = some (⟨true,r.es,[]⟩,r.p + 8):=hN
 refine aT6 ?_
 refine aU4 ?_
 exact Qi (rs:=[.cell 6 69,.tmp 7,.tmp 8]) rfl (.cell rfl Yd aPk rfl (.tmp rfl (.tmp rfl (.nil)))) (fun w' h'=>by first | exact ⟨(⟨true,ea,ec,r.es,some ⟨gf,0,none⟩,fc,ch⟩,r.p + 8),by rw [hN];rfl,⟨fun nd e h9=>(by rw [hN] at h9;injection h9 with h9;injection h9 with q1 q2;subst q1 q2;exact ⟨rfl,rfl⟩),by show r.es.length ≤ _;omega,hee⟩,h'.ent aEt⟩ | exact ⟨(⟨true,ea,ec,r.es,none,0,[]⟩,r.p + 8),by rw [hN];rfl,⟨fun nd e h9=>(by rw [hN] at h9;injection h9 with h9;injection h9 with q1 q2;subst q1 q2;exact ⟨rfl,rfl⟩),by show r.es.length ≤ _;omega,hee⟩,(h'.own_nil 3 1).ent aEt⟩)
theorem Qsy : Xl Tryz.prog 58 = true:=by kernel_rfl
instance : TFn Tryz.prog 58:=⟨Qsy⟩
theorem Qrb {co : Int} {l : List TEnt} {k : Nat} (hco : Qp co = 0) (hk : k < l.length) (h : ∀ i,i < k → Qas co l i = true) : Qbg co (nth l (k - 1)).key (nth l k).key = Xq co (nth l k).key:=by
  unfold Qbg;rw [if_pos hco];rcases Nat.eq_zero_or_pos k with h0 | h0
  · subst h0
    by_cases hz : Xq co (nth l 0).key = 0
    · rw [if_pos hz]
    · rw [if_neg hz]
  · have h1:=h (k - 1) (by omega);unfold Qas at h1;rw [Bool.and_eq_true] at h1;rw [if_pos (QoR.2 h1.1)]
theorem c93 (w : World) (co : Int) (a : Option Addr) (cap : Nat) (l : List TEnt) (hs : Rw TEnt.vals 2 w [] a l) (hl : l.length ≤ 100000) (hkl : ∀ x ∈ l,x.key.length ≤ 1000000) (hco : Qp co = 0) : Calls Tryz.prog 93 #[.int .i64 co,.slice a l.length cap] w fun en w'=>en = .returned (.bool (QdI co l)) ∧ Below w.heap.size w w':=by
 refine eN2 Tryz.func93 Tryz.ntmps93 ?_
 refine Qes ?_
 refine Qt (α:=Nat) [4,5,6,7,8,11,12,13,14,15,16,17,18,19,20,21,22,23,24,25,26,27,28,29,30,31,32,33,34,35,36,37,38,39,40] (fun k=>[(11,.int .i64 (k : Int))]) (fun _=>HS w [] []) (fun k=>k ≤ l.length ∧ ∀ i,i < k → Qas co l i = true) (fun k=>l.length - k) 0 ⟨Nat.zero_le _,fun i h=>absurd h (Nat.not_lt_zero _)⟩ aSx (fun w h=>h.ent aEt) (fun k hkk=>?_)
 obtain ⟨hk1,hk2⟩:=hkk
 refine aU5 ?_
 refine sCd rfl (fun h1=>?_) fun h1=>?_
 ·have hk : k < l.length:=by omega
  have hcm:=Qrb hco hk hk2
  refine aU6 ?_
  refine o_p (Qc rfl rfl rfl Q7 (k) (by omega) (by omega) (Rw.some hs (by omega))) rfl ?_
  refine o_q (Zj _ rfl rfl YF rfl (Rw.rd hs (by omega))) rfl ?_
  refine oAl (fun b2 _=>?_) Yb
  refine aU4 ?_
  refine QL [] QZ ?_
  refine dP 0 ?_
  refine dP 1 ?_
  refine dP 2 ?_
  refine dP 3 ?_
  try refine dWr ?_
  refine dV 4 rfl (QkH rfl rfl rfl ) ?_
  refine QT (show _ = Value.int .i64 ((k - 1 : Nat) : Int) from congrArg (Value.int .i64) (by split <;> omega)) ?_
  refine dV 5 rfl (Qc rfl rfl rfl Q7 (k - 1) (by omega) (by omega) (Rw.some hs (by omega))) ?_
  refine dFa 6 ?_
  refine dQ 7 [] rfl (Qe rfl rfl Zw ((hs.rdj (i:=k - 1) 0 (by omega) rfl))) ?_
  refine dFa 8 ?_
  refine dLd 9 [] ?_
  refine dQ 10 [] rfl (QE rfl Qsy rfl (fun w1 h1=>c58 w1 co (nth l (k - 1)).key (nth l k).key (hkl _ (QC (by omega))) (hkl _ (QC hk)))) ?_
  refine dP 11 ?_
  refine dP 12 ?_
  refine dP 13 ?_
  refine dP 14 ?_
  refine dP 15 ?_
  refine dNi ?_
  refine aU5 ?_
  refine oOr 7 32 39 rfl
   (fun hg3 _=>by
    refine aU6 ?_
    refine YS 3 35 38 rfl
     (fun hg5 _=>by
      refine aU5 ?_
      exact oJt 3 38)
     (fun hg7 _=>by
      refine aU3 ?_
      exact oJf 3 38) ?_
    exact oJf 5 39)
   (fun hg9 _=>by
    refine aU6 ?_
    exact oJt 7 39) ?_
  refine aU ?_
  refine sCd rfl (fun h11=>?_) fun h11=>?_
  ·have hF : QdI co l = false:=Qk3 hk (by unfold Qas;have hq:=h11;rw [hcm] at hq;unfold Xq at hq;grind)
   refine aU ?_
   refine Qj (L':=[(0,_),(1,_),(9,_),(10,_),(11,_)]) aSx (fun _ h=>h) ?_
   refine aU3 ?_
   exact rT rfl rfl (fun w' h'=>⟨by rw [hF];rfl,h'.below⟩)
  have hA : Qas co l k = true:=by unfold Qas;have hq:=h11;rw [hcm] at hq;unfold Xq at hq;grind
  refine aU2 ?_
  refine Qj (L':=[(0,_),(1,_),(9,_),(10,_),(11,_)]) aSx (fun _ h=>h) ?_
  refine aT2 ?_
  refine aU2 ?_
  exact sBk (k + 1) (by omega) ⟨by omega,fun i hi=>(Nat.lt_or_ge i k).elim (hk2 i) (fun h=>by obtain rfl : i = k:=(by omega);exact hA)⟩
 obtain rfl : k = l.length:=by omega
 have hT : QdI co l = true:=Qbo.2 hk2
 refine Qo rfl ?_
 refine aU4 ?_
 exact rT rfl rfl (fun w' h'=>⟨by rw [hT];rfl,h'.below⟩)
theorem c70 (w : World) (j : Nat) (n : LNd) (hj : j ≤ 3) (hes : Rw TEnt.vals 2 w [] n.ea n.es) (hl : n.es.length ≤ 100000) (hkl : ∀ x ∈ n.es,x.key.length ≤ 1000000) : Calls Tryz.prog 70 #[.int .i64 (j : Int),.agg #[.bool n.us,.slice n.ea n.es.length n.ec,.slice n.ca n.cs.length n.cc]] w fun en w'=>en = .returned (.bool (XL (j : Int) n.es)) ∧ Below w.heap.size w w':=by
 refine eN2 Tryz.func70 Tryz.ntmps70 ?_
 refine aU2 ?_
 refine oBx fun b1 _=>?_
 refine aU8 ?_
 refine Qt (α:=Nat) [4,5,6,7,8,9,10,11,12,13,14,15,16,17,18,19,20,21] (fun k=>[(5,.int .i64 (k : Int))]) (fun _=>HS w [] [.blk b1 69 3 (LNd.vals n)]) (fun k=>k ≤ n.es.length ∧ ∀ i,i < k → QB (j : Int) (nth n.es i).key = true) (fun k=>n.es.length - k) 0 ⟨Nat.zero_le _,fun i h=>absurd h (Nat.not_lt_zero _)⟩ aSx (fun w h=>h.ent aEt) (fun k hkk=>?_)
 obtain ⟨hk1,hk2⟩:=hkk
 refine aU9 ?_
 refine sCd rfl (fun h2=>?_) fun h2=>?_
 ·have hk : k < n.es.length:=by omega
  refine aU9 ?_
  refine o_p (Qc rfl rfl rfl Q7 (k) (by omega) (by omega) (Rw.some hes (by omega))) rfl ?_
  refine aU ?_
  refine o_q (Qe rfl rfl Zw ((hes.rdj (i:=k) 0 (by omega) rfl))) rfl ?_
  refine oCq rfl (fun w1 h1=>c17 w1 j (nth n.es k).key hj (hkl _ (QC hk))) ?_
  refine aU2 ?_
  refine sCd rfl (fun h3=>?_) fun h3=>?_
  ·have hF : XL (j : Int) n.es = false:=Qh5 hk (by have hq:=h3;unfold Xq at hq;grind)
   refine aU4 ?_
   exact rT rfl rfl (fun w' h'=>⟨by rw [hF];rfl,h'.below⟩)
  have hA : QB (j : Int) (nth n.es k).key = true:=by have hq:=h3;unfold Xq at hq;grind
  refine aT5 ?_
  refine aU2 ?_
  exact sBk (k + 1) (by omega) ⟨by omega,fun i hi=>(Nat.lt_or_ge i k).elim (hk2 i) (fun h=>by obtain rfl : i = k:=(by omega);exact hA)⟩
 obtain rfl : k = n.es.length:=by omega
 have hT : XL (j : Int) n.es = true:=QbK hk2
 refine Qo rfl ?_
 refine aU4 ?_
 exact rT rfl rfl (fun w' h'=>⟨by rw [hT];rfl,h'.below⟩)
instance : TFn Tryz.prog 91:=⟨by kernel_rfl⟩
instance : TFn Tryz.prog 92:=⟨by kernel_rfl⟩
instance : TFn Tryz.prog 93:=⟨by kernel_rfl⟩
theorem c28 (w : World) (s : List UInt8) (hsl : s.length ≤ 1000000) : Calls Tryz.prog 28 #[.string (bs s)] w fun en w'=>∃ g : (Option Addr × Nat) × List LNd,en = .returned (.tuple #[.agg #[.int .i64 (Qa s).1.co,.int .i64 (Qa s).1.mo,.int .i64 (Qa s).1.rm,.slice g.1.1 g.2.length g.1.2],.int .i64 (Qa s).2]) ∧ pln g.2 = (Qa s).1.ns ∧ HS w [] [.nodes 27 69 g.1.1 g.1.2 g.2] w':=by
 have hb4:=(s.getD 4 0).toNat_lt
 have hb5:=(s.getD 5 0).toNat_lt
 have hb6:=(s.getD 6 0).toNat_lt
 have hb7:=(s.getD 7 0).toNat_lt
 have hf9 : Xt [.int .i64 (if Qp (at1 s 4) = 0 then XO (at1 s 5) (at1 s 6) else Qp (at1 s 4)),.int .i64 (cond (decide (at1 s 5 ≤ 4)) 0 8),.int .i64 (cond (decide (at1 s 7 ≤ at1 s 6)) 0 16)] = rtE s:=by simp only [Xt,rtE,cond_eq_ite,decide_eq_true_eq];grind
 refine eN1 Tryz.func28 Tryz.ntmps28 ?_
 refine aU2 ?_
 refine oAl (fun b1 _=>?_) YD
 refine aU5 ?_
 refine o_h (Z2 rfl rfl Tryz.underlying9 Tryz.underlying139 Tryz.underlying5 rfl (by simp only [maxLen];omega)) rfl (fun ⟨b2,c3⟩ ⟨h4,k5⟩=>?_)
 refine aU9 ?_
 refine sCd rfl (fun h6=>?_) fun h6=>?_
 ·have hR : Qa s = (noT,10):=Qiv (by have hq:=h6;omega)
  refine aU2 ?_
  refine o_p (QF (cs:=[_,_,_,_]) rfl rfl Qdx YD rfl) rfl ?_
  refine aU3 ?_
  exact Qi (rs:=[.cell 2 37,.tmp 3]) rfl (.cell rfl Yz aPk rfl (.tmp rfl (.nil))) (fun w' h'=>⟨((none,0),[]),by rw [hR];rfl,by rw [hR];rfl,(Q2 27 69 h'.nil).ent aEt⟩)
 have h16 : ¬ s.length < 16:=by have hq:=h6;omega
 refine aU5 ?_
 refine o_p (Qs _ _ 0 4 rfl rfl Qw rfl ⟨_,_,rfl,rfl⟩ (by omega) (by omega)) rfl ?_
 refine Qk (show _ = Value.slice (some ⟨b2,0,none⟩) 4 c3 from by rw [Y9];rfl) ?_
 refine o_q (Qhz s rfl rfl Tryz.underlying139 Tryz.underlying9 Tryz.underlying5 (by omega) aPk) rfl ?_
 refine aU2 ?_
 refine sCd rfl (fun h7=>?_) fun h7=>?_
 ·have hR : Qa s = (noT,3):=Qk4 h16 (by have hq:=h7;intro h9;rw [h9] at hq;simp [Qa8] at hq)
  refine aU2 ?_
  refine o_p (QF (cs:=[_,_,_,_]) rfl rfl Qdx YD rfl) rfl ?_
  refine aU3 ?_
  exact Qi (rs:=[.cell 2 37,.tmp 3]) rfl (.cell rfl Yz aPk rfl (.tmp rfl (.nil))) (fun w' h'=>⟨((none,0),[]),by rw [hR];rfl,by rw [hR];rfl,(Q2 27 69 h'.nil).ent aEt⟩)
 have hs4 : s.take 4 = Qa8:=by have hq:=h7;first | exact hq | simpa [Qa8] using hq
 refine aU2 ?_
 refine QL [] QZ ?_
 refine dP 0 ?_
 refine dV 1 rfl (Qc rfl rfl rfl Qw 4 rfl (by omega) rfl) ?_
 refine dQ 2 [] rfl (Xi rfl rfl QdB (fun w9 h=>by rw [Nat.zero_add];exact h.rd_blk (Mc:=[]) aPk (by rw [Nat.mul_one];exact ZR (l:=s) (k:=4) (by omega)) (by simp))) ?_
 refine dV 3 rfl (Qm rfl rfl Zf YY) ?_
 try refine dWr ?_
 refine QT (show _ = Value.int .i64 (at1 s 4) from by first | rfl | exact Qet (by omega) (by omega)) ?_
 refine dP 4 ?_
 refine dV 5 rfl (Qc rfl rfl rfl Qw 5 rfl (by omega) rfl) ?_
 refine dQ 6 [] rfl (Xi rfl rfl QdB (fun w9 h=>by rw [Nat.zero_add];exact h.rd_blk (Mc:=[]) aPk (by rw [Nat.mul_one];exact ZR (l:=s) (k:=5) (by omega)) (by simp))) ?_
 refine dV 7 rfl (Qm rfl rfl Zf YY) ?_
 try refine dWr ?_
 refine QT (show _ = Value.int .i64 (at1 s 5) from by first | rfl | exact Qet (by omega) (by omega)) ?_
 refine dP 8 ?_
 refine dV 9 rfl (Qc rfl rfl rfl Qw 6 rfl (by omega) rfl) ?_
 refine dQ 10 [] rfl (Xi rfl rfl QdB (fun w9 h=>by rw [Nat.zero_add];exact h.rd_blk (Mc:=[]) aPk (by rw [Nat.mul_one];exact ZR (l:=s) (k:=6) (by omega)) (by simp))) ?_
 refine dV 11 rfl (Qm rfl rfl Zf YY) ?_
 try refine dWr ?_
 refine QT (show _ = Value.int .i64 (at1 s 6) from by first | rfl | exact Qet (by omega) (by omega)) ?_
 refine dP 12 ?_
 refine dV 13 rfl (Qc rfl rfl rfl Qw 7 rfl (by omega) rfl) ?_
 refine dQ 14 [] rfl (Xi rfl rfl QdB (fun w9 h=>by rw [Nat.zero_add];exact h.rd_blk (Mc:=[]) aPk (by rw [Nat.mul_one];exact ZR (l:=s) (k:=7) (by omega)) (by simp))) ?_
 refine dV 15 rfl (Qm rfl rfl Zf YY) ?_
 try refine dWr ?_
 refine QT (show _ = Value.int .i64 (at1 s 7) from by first | rfl | exact Qet (by omega) (by omega)) ?_
 refine dP 16 ?_
 refine dP 17 ?_
 refine dP 18 ?_
 refine dP 19 ?_
 refine dNi ?_
 refine aU ?_
 refine Qj (L':=[(2,_),(3,_),(4,_),(5,_),(6,_),(7,_),(8,_)]) aSx (fun _ h=>h) ?_
 refine aU4 ?_
 refine oCh rfl (fun w1 h1=>c91 w1 (at1 s 4) (at1 s 5) (at1 s 6)) (fun ⟨⟨na,nc⟩,nL⟩ hnL=>?_)
 refine aU3 ?_
 refine oAl (fun b8 _=>?_) YD
 refine aU9 ?_
 refine oCq rfl (fun w1 h1=>c60 w1 _ _) ?_
 refine aU3 ?_
 refine oCq rfl (fun w1 h1=>c60 w1 _ _) ?_
 refine o_h (Ql (cs:=[_,_,_]) rfl rfl Y3 Qcj rfl rfl rfl) rfl (fun b9 _=>?_)
 refine oCq rfl (fun w1 h1=>f59 h1 aPk (by rfl) (by rfl) (by decide)) ?_
 refine aU7 ?_
 refine sCd rfl (fun h10=>?_) fun h10=>?_
 ·have hR : Qa s = (noT,Xt [.int .i64 (if Qp (at1 s 4) = 0 then XO (at1 s 5) (at1 s 6) else Qp (at1 s 4)),.int .i64 (cond (decide (at1 s 5 ≤ 4)) 0 8),.int .i64 (cond (decide (at1 s 7 ≤ at1 s 6)) 0 16)]):=by rw [hf9];exact Qtc h16 hs4 (by have hq:=h10;rwa [hf9] at hq)
  refine aU2 ?_
  refine o_p (QF (cs:=[_,_,_,_]) rfl rfl Qdx YD rfl) rfl ?_
  refine aU4 ?_
  exact Qi (rs:=[.cell 2 37,.tmp 3]) rfl (.cell rfl Yz aPk rfl (.tmp rfl (.nil))) (fun w' h'=>⟨((none,0),[]),by rw [hR];rfl,by rw [hR];rfl,(Q2 27 69 h'.nil).ent aEt⟩)
 have hE : rtE s = 0:=by have hq:=h10;rwa [hf9] at hq
 obtain ⟨h3,h4,h5,h6⟩:=Qu9 hE
 have hem : Qga (at1 s 4) (at1 s 5) (at1 s 6) = ⟨at1 s 4,at1 s 5,at1 s 6,[⟨true,[],[]⟩]⟩:=by unfold Qga;rw [if_pos h3,if_pos h4]
 rw [hem] at hnL
 obtain ⟨x9,hx9,_⟩:=Qkt hnL
 subst hx9
 rw [hem]
 dsimp only
 refine QaN (fun w9 h=>HS.nodes_some (L:=[x9]) (Nat.succ_pos _) h aPk) fun hna=>?_
 obtain ⟨g9,rfl,hna1,hna2⟩:=hna
 refine QhV (fun w9 h=>(show HS w [] (.blk g9 69 (nc * 3) [.bool x9.us,.slice x9.ea x9.es.length x9.ec,.slice x9.ca x9.cs.length x9.cc] :: _) w9 from HS.nodes_blk h aPk)) ?_
 refine aU4 ?_
 refine o_p (Qs _ _ 8 s.length rfl rfl Qw ⟨_,_,rfl,rfl⟩ rfl (by omega) (by omega)) rfl ?_
 refine aU ?_
 refine oCh rfl (fun w1 h1=>c92 w1 s 8 (ub1 s 7) (XC (some ⟨b2,0,none⟩) c3 8 1) (c3 - 8) (by have h9:=(h1.vl_blk (cs:=s.map bv) aPk).dropA (k:=8) (cap:=c3) (by rw [List.length_map];omega) (by rw [List.length_map];omega);rw [← List.map_drop] at h9;exact h9) (by omega) hsl (by omega) (by have hq9 : c3 ≤ maxLen:=(by assumption);simp only [maxLen] at hq9;omega) (by have:=XV s 7;omega)) (fun ⟨gn,gr,gl,gc⟩ hgn=>?_)
 refine aU4 ?_
 refine oAl (fun b11 _=>?_) XS
 refine aU6 ?_
 refine Qj (L':=[(2,_),(3,_),(5,_),(9,_),(11,_),(12,_),(13,_)]) aSx (fun _ h=>h) ?_
 refine aU4 ?_
 refine oOr 4 72 76 rfl
  (fun hg12 _=>by
   refine aU6 ?_
   exact oJf 4 76)
  (fun hg14 _=>by
   refine aU3 ?_
   exact oJt 4 76) ?_
 refine aU ?_
 refine oOr 6 77 83 rfl
  (fun hg16 _=>by
   refine aU7 ?_
   refine oCq rfl (fun w1 h1=>c93 w1 (at1 s 4) gn.ea gn.ec gn.es (h1.rw_own ev2 aPk rfl) (by have h9 : gn.es.length ≤ ub1 s 7:=hgn.2.1;have:=XV s 7;omega) (fun x hx=>by have:=hgn.2.2 x hx;simp only [YB,decide_eq_true_eq] at this;omega) h3) ?_
   refine aU2 ?_
   exact oJf 6 83)
  (fun hg18 _=>by
   refine aU5 ?_
   exact oJt 6 83) ?_
 refine aU ?_
 refine sCd rfl (fun h20=>?_) fun h20=>?_
 ·have hR : Qa s = (noT,3):=Qj1 h16 hs4 h3 h4 h5 h6 (fun n9 hn9=>by have hq:=h20;have h91:=hgn.1 _ _ hn9;rw [hn9] at hq;have h92 : gn.es = n9.es:=congrArg Nd.es h91.1;rw [h92] at hq;have h93:=h91.2;(try simp only [Option.isSome_some] at hq);grind)
  refine aU2 ?_
  refine o_p (QF (cs:=[_,_,_,_]) rfl rfl Qdx YD rfl) rfl ?_
  refine aU3 ?_
  exact Qi (rs:=[.cell 2 37,.tmp 3]) rfl (.cell rfl Yz aPk rfl (.tmp rfl (.nil))) (fun w' h'=>⟨((none,0),[]),by rw [hR];rfl,by rw [hR];rfl,(Q2 27 69 h'.nil).ent aEt⟩)
 obtain ⟨⟨n9,e9⟩,hrd⟩ : ∃ q,rdN s 8 (ub1 s 7) = some q:=Option.isSome_iff_exists.1 (by have hq:=h20;grind)
 obtain ⟨hpl9,hgl9⟩:=hgn.1 _ _ hrd
 have he9:=(QeN (by omega) hrd).2.2.1
 have hee : e9 = s.length:=by have hq:=h20;grind
 subst hee
 have hes9 : gn.es = n9.es:=congrArg Nd.es hpl9
 have hR:=Qsa h16 hs4 h3 h4 h5 h6 hrd (by rw [← hes9];have hq:=h20;grind)
 refine aU5 ?_
 refine Qk (show _ = Value.slice (some ⟨g9,0,none⟩) 1 nc from rfl) ?_
 refine aU ?_
 refine o_p (Qc rfl rfl rfl Yn 0 rfl (by omega) rfl) rfl ?_
 refine Qk (show _ = Value.pointer (some ⟨g9,0,none⟩) from rfl) ?_
 refine aU8 ?_
 exact Qi (rs:=[.cell 2 37,.tmp 3]) rfl (.cell rfl Yz aPk rfl (.tmp rfl (.nil))) (fun w' h'=>⟨((some ⟨g9,0,none⟩,nc),[gn]),by rw [hR];rfl,by rw [hR];show [gn.pl] = _;rw [hpl9],(HS.nodes_of1 (HS.own_shut (n:=1) (cap:=nc) (sz:=3) (h'.ent (Bs:=[.blk g9 69 (nc * 3) (LNd.vals gn),.ents 27 gn.ea gn.ec gn.es,.kids gn.ca gn.cc gn.cs]) aEt) rfl hna1 hna2)).ent aEt⟩)
instance : TFn Tryz.prog 98:=⟨by kernel_rfl⟩
instance : TFn Tryz.prog 70:=⟨by kernel_rfl⟩
theorem c31 (w : World) (s : List UInt8) (hsl : s.length ≤ 1000000) : Calls Tryz.prog 31 #[.string (bs s)] w fun en w'=>∃ g : (Option Addr × Nat) × List LNd,en = .returned (.tuple #[.agg #[.int .i64 (Qa s).1.co,.int .i64 (Qa s).1.mo,.int .i64 (Qa s).1.rm,.slice g.1.1 g.2.length g.1.2],.int .i64 (Qa s).2]) ∧ pln g.2 = (Qa s).1.ns ∧ HS w [] [.nodes 27 69 g.1.1 g.1.2 g.2] w':=by
 have hb4:=Qbk s 4
 have hb5:=Qbk s 5
 have hb6:=Qbk s 6
 have hb7:=Qbk s 7
 refine eN1 Tryz.func31 Tryz.ntmps31 ?_
 refine aU2 ?_
 refine oAl (fun b1 _=>?_) YD
 refine aU4 ?_
 refine o_p (QF (cs:=[_,_,_,_]) rfl rfl Qdx YD rfl) rfl ?_
 refine oAl (fun b2 _=>?_) YD
 refine aU6 ?_
 refine o_p (Qf rfl rfl Tryz.underlying9) rfl ?_
 refine aU2 ?_
 refine sCd rfl (fun h3=>?_) fun h3=>?_
 ·have hR : Qa s = (noT,10):=Qiv (by have hq:=h3;omega)
  refine aU6 ?_
  exact Qi (rs:=[.cell 2 37,.tmp 3]) rfl (.cell rfl Yz aPk rfl (.tmp rfl (.nil))) (fun w' h'=>⟨((none,0),[]),by rw [hR];rfl,by rw [hR];rfl,(Q2 27 69 h'.nil).ent aEt⟩)
 have h16 : ¬ s.length < 16:=by have hq:=h3;omega
 refine aU5 ?_
 refine o_p (YR 4 rfl rfl rfl Tryz.underlying9 rfl (by omega)) rfl ?_
 refine aU2 ?_
 refine sCd rfl (fun h4=>?_) fun h4=>?_
 ·have hR : Qa s = (noT,3):=Qk4 h16 (by have hq:=h4;intro h9;rw [h9] at hq;simp [Qa8] at hq)
  refine aU6 ?_
  exact Qi (rs:=[.cell 2 37,.tmp 3]) rfl (.cell rfl Yz aPk rfl (.tmp rfl (.nil))) (fun w' h'=>⟨((none,0),[]),by rw [hR];rfl,by rw [hR];rfl,(Q2 27 69 h'.nil).ent aEt⟩)
 have hs4 : s.take 4 = Qa8:=by have hq:=h4;first | exact hq | simpa [Qa8] using hq
 refine aU4 ?_
 refine oCq rfl (fun w1 h1=>by have h9:=c72 w1 s 4 1 (by omega) (by omega) (by omega);rw [QcB] at h9;exact h9) ?_
 refine aU ?_
 refine oCq rfl (fun w1 h1=>by have h9:=c72 w1 s 5 1 (by omega) (by omega) (by omega);rw [QcB] at h9;exact h9) ?_
 refine aU ?_
 refine oCq rfl (fun w1 h1=>by have h9:=c72 w1 s 6 1 (by omega) (by omega) (by omega);rw [QcB] at h9;exact h9) ?_
 refine o_p (QF (cs:=[_,_,_,_]) rfl rfl Qdx YD rfl) rfl ?_
 refine oAl (fun b5 _=>?_) YD
 refine aU7 ?_
 refine oCq rfl (fun w1 h1=>c96 w1 _) ?_
 refine aU7 ?_
 refine sCd rfl (fun h6=>?_) fun h6=>?_
 ·have hR : Qa s = (noT,Qp (at1 s 4)):=Qnx h16 hs4 h6
  refine aU7 ?_
  exact Qi (rs:=[.cell 2 37,.tmp 3]) rfl (.cell rfl Yz aPk rfl (.tmp rfl (.nil))) (fun w' h'=>⟨((none,0),[]),by rw [hR];rfl,by rw [hR];rfl,(Q2 27 69 h'.nil).ent aEt⟩)
 have h3 : Qp (at1 s 4) = 0:=h6
 obtain ⟨j,hj,hj3⟩:=QcI h3
 refine aU8 ?_
 refine oCq rfl (fun w1 h1=>c97 w1 _ _) ?_
 refine aU3 ?_
 refine Qj (L':=[(0,_),(2,_),(3,_),(4,_),(5,_),(7,_)]) aSx (fun _ h=>h) ?_
 refine aU4 ?_
 refine sCd rfl (fun h7=>?_) fun h7=>?_
 ·have hR : Qa s = (noT,XO (at1 s 5) (at1 s 6)):=QpE h16 hs4 h3 h7
  refine aU7 ?_
  exact Qi (rs:=[.cell 2 37,.tmp 3]) rfl (.cell rfl Yz aPk rfl (.tmp rfl (.nil))) (fun w' h'=>⟨((none,0),[]),by rw [hR];rfl,by rw [hR];rfl,(Q2 27 69 h'.nil).ent aEt⟩)
 have h4 : XO (at1 s 5) (at1 s 6) = 0:=h7
 refine aU8 ?_
 refine sCd rfl (fun h8=>?_) fun h8=>?_
 ·have hR : Qa s = (noT,8):=QlO h16 hs4 h3 h4 (by have hq:=h8;omega)
  refine aU6 ?_
  exact Qi (rs:=[.cell 2 37,.tmp 3]) rfl (.cell rfl Yz aPk rfl (.tmp rfl (.nil))) (fun w' h'=>⟨((none,0),[]),by rw [hR];rfl,by rw [hR];rfl,(Q2 27 69 h'.nil).ent aEt⟩)
 have h5 : at1 s 5 ≤ 4:=by have hq:=h8;omega
 refine aU4 ?_
 refine oCq rfl (fun w1 h1=>by have h9:=c72 w1 s 7 1 (by omega) (by omega) (by omega);rw [QcB] at h9;exact h9) ?_
 refine Qaj ?_
 refine sCd rfl (fun h9=>?_) fun h9=>?_
 ·have hR : Qa s = (noT,16):=QlG h16 hs4 h3 h4 h5 (by have hq:=h9;omega)
  refine aU6 ?_
  exact Qi (rs:=[.cell 2 37,.tmp 3]) rfl (.cell rfl Yz aPk rfl (.tmp rfl (.nil))) (fun w' h'=>⟨((none,0),[]),by rw [hR];rfl,by rw [hR];rfl,(Q2 27 69 h'.nil).ent aEt⟩)
 have h6 : at1 s 7 ≤ at1 s 6:=by have hq:=h9;omega
 refine aU5 ?_
 refine oCh rfl (fun w1 h1=>c98 w1 s 8 (ub1 s 7) (by omega) hsl (by have:=XV s 7;omega)) (fun ⟨gn,gl⟩ hgn=>?_)
 refine aU4 ?_
 refine oAl (fun b10 _=>?_) XS
 refine Qaj ?_
 refine oOr 5 65 70 rfl
  (fun hg11 _=>by
   refine aU5 ?_
   refine o_p (Qf rfl rfl Tryz.underlying9) rfl ?_
   refine aU2 ?_
   exact oJf 5 70)
  (fun hg13 _=>by
   refine aU4 ?_
   exact oJt 5 70) ?_
 refine aU ?_
 refine oOr 6 71 77 rfl
  (fun hg15 _=>by
   refine aU7 ?_
   refine oCq rfl (fun w1 h1=>by have h9:=c70 w1 j gn hj3 (h1.rw_own ev2 aPk rfl) (by have h9 : gn.es.length ≤ ub1 s 7:=hgn.2.1;have:=XV s 7;omega) (fun x hx=>by have:=hgn.2.2 x hx;simp only [YB,decide_eq_true_eq] at this;omega);rw [← hj] at h9;exact h9) ?_
   refine aU2 ?_
   exact oJf 6 77)
  (fun hg17 _=>by
   refine aU5 ?_
   exact oJt 6 77) ?_
 refine aU ?_
 refine sCd rfl (fun h19=>?_) fun h19=>?_
 ·have hR : Qa s = (noT,3):=Qj1 h16 hs4 h3 h4 h5 h6 (fun n9 hn9=>by have hq:=h19;have h91:=hgn.1 _ _ hn9;rw [hn9] at hq;have h92 : gn.es = n9.es:=congrArg Nd.es h91.1;(try simp only [Option.isSome_some] at hq);have h93 : gl = s.length:=h91.2;have h94 : XL (at1 s 4) gn.es = false:=(by grind);rw [← h92];cases hb9 : QdI (at1 s 4) gn.es;rfl;have h95 : XL (at1 s 4) gn.es = true:=QbK (fun i hi=>(by have:=Qbo.1 hb9 i hi;unfold Qas at this;rw [Bool.and_eq_true] at this;exact this.1));rw [h94] at h95;cases h95)
  refine aU ?_
  refine Qj (L':=[(2,_),(3,_),(4,_),(5,_),(9,_)]) aSx (fun _ h=>h) ?_
  refine aU5 ?_
  exact Qi (rs:=[.cell 2 37,.tmp 3]) rfl (.cell rfl Yz aPk rfl (.tmp rfl (.nil))) (fun w' h'=>⟨((none,0),[]),by rw [hR];rfl,by rw [hR];rfl,(Q2 27 69 h'.nil).ent aEt⟩)
 obtain ⟨⟨n9,e9⟩,hrd⟩ : ∃ q,rdN s 8 (ub1 s 7) = some q:=Option.isSome_iff_exists.1 (by have hq:=h19;grind)
 obtain ⟨hpl9,hgl9⟩:=hgn.1 _ _ hrd
 have hee : e9 = s.length:=by have hq:=h19;grind
 subst hee
 have hes9 : gn.es = n9.es:=congrArg Nd.es hpl9
 have hky : XL (at1 s 4) gn.es = true:=by have hq:=h19;grind
 have hgl : gn.es.length ≤ 255:=by have h9 : gn.es.length ≤ ub1 s 7:=hgn.2.1;have:=XV s 7;omega
 have hkl9 : ∀ x ∈ gn.es,x.key.length ≤ 1000000:=(fun x hx=>by have:=hgn.2.2 x hx;simp only [YB,decide_eq_true_eq] at this;omega)
 refine aU3 ?_
 refine Qj (L':=[(2,_),(3,_),(4,_),(5,_),(9,_)]) aSx (fun _ h=>h) ?_
 refine aU4 ?_
 refine Qt (α:=Nat) [3,12,79,80,81,82,83,84,85,86,87,88,89,90,91,92,93,94,95,96,97,98,99,100,101,102,103] (fun i=>[(12,.int .i64 (i : Int))]) (fun _=>HS w [] [.blk b10 69 3 [.bool gn.us,.slice gn.ea gn.es.length gn.ec,.slice gn.ca gn.cs.length gn.cc],.ents 27 gn.ea gn.ec gn.es,.kids gn.ca gn.cc gn.cs,.blk b5 37 4 [.int .i64 (at1 s 4),.int .i64 (at1 s 5),.int .i64 (at1 s 6),.slice none 0 0],.blk b2 37 4 [.int .i64 0,.int .i64 0,.int .i64 0,.slice none 0 0],.blk b1 37 4 [.int .i64 0,.int .i64 0,.int .i64 0,.slice none 0 0]]) (fun i=>1 ≤ i ∧ ∀ i9,0 < i9 → i9 < i → Xm (at1 s 4) (nth gn.es (i9 - 1)).key (nth gn.es i9).key < 0) (fun i=>gn.es.length + 1 - i) 1 ⟨Nat.le_refl _,fun i h1 h2=>by omega⟩ aSx (fun w h=>h.ent aEt) (fun i hii=>?_)
 obtain ⟨hi1,hi2⟩:=hii
 refine aU9 ?_
 refine sCd rfl (fun h20=>?_) fun h20=>?_
 ·have hi : i < gn.es.length:=by omega
  refine QaN (fun w9 h=>HS.ents_some (l:=gn.es) (by omega) h aPk) fun hge=>?_
  obtain ⟨ge,hge⟩:=hge
  refine aU4 ?_
  refine QL [] QZ ?_
  refine dFa 0 ?_
  refine dLd 1 [] ?_
  refine dFa 2 ?_
  refine dLd 3 [] ?_
  refine dP 4 ?_
  refine dP 5 ?_
  try refine dWr ?_
  refine dV 6 rfl (Qc rfl rfl rfl Q7 (i - 1) (by omega) (by omega) hge) ?_
  refine dFa 7 ?_
  refine dQ 8 [] rfl (Xi rfl rfl Zw (fun w9 h=>by have h8:=(h.rw_own (a:=gn.ea) (l:=gn.es) ev2 aPk rfl).rdj (i:=i - 1) 0 (by omega) rfl;rw [hge] at h8;exact h8)) ?_
  refine dFa 9 ?_
  refine dLd 10 [] ?_
  refine dP 11 ?_
  refine dV 12 rfl (Qc rfl rfl rfl Q7 (i) (by omega) (by omega) hge) ?_
  refine dFa 13 ?_
  refine dQ 14 [] rfl (Xi rfl rfl Zw (fun w9 h=>by have h8:=(h.rw_own (a:=gn.ea) (l:=gn.es) ev2 aPk rfl).rdj (i:=i) 0 hi rfl;rw [hge] at h8;exact h8)) ?_
  refine dQ 15 [] rfl (QE rfl Qc3 rfl (fun w1 h1=>by have h9:=c65 w1 j (nth gn.es (i - 1)).key (nth gn.es i).key hj3 (by rw [← hj];exact Qbm hky (by omega)) (by rw [← hj];exact Qbm hky hi) (hkl9 _ (QC (by omega))) (hkl9 _ (QC hi));rw [← hj] at h9;exact h9)) ?_
  refine dP 16 ?_
  refine dNi ?_
  refine sCd rfl (fun h21=>?_) fun h21=>?_
  ·have hR : Qa s = (noT,3):=Qj1 h16 hs4 h3 h4 h5 h6 (fun m9 hm9=>by rw [hrd] at hm9;injection hm9 with hm9;injection hm9 with q1 q2;subst q1;rw [← hes9];refine Qk3 hi (i:=i) ?_;unfold Qas;have hq:=h21;rw [Bool.and_eq_false_iff];exact .inr (decide_eq_false (by omega)))
   refine aU6 ?_
   exact Qi (rs:=[.cell 2 37,.tmp 3]) rfl (.cell rfl Yz aPk rfl (.tmp rfl (.nil))) (fun w' h'=>⟨((none,0),[]),by rw [hR];rfl,by rw [hR];rfl,(Q2 27 69 h'.nil).ent aEt⟩)
  have hlt : Xm (at1 s 4) (nth gn.es (i - 1)).key (nth gn.es i).key < 0:=by have hq:=h21;omega
  refine aT5 ?_
  refine aU2 ?_
  exact sBk (i + 1) (by omega) ⟨by omega,fun i9 h91 h92=>(Nat.lt_or_ge i9 i).elim (hi2 i9 h91) (fun h=>by obtain rfl : i9 = i:=(by omega);exact hlt)⟩
 have hA : QdI (at1 s 4) gn.es = true:=Qbo.2 (fun i9 h9=>by unfold Qas;rw [Qbm hky h9,Bool.true_and];exact decide_eq_true (Nat.eq_zero_or_pos i9 |>.imp id (fun hp=>hi2 i9 hp (by omega))))
 have hR:=Qsa h16 hs4 h3 h4 h5 h6 hrd (by rw [← hes9];exact hA)
 refine Qo rfl ?_
 refine aU3 ?_
 refine o_h (Ql (cs:=[_,_,_]) rfl rfl Yn XS rfl rfl rfl) rfl (fun b22 _=>?_)
 refine aU9 ?_
 exact Qi (rs:=[.cell 2 37,.tmp 3]) rfl (.cell rfl Yz aPk rfl (.tmp rfl (.nil))) (fun w' h'=>⟨((some ⟨b22,0,none⟩,1),[gn]),by rw [hR];rfl,by rw [hR];show [gn.pl] = _;rw [hpl9],(HS.nodes_of1 (HS.own_shut (n:=1) (cap:=1) (sz:=3) (h'.ent (Bs:=[.blk b22 69 (1 * 3) (LNd.vals gn),.ents 27 gn.ea gn.ec gn.es,.kids gn.ca gn.cc gn.cs]) aEt) rfl (by decide) (by decide))).ent aEt⟩)
end Go.Proofs
namespace Gx
open Go Go.RowKit
section
variable {P : Program} {o : Oper} {L : Qb} {w0 : World} {M : List Nat} {As As' : List HA}
end
end Gx
namespace Gx
namespace Ev
open Go Go.RowKit
structure Rho where
 f : Nat → Option (Nat × Nat)
 ex : List HA
instance : CoeFun Rho (fun _=>Nat → Option (Nat × Nat)):=⟨Rho.f⟩
def Rho.le (ρ ρ' : Rho) : Prop:=(∀ n x,ρ n = some x → ρ' n = some x) ∧ ρ'.ex = ρ.ex
theorem Rho.le_refl (ρ : Rho) : ρ.le ρ:=⟨fun _ _ h=>h,rfl⟩
theorem Rho.le_trans {a b c : Rho} (h1 : a.le b) (h2 : b.le c) : a.le c:=⟨fun n x h=>h2.1 n x (h1.1 n x h),h2.2.trans h1.2⟩
def XJ (ρ : Rho) : Value → Option Value
 | .pointer (some ⟨n,i,none⟩)=>match ρ n with
  | some x=>some (.pointer (some ⟨x.1,i,none⟩))
  | none=>none
 | .pointer (some ⟨n,i,some q⟩)=>match ρ n with
  | some x=>some (.slice (some ⟨x.1,if x.2 = 0 then i else i + q,none⟩) 0 x.2)
  | none=>none
 | .pointer none=>some (.pointer none)
 | .slice (some ⟨n,i,none⟩) l c=>match ρ n with
  | some x=>some (.slice (some ⟨x.1,i,none⟩) l (c + x.2))
  | none=>none
 | .slice (some ⟨n,i,some _⟩) l c=>match ρ n with
  | some x=>some (.slice (some ⟨x.1,i,none⟩) l c)
  | none=>none
 | .slice none l c=>some (.slice none l c)
 | .map (some r)=>match ρ r with
  | some x=>some (.map (some x.1))
  | none=>none
 | .map none=>some (.map none)
 | .int k n=>some (.int k n)
 | .bool b=>some (.bool b)
 | .string s=>some (.string s)
 | .nilFunc=>some .nilFunc
 | _=>none
def Qu {α β : Type} (f : α → Option β) : List α → Option (List β)
 | []=>some []
 | a :: l=>match f a,Qu f l with
  | some b,some m=>some (b :: m)
  | _,_=>none
def Qcl (ρ : Rho) : Fn → Option Fn
 | .func f=>some (.func f)
 | .yield n=>match ρ n with
  | some x=>some (.yield x.1)
  | none=>none
 | _=>none
def QP (ρ : Rho) : Value → Option Value
 | .func f a b=>match Qcl ρ f,Qu (XJ ρ) a.toList,Qu (XJ ρ) b.toList with
  | some f',some a',some b'=>some (.func f' a'.toArray b'.toArray)
  | _,_,_=>none
 | v=>XJ ρ v
def Xr (ρ : Rho) : Value → Option Value
 | .agg cs=>match Qu (QP ρ) cs.toList with
  | some l=>some (.agg l.toArray)
  | none=>none
 | v=>QP ρ v
def den (ρ : Rho) : Value → Option Value
 | .tuple vs=>match Qu (Xr ρ) vs.toList with
  | some l=>some (.tuple l.toArray)
  | none=>none
 | v=>Xr ρ v
section
variable {α β : Type}
theorem Xh {f g : α → Option β} (h : ∀ a b,f a = some b → g a = some b) : ∀ {l : List α} {m : List β},Qu f l = some m → Qu g l = some m
 | [],m,e=>e
 | a :: l,m,e=>by
  simp only [Qu] at e ⊢;split at e
  ·rename_i b m' h1 h2;rw [h a b h1,Xh h h2];exact e
  ·cases e
theorem Q6 {f : α → Option β} : ∀ {l : List α} {m : List β},Qu f l = some m → m.length = l.length
 | [],m,e=>by cases e;rfl
 | a :: l,m,e=>by
  simp only [Qu] at e;split at e
  ·rename_i b m' h1 h2;injection e with e
   subst e;simp [Q6 h2]
  ·cases e
theorem QaC {f : α → Option β} : ∀ {l : List α} {m : List β} {i : Nat} {a : α},Qu f l = some m → l[i]? = some a → ∃ b,m[i]? = some b ∧ f a = some b
 | [],m,i,a,e,h=>by simp at h
 | x :: l,m,i,a,e,h=>by
  simp only [Qu] at e;split at e
  ·rename_i b m' h1 h2;injection e with e
   subst e;cases i with
   | zero=>simp at h;subst h;exact ⟨b,rfl,h1⟩
   | succ i=>simpa using QaC h2 (by simpa using h)
  ·cases e
theorem Ze {f : α → Option β} : ∀ {l l2 : List α} {m m2 : List β},Qu f l = some m → Qu f l2 = some m2 → Qu f (l ++ l2) = some (m ++ m2)
 | [],l2,m,m2,e,e2=>by cases e;exact e2
 | a :: l,l2,m,m2,e,e2=>by
  simp only [Qu] at e;split at e
  ·rename_i b m' h1 h2;injection e with e
   subst e
   simp_all [Qu,Ze]
  ·cases e
theorem XG {f : α → Option β} : ∀ {l : List α} {m : List β} (k : Nat),Qu f l = some m → Qu f (l.take k) = some (m.take k)
 | [],m,k,e=>by cases e;simp [Qu]
 | a :: l,m,0,e=>by simp [Qu]
 | a :: l,m,k + 1,e=>by
  simp only [Qu] at e;split at e
  ·rename_i b m' h1 h2;injection e with e
   subst e
   simp_all [Qu,XG]
  ·cases e
theorem Yt {f : α → Option β} : ∀ {l : List α} {m : List β} (k : Nat),Qu f l = some m → Qu f (l.drop k) = some (m.drop k)
 | [],m,k,e=>by cases e;simp [Qu]
 | a :: l,m,0,e=>by simpa using e
 | a :: l,m,k + 1,e=>by
  simp only [Qu] at e;split at e
  ·rename_i b m' h1 h2;injection e with e
   subst e
   simpa using Yt k h2
  ·cases e
theorem Qi6 {f : α → Option β} : ∀ {l : List α} {m : List β} (i : Nat) {a : α} {b : β},Qu f l = some m → f a = some b → Qu f (l.set i a) = some (m.set i b)
 | [],m,i,a,b,e,h=>by cases e;simp [Qu]
 | x :: l,m,i,a,b,e,h=>by
  simp only [Qu] at e;split at e
  ·rename_i y m' h1 h2;injection e with e
   subst e;cases i with
   | zero=>simp only [List.set_cons_zero,Qu,h,h2]
   | succ i=>simp only [List.set_cons_succ,Qu,h1,Qi6 i h2 h]
  ·cases e
theorem Qie {f : α → Option β} : ∀ {l : List α} {m : List β} {b : β},Qu f l = some m → b ∈ m → ∃ a ∈ l,f a = some b
 | [],m,b,e,h=>by cases e;cases h
 | x :: l,m,b,e,h=>by
  simp only [Qu] at e;split at e
  ·rename_i y m' h1 h2;injection e with e
   subst e;rcases List.mem_cons.1 h with rfl | h
   ·grind
   ·obtain ⟨a,ha,e⟩:=Qie h2 h
    grind
  ·cases e
end
theorem QmU {ρ ρ' : Rho} (h : ρ.le ρ') (v u : Value) (e : XJ ρ v = some u) : XJ ρ' v = some u:=by
  unfold XJ at e ⊢
  split at e <;> first
    | exact e
    | (split at e
       · rename_i x hx;rw [h.1 _ _ hx];exact e
       · cases e)
    | cases e
theorem Qkq {ρ ρ' : Rho} (h : ρ.le ρ') (f g : Fn) (e : Qcl ρ f = some g) : Qcl ρ' f = some g:=by
  unfold Qcl at e ⊢
  split at e <;> first
    | exact e
    | (split at e
       · rename_i x hx;rw [h.1 _ _ hx];exact e
       · cases e)
    | cases e
theorem QdY {ρ ρ' : Rho} (h : ρ.le ρ') (v u : Value) (e : QP ρ v = some u) : QP ρ' v = some u:=by
 unfold QP at e ⊢
 grind [Qkq,Xh,QmU]
theorem Qnb {ρ ρ' : Rho} (h : ρ.le ρ') (v u : Value) (e : Xr ρ v = some u) : Xr ρ' v = some u:=by
 unfold Xr at e ⊢
 grind [Xh,QdY]
theorem Qfu {ρ ρ' : Rho} (h : ρ.le ρ') (v u : Value) (e : den ρ v = some u) : den ρ' v = some u:=by
 unfold den at e ⊢
 grind [Xh,Qnb]
abbrev Env:=Nat → Option Value
def SR (ρ : Rho) (L : Env) (L' : Qb) : Prop:=∀ t v,L t = some v → ∃ u,Qb.get L' t = some u ∧ den ρ v = some u
theorem SR.mono {ρ ρ' : Rho} (h : ρ.le ρ') {L : Env} {L' : Qb} (e : SR ρ L L') : SR ρ' L L':=fun t v hv=>by
 obtain ⟨u,h1,h2⟩:=e t v hv
 grind [Qfu]
theorem SR.get {ρ : Rho} {L : Env} {L' : Qb} {t : Nat} {v : Value} (e : SR ρ L L') (h : L t = some v) : ∃ u,Qb.get L' t = some u ∧ den ρ v = some u:=e t v h
theorem SR.put {ρ : Rho} {L L2 : Env} {L' : Qb} {d : Nat} {v u : Value} (e : SR ρ L L') (hu : den ρ v = some u) (h : ∀ t x,L2 t = some x → (t = d ∧ x = v) ∨ (t ≠ d ∧ L t = some x)) : SR ρ L2 ((d,u) :: L'):=fun t x hx=>by
 simp only [Qb.get];rcases h t x hx with ⟨rfl,rfl⟩ | ⟨h1,h2⟩
 ·simp_all
 ·have hb : Nat.beq d t = false:=by cases hb : Nat.beq d t <;> simp_all
  rw [hb];exact e t x h2
def ZB : Value → Bool
 | .int _ _ | .bool _ | .string _ | .nilFunc | .pointer none | .slice none _ _ | .map none=>true
 | _=>false
theorem Qay {v : Value} (h : ZB v = true) (ρ : Rho) : den ρ v = some v:=by
 unfold ZB at h;split at h <;> first | rfl | cases h
def opd (L : Env) : Operand → Option Value
 | .tmp t=>L t
 | .const v=>bif ZB v then some v else none
 | .func f=>some (.func (.func f) #[] #[])
 | _=>none
theorem YT {ρ : Rho} {L : Env} {L' : Qb} {x : Operand} {v : Value} (hs : SR ρ L L') (h : opd L x = some v) : ∃ u,ev L' x = some u ∧ den ρ v = some u:=by
 unfold opd at h;split at h
 ·exact hs.get h
 ·rename_i c;cases hf : ZB c with
  | true=>
   rw [hf] at h;injection h with h
   subst h;exact ⟨_,rfl,Qay hf ρ⟩
  | false=>rw [hf] at h;cases h
 ·injection h with h
  subst h;exact ⟨_,rfl,rfl⟩
 ·cases h
def QcL (L : Env) : List Operand → Option (List Value)
 | []=>some []
 | x :: l=>match opd L x,QcL L l with
  | some v,some vs=>some (v :: vs)
  | _,_=>none
theorem Qd0 {ρ : Rho} {L : Env} {L' : Qb} (hs : SR ρ L L') : ∀ {l : List Operand} {vs : List Value},QcL L l = some vs → ∃ us,evs L' l = some us ∧ Qu (den ρ) vs = some us
 | [],vs,h=>by cases h;exact ⟨[],rfl,rfl⟩
 | x :: l,vs,h=>by
  simp only [QcL] at h;split at h
  ·rename_i v vs' h1 h2;injection h with h
   subst h;obtain ⟨u,e1,e2⟩:=YT hs h1;obtain ⟨us,e3,e4⟩:=Qd0 hs h2
   grind [evs,Qu]
  ·cases h
section
variable {ρ : Rho} {L : Env} {L' : Qb} {x : Operand}
theorem Qh {v : Value} (hs : SR ρ L L') (h : opd L x = some v) (hf : ZB v = true) : ev L' x = some v:=by grind [YT,Qay]
theorem QcV {n i : Nat} (hs : SR ρ L L') (h : opd L x = some (.pointer (some ⟨n,i,none⟩))) : ∃ b d,ρ n = some (b,d) ∧ ev L' x = some (.pointer (some ⟨b,i,none⟩)):=by grind [YT,den,Xr,QP,XJ]
theorem XT {n i l c : Nat} (hs : SR ρ L L') (h : opd L x = some (.slice (some ⟨n,i,none⟩) l c)) : ∃ b d,ρ n = some (b,d) ∧ ev L' x = some (.slice (some ⟨b,i,none⟩) l (c + d)):=by grind [YT,den,Xr,QP,XJ]
theorem Yo {n i l c q : Nat} (hs : SR ρ L L') (h : opd L x = some (.slice (some ⟨n,i,some q⟩) l c)) : ∃ b d,ρ n = some (b,d) ∧ ev L' x = some (.slice (some ⟨b,i,none⟩) l c):=by grind [YT,den,Xr,QP,XJ]
theorem QfH {n i q : Nat} (hs : SR ρ L L') (h : opd L x = some (.pointer (some ⟨n,i,some q⟩))) : ∃ b d j,ρ n = some (b,d) ∧ ev L' x = some (.slice (some ⟨b,j,none⟩) 0 d):=by grind [YT,den,Xr,QP,XJ]
theorem QbM {cs : Array Value} (hs : SR ρ L L') (h : opd L x = some (.agg cs)) : ∃ l,Qu (QP ρ) cs.toList = some l ∧ ev L' x = some (.agg l.toArray):=by grind [YT,den,Xr]
theorem QmQ {vs : Array Value} (hs : SR ρ L L') (h : opd L x = some (.tuple vs)) : ∃ l,Qu (Xr ρ) vs.toList = some l ∧ ev L' x = some (.tuple l.toArray):=by grind [YT,den]
end
end Ev
namespace Ev
open Go Go.RowKit
def vN : Option Value → Option Nat
 | some (.int _ (.ofNat n))=>some n
 | _=>none
theorem YP {v : Option Value} {n : Nat} (h : vN v = some n) : ∃ k,v = some (.int k (n : Int)):=by
 unfold vN at h;split at h <;> simp_all
def Q9 (P : Program) (t : TypeId) : Bool:=match P.underlying t with | some .string=>true | _=>false
def QbU (P : Program) (t : TypeId) : Bool:=match P.underlying t with | some .bool=>true | _=>false
def Xc (P : Program) (t : TypeId) : Bool:=match P.underlying t with | some (.slice _)=>true | _=>false
theorem X8 {P : Program} {t : TypeId} (h : Q9 P t = true) : P.underlying t = some .string:=by grind [Q9]
theorem QfW {P : Program} {t : TypeId} (h : QbU P t = true) : P.underlying t = some .bool:=by grind [QbU]
theorem XI {P : Program} {t : TypeId} (h : Xc P t = true) : ∃ e,P.underlying t = some (.slice e):=by grind [Xc]
def Qcm (P : Program) (t : TypeId) : Bool:=match P.underlying t with
 | some (.pointer te)=>(match tsz P te with
  | some (n,_)=>!Nat.beq n 0
  | none=>false)
 | _=>false
theorem Qdd {P : Program} {t : TypeId} (h : Qcm P t = true) : ∃ te,QrH P t te:=by
 unfold Qcm at h;split at h
 ·rename_i te h1;split at h
  ·rename_i n b h2;exact ⟨te,QqE h1 h2 fun e=>by subst e;cases h⟩
  ·cases h
 ·cases h
def QmO : List Nat → List Nat → Bool
 | [],[]=>true
 | a :: l,b :: m=>Nat.beq a b && QmO l m
 | _,_=>false
theorem QlJ : ∀ {l m : List Nat},QmO l m = true → l = m
 | [],[],_=>rfl
 | a :: l,b :: m,h=>by
  simp only [QmO,Bool.and_eq_true] at h;rw [Nat.eq_of_beq_eq_true h.1,QlJ h.2]
 | [],_ :: _,h=>by cases h
 | _ :: _,[],h=>by cases h
def Qrw (P : Program) (t : TypeId) (xs ys : List Value) : Option Bool:=match Qj7 P t with
 | some ks=>bif (QmO (xs.map Qcn) ks && QmO (ys.map Qcn) ks) && (xs.all ZB && ys.all ZB) then eqC xs ys else none
 | none=>none
def Zq (P : Program) (op : BinOp) (t : TypeId) (a b : Value) : Option Value:=match Xa op a b with
 | some v=>some v
 | none=>match op,a,b with
  | .eql,.bool x,.bool y=>bif QbU P t then some (.bool (x == y)) else none
  | .neq,.bool x,.bool y=>bif QbU P t then some (.bool (!(x == y))) else none
  | .eql,.slice p _ _,.slice none _ _=>bif Xc P t then some (.bool p.isNone) else none
  | .neq,.slice p _ _,.slice none _ _=>bif Xc P t then some (.bool (!p.isNone)) else none
  | .eql,.agg ⟨xs⟩,.agg ⟨ys⟩=>(match Qrw P t xs ys with
   | some b=>some (.bool b)
   | none=>none)
  | .neq,.agg ⟨xs⟩,.agg ⟨ys⟩=>(match Qrw P t xs ys with
   | some b=>some (.bool (!b))
   | none=>none)
  | .eql,.pointer none,.pointer none=>bif Qcm P t then some (.bool true) else none
  | .eql,.pointer (some ⟨_,_,none⟩),.pointer none=>bif Qcm P t then some (.bool false) else none
  | .neq,.pointer none,.pointer none=>bif Qcm P t then some (.bool false) else none
  | .neq,.pointer (some ⟨_,_,none⟩),.pointer none=>bif Qcm P t then some (.bool true) else none
  | .quo,.int k x,.int k' y=>bif kEq k k' && !decide (y = 0) then some (.int k (k.wrap (x.tdiv y))) else none
  | .rem,.int k x,.int k' y=>bif kEq k k' && !decide (y = 0) then some (.int k (x.tmod y)) else none
  | .shl,.int k x,.int _ (.ofNat y)=>some (.int k (k.wrap (x * 2 ^ (min y k.bits))))
  | .shr,.int k x,.int _ (.ofNat y)=>some (.int k (x / 2 ^ (min y k.bits)))
  | .add,.string ⟨⟨x⟩⟩,.string ⟨⟨y⟩⟩=>bif Nat.ble (x.length + y.length) 9223372036854775807 then some (.string (bs (x ++ y))) else none
  | _,_,_=>none
theorem Qgv {P : Program} {t : TypeId} {xs ys : List Value} {b : Bool} (h : Qrw P t xs ys = some b) : ∃ ks,Qj7 P t = some ks ∧ xs.map Qcn = ks ∧ ys.map Qcn = ks ∧ xs.all ZB = true ∧ ys.all ZB = true ∧ eqC xs ys = some b:=by grind [Qrw,ks,QmO,Qcn,ZB,QlJ]
theorem Qmz {ρ : Rho} {v : Value} (h : ZB v = true) : QP ρ v = some v:=by
 unfold ZB at h;split at h <;> first | rfl | cases h
theorem QbE {ρ : Rho} : ∀ {l : List Value},l.all ZB = true → Qu (QP ρ) l = some l
 | [],_=>rfl
 | v :: l,h=>by simp_all [Qu,Qmz,QbE]
section
variable {P : Program} {o : Oper} {ρ : Rho} {L : Env} {L' : Qb}
theorem Qhw {op : BinOp} {a b v : Value} (h : Xa op a b = some v) : ZB a = true ∧ ZB b = true ∧ ZB v = true:=by
 unfold Xa at h;split at h
 ·rename_i k x k' y;refine ⟨rfl,rfl,?_⟩;cases hk : kEq k k' with
  | false=>rw [hk] at h;cases h
  | true=>
   rw [hk] at h;simp only [cond_true] at h;cases op <;> simp only [XH,Option.some.injEq,reduceCtorEq] at h <;> first | (subst h;rfl) | cases h
 ·refine ⟨rfl,rfl,?_⟩;cases op <;> simp only [Qdy,Option.some.injEq,reduceCtorEq] at h <;> first | (subst h;rfl) | cases h
 ·cases h
theorem Qu5 {op : BinOp} {t t' : TypeId} {x y : Operand} {a b v : Value} (ho : o.op = .binOp op t x y t') (hs : SR ρ L L') (hx : opd L x = some a) (hy : opd L y = some b) (h : Zq P op t a b = some v) : ∃ u,OpP P o L' u ∧ den ρ v = some u:=by
 unfold Zq at h;split at h
 ·grind [Qhw,ZL,QaU,Qh,Qay]
 ·split at h
  ·rename_i x' y' _;cases ht : QbU P t with
   | false=>rw [ht] at h;cases h
   | true=>
    rw [ht] at h;injection h with h
    subst h;exact ⟨_,QfJ ho (Qh hs hx rfl) (Qh hs hy rfl) (QfW ht),rfl⟩
  ·rename_i x' y' _;cases ht : QbU P t with
   | false=>rw [ht] at h;cases h
   | true=>
    rw [ht] at h;injection h with h
    subst h;exact ⟨_,Qj3 ho (Qh hs hx rfl) (Qh hs hy rfl) (QfW ht),rfl⟩
  ·rename_i p l1 c1 l2 c2 _;cases ht : Xc P t with
   | false=>rw [ht] at h;cases h
   | true=>
    rw [ht] at h;injection h with h
    subst h;obtain ⟨e,he⟩:=XI ht;have hy':=Qh hs hy rfl;rcases p with _ | ⟨n,i,_ | q⟩
    ·exact ⟨_,Zt ho (Qh hs hx rfl) hy' he,rfl⟩
    ·obtain ⟨b9,d9,_,hx'⟩:=XT hs hx;exact ⟨_,Zt ho hx' hy' he,rfl⟩
    ·obtain ⟨b9,d9,_,hx'⟩:=Yo hs hx;exact ⟨_,Zt ho hx' hy' he,rfl⟩
  ·rename_i p l1 c1 l2 c2 _;cases ht : Xc P t with
   | false=>rw [ht] at h;cases h
   | true=>
    rw [ht] at h;injection h with h
    subst h;obtain ⟨e,he⟩:=XI ht;have hy':=Qh hs hy rfl;rcases p with _ | ⟨n,i,_ | q⟩
    ·exact ⟨_,Zv ho (Qh hs hx rfl) hy' he,rfl⟩
    ·obtain ⟨b9,d9,_,hx'⟩:=XT hs hx;exact ⟨_,Zv ho hx' hy' he,rfl⟩
    ·obtain ⟨b9,d9,_,hx'⟩:=Yo hs hx;exact ⟨_,Zv ho hx' hy' he,rfl⟩
  ·rename_i xs ys _;split at h
   ·rename_i b hb;injection h with h
    subst h;obtain ⟨ks,k1,k2,k3,k4,k5,k6⟩:=Qgv hb;obtain ⟨l1,m1,n1⟩:=QbM hs hx;obtain ⟨l2,m2,n2⟩:=QbM hs hy;rw [QbE k4] at m1;rw [QbE k5] at m2;injection m1 with m1
    injection m2 with m2
    subst m1 m2;exact ⟨_,Qm2 ho n1 n2 k1 k2 k3 k6,rfl⟩
   ·cases h
  ·rename_i xs ys _;split at h
   ·rename_i b hb;injection h with h
    subst h;obtain ⟨ks,k1,k2,k3,k4,k5,k6⟩:=Qgv hb;obtain ⟨l1,m1,n1⟩:=QbM hs hx;obtain ⟨l2,m2,n2⟩:=QbM hs hy;rw [QbE k4] at m1;rw [QbE k5] at m2;injection m1 with m1
    injection m2 with m2
    subst m1 m2;exact ⟨_,Qgt ho n1 n2 k1 k2 k3 k6,rfl⟩
   ·cases h
  ·cases hk : Qcm P t with
   | false=>rw [hk] at h;cases h
   | true=>
    rw [hk] at h;injection h with h
    subst h;obtain ⟨te,ht⟩:=Qdd hk;exact ⟨_,QgO ho (Qh hs hx rfl) (Qh hs hy rfl) ht,rfl⟩
  ·cases hk : Qcm P t with
   | false=>rw [hk] at h;cases h
   | true=>
    rw [hk] at h;injection h with h
    subst h;obtain ⟨te,ht⟩:=Qdd hk;obtain ⟨b9,d9,_,hx'⟩:=QcV hs hx;exact ⟨_,QgO ho hx' (Qh hs hy rfl) ht,rfl⟩
  ·cases hk : Qcm P t with
   | false=>rw [hk] at h;cases h
   | true=>
    rw [hk] at h;injection h with h
    subst h;obtain ⟨te,ht⟩:=Qdd hk;exact ⟨_,QjF ho (Qh hs hx rfl) (Qh hs hy rfl) ht,rfl⟩
  ·cases hk : Qcm P t with
   | false=>rw [hk] at h;cases h
   | true=>
    rw [hk] at h;injection h with h
    subst h;obtain ⟨te,ht⟩:=Qdd hk;obtain ⟨b9,d9,_,hx'⟩:=QcV hs hx;exact ⟨_,QjF ho hx' (Qh hs hy rfl) ht,rfl⟩
  ·rename_i k x' k' y' _;cases hk : kEq k k' && !decide (y' = 0) with
   | false=>rw [hk] at h;cases h
   | true=>
    rw [hk] at h;injection h with h
    subst h;simp only [Bool.and_eq_true,Bool.not_eq_true',decide_eq_false_iff_not] at hk;obtain rfl:=Qbr hk.1;exact ⟨_,Qp0 ho (Qh hs hx rfl) (Qh hs hy rfl) hk.2,rfl⟩
  ·rename_i k x' k' y' _;cases hk : kEq k k' && !decide (y' = 0) with
   | false=>rw [hk] at h;cases h
   | true=>
    rw [hk] at h;injection h with h
    subst h;simp only [Bool.and_eq_true,Bool.not_eq_true',decide_eq_false_iff_not] at hk;obtain rfl:=Qbr hk.1;exact ⟨_,QlM ho (Qh hs hx rfl) (Qh hs hy rfl) hk.2,rfl⟩
  ·injection h with h
   subst h;exact ⟨_,QeZ ho (Qh hs hx rfl) (Qh hs hy rfl) (Int.natCast_nonneg _) _ rfl,rfl⟩
  ·injection h with h
   subst h;exact ⟨_,QcQ ho (Qh hs hx rfl) (Qh hs hy rfl) (Int.natCast_nonneg _) _ rfl,rfl⟩
  ·rename_i x' y' _;cases hk : Nat.ble (x'.length + y'.length) 9223372036854775807 with
   | false=>rw [hk] at h;cases h
   | true=>
    rw [hk] at h;injection h with h
    subst h;exact ⟨_,QbQ ho (Qh hs hx rfl) (Qh hs hy rfl) (Nat.le_of_ble_eq_true hk),rfl⟩
  ·cases h
end
end Ev
namespace Ev
open Go Go.RowKit
section
variable {ρ : Rho}
theorem QnI {v u : Value} (h : XJ ρ v = some u) : QP ρ v = some u:=by
 cases v <;> first | exact h | (simp [XJ] at h)
theorem QaS {v u : Value} (h : QP ρ v = some u) : Xr ρ v = some u:=by
 cases v <;> first | exact h | (simp [QP,XJ] at h)
theorem Qcq {v u : Value} (h : Xr ρ v = some u) : den ρ v = some u:=by
 cases v <;> first | exact h | (simp [Xr,QP,XJ] at h)
def Qkk : Value → Bool
 | .agg _ | .tuple _ | .func _ _ _=>false
 | _=>true
theorem Qqu {v u : Value} (h : Qkk v = true) (e : den ρ v = some u) : XJ ρ v = some u:=by
 cases v <;> first | exact e | (simp [Qkk] at h)
def lone : Value → Bool
 | .agg _ | .tuple _=>false
 | _=>true
theorem QoX {v u : Value} (h : lone v = true) (e : den ρ v = some u) : QP ρ v = some u:=by
 cases v <;> first | exact e | (simp [lone] at h)
theorem QfX : ∀ {vs us : List Value},vs.all Qkk = true → Qu (den ρ) vs = some us → Qu (XJ ρ) vs = some us
 | [],us,_,e=>by cases e;rfl
 | v :: vs,us,h,e=>by
  simp only [List.all_cons,Bool.and_eq_true] at h;simp only [Qu] at e ⊢;split at e
  ·simp_all [Qqu,QfX]
  ·cases e
def Zy : Value → Bool
 | .tuple _=>false
 | _=>true
theorem Qhc {v u : Value} (h : Zy v = true) (e : den ρ v = some u) : Qu (QP ρ) v.cells.toList = some u.cells.toList:=by
 have one : ∀ {v u : Value},v.cells = #[v] → QP ρ v = some u → u.cells = #[u] → Qu (QP ρ) v.cells.toList = some u.cells.toList:=fun h1 h2 h3=>by
  rw [h1,h3];simp [Qu,h2]
 cases v with
 | tuple vs=>simp [Zy] at h
 | agg cs=>
  simp only [den,Xr] at e;split at e
  ·rename_i l hl;injection e with e
   subst e
   simpa [Value.cells] using hl
  ·cases e
 | _=>
  refine one rfl e ?_;simp only [den,Xr,QP,XJ] at e
  first
   | (injection e with e;subst e;rfl)
   | (repeat' split at e) <;> first | (injection e with e;subst e;rfl) | cases e
end
section
variable {P : Program} {o : Oper} {ρ : Rho} {L : Env} {L' : Qb}
def Qba (P : Program) (src dst : TypeId) : Value → Option Value
 | .int k0 n=>match tki P src,tki P dst with
  | some k1,some k=>bif kEq k0 k1 then some (.int k (k.wrap n)) else none
  | _,_=>none
 | .string s=>bif Q9 P src && Q9 P dst then some (.string s) else none
 | _=>none
theorem QsR {src dst : TypeId} {x : Operand} {a v : Value} (ho : o.op = .convert src dst x) (hs : SR ρ L L') (hx : opd L x = some a) (h : Qba P src dst a = some v) : ∃ u,OpP P o L' u ∧ den ρ v = some u:=by
 unfold Qba at h;split at h
 ·rename_i k0 n;split at h
  ·rename_i k1 k h1 h2;cases hk : kEq k0 k1 with
   | false=>rw [hk] at h;cases h
   | true=>
    rw [hk] at h;injection h with h
    subst h;obtain rfl:=Qbr hk;exact ⟨_,Qm ho (Qh hs hx rfl) h1 h2,rfl⟩
  ·cases h
 ·cases hk : Q9 P src && Q9 P dst with
  | false=>rw [hk] at h;cases h
  | true=>
   rw [hk] at h;injection h with h
   subst h;simp only [Bool.and_eq_true] at hk;exact ⟨_,Qkn ho (Qh hs hx rfl) (X8 hk.1) (X8 hk.2),rfl⟩
 ·cases h
theorem Qmn {x : Operand} {i : Nat} {vs : Array Value} {v : Value} (ho : o.op = .extract x i) (hs : SR ρ L L') (hx : opd L x = some (.tuple vs)) (h : vs.toList[i]? = some v) : ∃ u,OpP P o L' u ∧ den ρ v = some u:=by
 obtain ⟨l,h1,h2⟩:=QmQ hs hx;obtain ⟨u,h3,h4⟩:=QaC h1 h
 grind [ZL,QaU,Qcq]
theorem Qki {f : FuncId} {first cap : Array Operand} {a b : List Value} (ho : o.op = .makeFunc (.func f) first cap) (hs : SR ρ L L') (h1 : QcL L first.toList = some a) (h2 : QcL L cap.toList = some b) (ha : a.all Qkk = true) (hb : b.all Qkk = true) :
  ∃ u,OpP P o L' u ∧ den ρ (.func (.func f) a.toArray b.toArray) = some u:=by
 obtain ⟨a',e1,e2⟩:=Qd0 hs h1;obtain ⟨b',e3,e4⟩:=Qd0 hs h2;refine ⟨.func (.func f) a'.toArray b'.toArray,ZL (by rw [ho];simp only [QaU,e1,e3]),?_⟩
 simp_all [den,Xr,QP,Qcl,QfX,ha]
theorem QsI {c a b : Operand} {t : Bool} {x y : Value} (ho : o.op = .pick c a b) (hs : SR ρ L L') (hc : opd L c = some (.bool t)) (ha : opd L a = some x) (hb : opd L b = some y) : ∃ u,OpP P o L' u ∧ den ρ (if t then x else y) = some u:=by
 obtain ⟨x',e1,e2⟩:=YT hs ha;obtain ⟨y',e3,e4⟩:=YT hs hb;refine ⟨if t then x' else y',ZL (by rw [ho];simp only [QaU,Qh hs hc rfl,e1,e3,Qjr]),?_⟩
 grind
theorem Qpz {x : Operand} {v : Value} (ho : o.op = .move x ∨ o.op = .assign x) (hs : SR ρ L L') (hx : opd L x = some v) : ∃ u,OpP P o L' u ∧ den ρ v = some u:=by
 obtain ⟨u,h1,h2⟩:=YT hs hx;refine ⟨u,ZL ?_,h2⟩;rcases ho with ho | ho <;> rw [ho] <;> exact h1
theorem un_R {op : UnOp} {t : TypeId} {x : Operand} {a v : Value} (ho : o.op = .unOp op t x) (hs : SR ρ L L') (hx : opd L x = some a) (h : QdX op a = some v) : ∃ u,OpP P o L' u ∧ den ρ v = some u:=by
 have hf : ZB a = true ∧ ZB v = true:=by
  unfold QdX at h;split at h <;> first | (injection h with h;subst h;exact ⟨rfl,rfl⟩) | cases h
 grind [ZL,QaU,Qh,Qay]
theorem Qkh {x : Operand} {n i : Nat} (ho : o.op = .nilCheck x) (hs : SR ρ L L') (hx : opd L x = some (.pointer (some ⟨n,i,none⟩))) : ∃ u,OpP P o L' u ∧ den ρ (.pointer (some ⟨n,i,none⟩)) = some u:=by
 obtain ⟨b,d,h1,h2⟩:=QcV hs hx
 grind [ZL,QaU,den,Xr,QP,XJ]
theorem Qjs {x : Operand} {f : FuncId} {a b : Array Value} (ho : o.op = .nilCheck x) (hs : SR ρ L L') (hx : opd L x = some (.func (.func f) a b)) : ∃ u,OpP P o L' u ∧ den ρ (.func (.func f) a b) = some u:=by
 obtain ⟨u,h1,h2⟩:=YT hs hx
 grind [den,Xr,QP,Qcl,ZL,QaU]
theorem Qq9 {st f off ft n : Nat} {x : Operand} {cs : Array Value} {v : Value} {ag : Bool} (ho : o.op = .field st x f) (hs : SR ρ L L') (hx : opd L x = some (.agg cs)) (hf : tfd P st f = some (off,ft)) (hz : tsz P ft = some (n,ag))
  (h : (if ag then some (.agg (cut cs.toList off n).toArray) else cs.toList[off]?) = some v) : ∃ u,OpP P o L' u ∧ den ρ v = some u:=by
 obtain ⟨l,h1,h2⟩:=QbM hs hx;cases ag with
 | true=>
  simp only [if_true,Option.some.injEq] at h;subst h;refine ⟨_,QpH ho h2 hf hz,?_⟩
  grind [den,Xr,cut,XG,Yt]
 | false=>
  have h' : cs.toList[off]? = some v:=by simpa using h
  obtain ⟨u,e1,e2⟩:=QaC h1 h'
  grind [QfM,Qcq,QaS]
theorem QqD {t e sz len n : Nat} {x y : Operand} {cs : Array Value} {j : Nat} {v : Value} {ag : Bool} (ho : o.op = .index t x y) (hs : SR ρ L L') (hx : opd L x = some (.agg cs)) (hy : vN (opd L y) = some j) (ht : tar P t = some (len,e,sz)) (hz : tsz P e = some (n,ag)) (hlt : j < len)
  (h : (if ag then some (.agg (cut cs.toList (j * sz) n).toArray) else cs.toList[j * sz]?) = some v) : ∃ u,OpP P o L' u ∧ den ρ v = some u:=by
 obtain ⟨l,h1,h2⟩:=QbM hs hx;obtain ⟨k,hk⟩:=YP hy;have hy':=Qh hs hk rfl;cases ag with
 | true=>
  simp only [if_true,Option.some.injEq] at h;subst h;refine ⟨_,QfZ ho h2 hy' ht hz j rfl hlt,?_⟩
  grind [den,Xr,cut,XG,Yt]
 | false=>
  have h' : cs.toList[j * sz]? = some v:=by simpa using h
  obtain ⟨u,e1,e2⟩:=QaC h1 h'
  grind [Qqi,Qcq,QaS]
theorem Qoe {t : TypeId} {x y : Operand} {l : List UInt8} {j : Nat} (ho : o.op = .index t x y) (hs : SR ρ L L') (hx : opd L x = some (.string ⟨⟨l⟩⟩)) (hy : vN (opd L y) = some j) (h : Q9 P t = true) (hlt : j < l.length) : ∃ u,OpP P o L' u ∧ den ρ (.int .u8 ((l.getD j 0).toNat : Int)) = some u:=by
 obtain ⟨k,hk⟩:=YP hy;exact ⟨_,Q1 ho (Qh hs hx rfl) (Qh hs hk rfl) (X8 h) j rfl hlt,rfl⟩
def loN (L : Env) : Option Operand → Option Nat
 | none=>some 0
 | some y=>vN (opd L y)
def hiN (L : Env) (n : Nat) : Option Operand → Option Nat
 | none=>some n
 | some y=>vN (opd L y)
theorem Qef {lo : Option Operand} {a : Nat} (hs : SR ρ L L') (h : loN L lo = some a) : QpS L' lo a:=by
 cases lo with
 | none=>injection h with h;exact h.symm
 | some y=>
  obtain ⟨k,hk⟩:=YP h;exact ⟨k,_,Qh hs hk rfl,rfl⟩
theorem Qin {hi : Option Operand} {n b : Nat} (hs : SR ρ L L') (h : hiN L n hi = some b) : QqC L' hi n b:=by
 cases hi with
 | none=>injection h with h;exact h.symm
 | some y=>
  obtain ⟨k,hk⟩:=YP h;exact ⟨k,_,Qh hs hk rfl,rfl⟩
theorem QoH {t : TypeId} {x : Operand} {l : List UInt8} {lo hi : Option Operand} {a b : Nat} (ho : o.op = .slice t x lo hi none) (hs : SR ρ L L') (hx : opd L x = some (.string ⟨⟨l⟩⟩)) (h : Q9 P t = true) (hlo : loN L lo = some a) (hhi : hiN L l.length hi = some b) (hab : a ≤ b) (hbl : b ≤ l.length) :
  ∃ u,OpP P o L' u ∧ den ρ (.string (bs ((l.take b).drop a))) = some u:=
 ⟨_,Q0 lo hi a b ho (Qh hs hx rfl) (X8 h) (Qef hs hlo) (Qin hs hhi) hab hbl,rfl⟩
theorem Qg5 {b o cap i sz : Nat} (h : i < cap) : XC (some ⟨b,o,none⟩) cap i sz = some ⟨b,o + i * sz,none⟩:=by
 unfold XC;rw [if_neg (by omega)];simp only [Option.map_some,Addr.add]
 grind
theorem Qs2 {b o cap sz : Nat} : XC (some ⟨b,o,none⟩) cap 0 sz = some ⟨b,o,none⟩:=by
 unfold XC;split
 ·rfl
 ·simp [Addr.add]
theorem QqK {t e sz by' n of l c : Nat} {x : Operand} {lo hi : Option Operand} {i j : Nat} (ho : o.op = .slice t x lo hi none) (hs : SR ρ L L') (hx : opd L x = some (.slice (some ⟨n,of,none⟩) l c)) (ht : tsl P t = some (e,sz,by')) (hlo : loN L lo = some i) (hhi : hiN L l hi = some j) (hij : i ≤ j) (hj : j ≤ c) (h : i = 0 ∨ i < c) :
  ∃ u,OpP P o L' u ∧ den ρ (.slice (some ⟨n,of + i * sz,none⟩) (j - i) (c - i)) = some u:=by
 obtain ⟨b,d,h1,h2⟩:=XT hs hx;have hp:=Qs lo hi i j ho h2 ht (Qef hs hlo) (Qin hs hhi) hij (by omega);have e : XC (some ⟨b,of,none⟩) (c + d) i sz = some ⟨b,of + i * sz,none⟩:=by grind [Qs2,Qg5]
 grind [den,Xr,QP,XJ]
theorem QoN {t e sz by' n of l c : Nat} {x : Operand} {lo hi : Option Operand} (ho : o.op = .slice t x lo hi none) (hs : SR ρ L L') (hx : opd L x = some (.slice (some ⟨n,of,none⟩) l c)) (ht : tsl P t = some (e,sz,by')) (hlo : loN L lo = some c) (hhi : hiN L l hi = some c) :
  ∃ u,OpP P o L' u ∧ den ρ (.pointer (some ⟨n,of,some (c * sz)⟩)) = some u:=by
 obtain ⟨b,d,h1,h2⟩:=XT hs hx;have hp:=Qs lo hi c c ho h2 ht (Qef hs hlo) (Qin hs hhi) (Nat.le_refl _) (by omega)
 grind [XC,Qg5,den,Xr,QP,XJ]
theorem QnK {t e sz by' n of l c q : Nat} {x : Operand} {lo hi : Option Operand} {i j : Nat} (ho : o.op = .slice t x lo hi none) (hs : SR ρ L L') (hx : opd L x = some (.slice (some ⟨n,of,some q⟩) l c)) (ht : tsl P t = some (e,sz,by')) (hlo : loN L lo = some i) (hhi : hiN L l hi = some j) (hij : i ≤ j) (hj : j ≤ c) :
  ∃ u,OpP P o L' u ∧ den ρ (.slice (some ⟨n,(if c = i then of else of + i * sz),some q⟩) (j - i) (c - i)) = some u:=by
 obtain ⟨b,d,h1,h2⟩:=Yo hs hx;have hp:=Qs lo hi i j ho h2 ht (Qef hs hlo) (Qin hs hhi) hij hj
 grind [XC,Qg5,den,Xr,QP,XJ]
theorem Qn8 {t e sz by' l c : Nat} {x : Operand} {lo hi : Option Operand} {i j : Nat} (ho : o.op = .slice t x lo hi none) (hs : SR ρ L L') (hx : opd L x = some (.slice none l c)) (ht : tsl P t = some (e,sz,by')) (hlo : loN L lo = some i) (hhi : hiN L l hi = some j) (hij : i ≤ j) (hj : j ≤ c) :
  ∃ u,OpP P o L' u ∧ den ρ (.slice none (j - i) (c - i)) = some u:=by
 have hp:=Qs lo hi i j ho (Qh hs hx rfl) ht (Qef hs hlo) (Qin hs hhi) hij hj;have e : XC none c i sz = none:=by unfold XC;split <;> rfl
 rw [e] at hp;exact ⟨_,hp,rfl⟩
theorem QfO {t e sz by' : Nat} {x hi mx : Operand} {a : Option Addr} {n cap : Nat} (lo : Option Operand) {L : Qb} {k2 k3 : IntKind} (i j m : Nat) (ho : o.op = .slice t x lo (some hi) (some mx)) (hx : ev L x = some (.slice a n cap)) (hl : QpS L lo i) (hh : ev L hi = some (.int k2 (j : Int))) (hm : ev L mx = some (.int k3 (m : Int))) (ht : tsl P t = some (e,sz,by')) (hij : i ≤ j) (hjm : j ≤ m) (hmc : m ≤ cap) :
  OpP P o L (.slice (XC a m i sz) (j - i) (m - i)):=by
 cases lo with
 | some lo=>
  obtain ⟨k1,i1,h1,h2⟩:=hl
  grind [Qoa]
 | none=>
  have hi0 : i = 0:=hl;subst hi0;intro ρ w hρ;obtain ⟨hu,inf,h1,h2,_⟩:=QV ht;simp [execOp,ho,hρ _ _ hx,hρ _ _ hh,hρ _ _ hm,Instr.sliceAt,Instr.slice,Instr.sliceBounds,Instr.sliceBound,asIntOf,run_underlying hu,hjm,hmc,Go.sizeOf,typeInfo,h1,h2,XC]
theorem Qo5 {b of m i sz : Nat} : XC (some ⟨b,of,none⟩) m i sz = some ⟨b,(if m = i then of else of + i * sz),none⟩:=by
 by_cases h : m = i
 ·grind [XC]
 ·rw [if_neg h];unfold XC;rw [if_neg h];simp only [Option.map_some,Addr.add]
  grind
theorem Qo7 {t e sz by' n of l c : Nat} {q : Option Nat} {x hi mx : Operand} {lo : Option Operand} {i j m : Nat} (ho : o.op = .slice t x lo (some hi) (some mx)) (hs : SR ρ L L') (hx : opd L x = some (.slice (some ⟨n,of,q⟩) l c)) (ht : tsl P t = some (e,sz,by')) (hlo : loN L lo = some i) (hhi : vN (opd L hi) = some j) (hmx : vN (opd L mx) = some m) (hij : i ≤ j) (hjm : j ≤ m) (hmc : m ≤ c) :
  ∃ u,OpP P o L' u ∧ den ρ (.slice (some ⟨n,(if m = i then of else of + i * sz),some 0⟩) (j - i) (m - i)) = some u:=by
 obtain ⟨k2,hk2⟩:=YP hhi;obtain ⟨k3,hk3⟩:=YP hmx;have g2:=Qh hs hk2 rfl;have g3:=Qh hs hk3 rfl;cases q with
 | none=>
  obtain ⟨b,d,h1,h2⟩:=XT hs hx;have hp:=QfO lo i j m ho h2 (Qef hs hlo) g2 g3 ht hij hjm (by omega)
  grind [Qo5,den,Xr,QP,XJ]
 | some q=>
  obtain ⟨b,d,h1,h2⟩:=Yo hs hx;have hp:=QfO lo i j m ho h2 (Qef hs hlo) g2 g3 ht hij hjm hmc
  grind [Qo5,den,Xr,QP,XJ]
theorem Qmy {t e sz by' l c : Nat} {x hi mx : Operand} {lo : Option Operand} {i j m : Nat} (ho : o.op = .slice t x lo (some hi) (some mx)) (hs : SR ρ L L') (hx : opd L x = some (.slice none l c)) (ht : tsl P t = some (e,sz,by')) (hlo : loN L lo = some i) (hhi : vN (opd L hi) = some j) (hmx : vN (opd L mx) = some m) (hij : i ≤ j) (hjm : j ≤ m) (hmc : m ≤ c) :
  ∃ u,OpP P o L' u ∧ den ρ (.slice none (j - i) (m - i)) = some u:=by
 obtain ⟨k2,hk2⟩:=YP hhi;obtain ⟨k3,hk3⟩:=YP hmx;have hp:=QfO lo i j m ho (Qh hs hx rfl) (Qef hs hlo) (Qh hs hk2 rfl) (Qh hs hk3 rfl) ht hij hjm hmc;have e : XC none m i sz = none:=by unfold XC;split <;> rfl
 rw [e] at hp;exact ⟨_,hp,rfl⟩
theorem Qjb {st f off ft sz : Nat} {x : Operand} {n i : Nat} {ag : Bool} (ho : o.op = .fieldAddr st x f) (hs : SR ρ L L') (hx : opd L x = some (.pointer (some ⟨n,i,none⟩))) (hf : tfd P st f = some (off,ft)) (hz : tsz P ft = some (sz,ag)) (h0 : Nat.blt 0 sz = true) :
  ∃ u,OpP P o L' u ∧ den ρ (.pointer (some ⟨n,i + off,none⟩)) = some u:=by
 obtain ⟨b,d,h1,h2⟩:=QcV hs hx;exact ⟨_,Qad ho h2 hf hz h0,by simp only [den,Xr,QP,XJ,h1]⟩
theorem Qjq {t e sz by' n of l c j : Nat} {x y : Operand} (ho : o.op = .indexAddr t x y) (hs : SR ρ L L') (hx : opd L x = some (.slice (some ⟨n,of,none⟩) l c)) (hy : vN (opd L y) = some j) (ht : tsl P t = some (e,sz,by')) (hlt : j < l) :
  ∃ u,OpP P o L' u ∧ den ρ (.pointer (some ⟨n,of + j * sz,none⟩)) = some u:=by
 obtain ⟨b,d,h1,h2⟩:=XT hs hx;obtain ⟨k,hk⟩:=YP hy;exact ⟨_,Qc ho h2 (Qh hs hk rfl) ht j rfl hlt rfl,by simp only [den,Xr,QP,XJ,h1]⟩
theorem QgZ {t e sz by' n of l c j q : Nat} {x y : Operand} (ho : o.op = .indexAddr t x y) (hs : SR ρ L L') (hx : opd L x = some (.slice (some ⟨n,of,some q⟩) l c)) (hy : vN (opd L y) = some j) (ht : tsl P t = some (e,sz,by')) (hlt : j < l) :
  ∃ u,OpP P o L' u ∧ den ρ (.pointer (some ⟨n,of + j * sz,none⟩)) = some u:=by
 obtain ⟨b,d,h1,h2⟩:=Yo hs hx;obtain ⟨k,hk⟩:=YP hy;exact ⟨_,Qc ho h2 (Qh hs hk rfl) ht j rfl hlt rfl,by simp only [den,Xr,QP,XJ,h1]⟩
theorem Qha {t e sz len n i j : Nat} {x y : Operand} (ho : o.op = .indexAddr t x y) (hs : SR ρ L L') (hx : opd L x = some (.pointer (some ⟨n,i,none⟩))) (hy : vN (opd L y) = some j) (ht : tar P t = some (len,e,sz)) (hlt : j < len) :
  ∃ u,OpP P o L' u ∧ den ρ (.pointer (some ⟨n,i + j * sz,none⟩)) = some u:=by
 obtain ⟨b,d,h1,h2⟩:=QcV hs hx;obtain ⟨k,hk⟩:=YP hy;exact ⟨_,Qeo ho h2 (Qh hs hk rfl) ht j rfl hlt,by simp only [den,Xr,QP,XJ,h1]⟩
def Qdq (L : Env) : List (Nat × Operand) → Option (List (Nat × Value))
 | []=>some []
 | (i,x) :: r=>match opd L x,Qdq L r with
  | some v,some vs=>bif Zy v then some ((i,v) :: vs) else none
  | _,_=>none
def PR (ρ : Rho) : List (Nat × Value) → List (Nat × Value) → Prop
 | [],[]=>True
 | (i,v) :: l,(j,u) :: m=>i = j ∧ Zy v = true ∧ den ρ v = some u ∧ PR ρ l m
 | _,_=>False
theorem QeQ (hs : SR ρ L L') : ∀ {l : List (Nat × Operand)} {vs : List (Nat × Value)},Qdq L l = some vs → ∃ us,Z1 L' l = some us ∧ PR ρ vs us
 | [],vs,h=>by cases h;exact ⟨[],rfl,trivial⟩
 | (i,x) :: r,vs,h=>by
  simp only [Qdq] at h;split at h
  ·rename_i v vs' h1 h2;cases hn : Zy v with
   | false=>rw [hn] at h;cases h
   | true=>
    rw [hn] at h;injection h with h
    subst h;obtain ⟨u,e1,e2⟩:=YT hs h1;obtain ⟨us,e3,e4⟩:=QeQ hs h2;exact ⟨(i,u) :: us,by simp only [Z1,e1,e3],rfl,hn,e2,e4⟩
  ·cases h
theorem X1 : ∀ {vs us cs ds : List Value} (i : Nat),Qu (QP ρ) cs = some ds → Qu (QP ρ) vs = some us → Qu (QP ρ) (Qd cs i vs) = some (Qd ds i us)
 | [],us,cs,ds,i,h,e=>by cases e;exact h
 | v :: vs,us,cs,ds,i,h,e=>by
  simp only [Qu] at e;split at e
  ·rename_i b m h1 h2;injection e with e
   subst e;exact X1 (i + 1) (Qi6 i h h1) h2
  ·cases e
theorem QeG {pl : Nat → Option (Nat × Nat)} : ∀ {vs us : List (Nat × Value)} {cs ds rs : List Value},PR ρ vs us → Qu (QP ρ) cs = some ds → Zh pl cs vs = some rs → ∃ ts,Zh pl ds us = some ts ∧ Qu (QP ρ) rs = some ts
 | [],[],cs,ds,rs,_,h,e=>by cases e;exact ⟨ds,rfl,h⟩
 | (i,v) :: vs,(j,u) :: us,cs,ds,rs,hp,h,e=>by
  obtain ⟨rfl,h1,h2,h3⟩:=hp;have hc:=Qhc h1 h2;have hl:=Q6 hc;have hl2:=Q6 h;simp only [Zh] at e ⊢;split at e
  ·cases e
  ·rename_i off size hpl;cases hb : Nat.beq v.cells.toList.length size && Nat.ble (off + v.cells.toList.length) cs.length with
   | false=>rw [hb] at e;cases e
   | true=>
    rw [hb] at e;simp only [hl,hl2,hb];exact QeG h3 (X1 off h hc) e
 | [],_ :: _,_,_,_,hp,_,_=>hp.elim
 | _ :: _,[],_,_,_,hp,_,_=>hp.elim
def Xd (l : List Value) : Bool:=l.all ZB
theorem XQ : ∀ {l : List Value},Xd l = true → Qu (QP ρ) l = some l
 | [],_=>rfl
 | v :: l,h=>by
  simp only [Xd,List.all_cons,Bool.and_eq_true] at h
  have hv : QP ρ v = some v:=by
   have:=Qay h.1 ρ
   have hl : lone v = true:=by
    have h1:=h.1;unfold ZB at h1
    grind [lone]
   exact QoX hl this
  simp only [Qu,hv,XQ (l:=l) h.2]
theorem QrK {t : TypeId} {parts : Array (Nat × Operand)} {vs : List (Nat × Value)} {pl : List (Nat × Nat)} {z cs : List Value} (ho : o.op = .build t parts) (hs : SR ρ L L') (hp : Qdq L parts.toList = some vs) (hpl : Zc P t = some pl) (hz : QM P t = some z) (hf : Xd z = true)
  (hc : Zh (fun i=>pl[i]?) z vs = some cs) : ∃ u,OpP P o L' u ∧ den ρ (.agg cs.toArray) = some u:=by
 obtain ⟨us,e1,e2⟩:=QeQ hs hp;obtain ⟨ts,e3,e4⟩:=QeG e2 (XQ hf) hc;exact ⟨_,QF ho e1 hpl hz e3,by simp only [den,Xr,List.toList_toArray,e4]⟩
theorem QoE {t e sz len : Nat} {parts : Array (Nat × Operand)} {vs : List (Nat × Value)} {z cs : List Value} (ho : o.op = .build t parts) (hs : SR ρ L L') (hp : Qdq L parts.toList = some vs) (ht : tar P t = some (len,e,sz)) (hz : QM P t = some z) (hf : Xd z = true)
  (hc : Zh (fun i=>some (i * sz,sz)) z vs = some cs) : ∃ u,OpP P o L' u ∧ den ρ (.agg cs.toArray) = some u:=by
 obtain ⟨us,e1,e2⟩:=QeQ hs hp;obtain ⟨ts,e3,e4⟩:=QeG e2 (XQ hf) hc;exact ⟨_,Qel ho e1 ht hz e3,by simp only [den,Xr,List.toList_toArray,e4]⟩
end
end Ev
namespace Ev
inductive Tr (α : Type) where
 | lf
 | nd (l r : Tr α)
 | vd (l : Tr α) (k : Nat) (v : α) (r : Tr α)
noncomputable def Qp4 (f : Nat) : Nat → List Bool:=
 Nat.rec (fun _=>[]) (fun _ ih k=>Bool.rec (Nat.beq (Nat.mod k 2) 0 :: ih (Nat.div (Nat.sub k 1) 2)) [] (Nat.beq k 0)) f
noncomputable def pth (k : Nat) : List Bool:=Qp4 k k
def Qt6 : List Bool → Nat
 | []=>0
 | b :: p=>2 * Qt6 p + (if b then 2 else 1)
theorem Qgr : ∀ (f k : Nat),k ≤ f → Qt6 (Qp4 f k) = k
 | 0,k,h=>by
  have : k = 0:=by omega
  subst this;rfl
 | f + 1,k,h=>by
  have hu : Qp4 (f + 1) k = (Bool.rec (Nat.beq (Nat.mod k 2) 0 :: Qp4 f (Nat.div (Nat.sub k 1) 2)) [] (Nat.beq k 0) : List Bool):=rfl;rw [hu];cases hk : Nat.beq k 0 with
  | true=>exact (Nat.eq_of_beq_eq_true hk).symm
  | false=>
   have h0 : k ≠ 0:=fun e=>by subst e;cases hk
   have ih:=Qgr f ((k - 1) / 2) (by omega);show 2 * Qt6 (Qp4 f ((k - 1) / 2)) + (if Nat.beq (k % 2) 0 = true then 2 else 1) = k;rw [ih];cases hm : Nat.beq (k % 2) 0 with
   | true=>
    have:=Nat.eq_of_beq_eq_true hm;simp;omega
   | false=>
    have : k % 2 ≠ 0:=fun e=>by rw [e] at hm;cases hm
    simp;omega
theorem QlB {a b : Nat} (h : pth a = pth b) : a = b:=by grind [Qgr,pth]
section
variable {α : Type}
noncomputable def YE (p : List Bool) : Nat → Tr α → Option α:=
 List.rec (fun t T=>Tr.rec none (fun _ _ _ _=>none) (fun _ k v _ _ _=>Bool.rec none (some v) (Nat.beq k t)) T)
  (fun b _ ih t T=>Tr.rec none (fun l r _ _=>Bool.rec (ih t l) (ih t r) b) (fun l _ _ r _ _=>Bool.rec (ih t l) (ih t r) b) T) p
noncomputable def Yh (p : List Bool) : Nat → α → Tr α → Tr α:=
 List.rec (fun t v T=>Tr.rec (.vd .lf t v .lf) (fun l r _ _=>.vd l t v r) (fun l _ _ r _ _=>.vd l t v r) T)
  (fun b _ ih t v T=>Tr.rec (Bool.rec (.nd (ih t v .lf) .lf) (.nd .lf (ih t v .lf)) b) (fun l r _ _=>Bool.rec (.nd (ih t v l) r) (.nd l (ih t v r)) b) (fun l k x r _ _=>Bool.rec (.vd (ih t v l) k x r) (.vd l k x (ih t v r)) b) T) p
noncomputable def Qds (p : List Bool) : Tr α → Tr α:=
 List.rec (fun T=>Tr.rec .lf (fun l r _ _=>.nd l r) (fun l _ _ r _ _=>.nd l r) T)
  (fun b _ ih T=>Tr.rec .lf (fun l r _ _=>Bool.rec (.nd (ih l) r) (.nd l (ih r)) b) (fun l k x r _ _=>Bool.rec (.vd (ih l) k x r) (.vd l k x (ih r)) b) T) p
theorem YQ {p : List Bool} {t : Nat} : YE p t (.lf : Tr α) = none:=by cases p <;> rfl
theorem Zd (d : Nat) (v : α) : ∀ (p : List Bool) (T : Tr α),YE p d (Yh p d v T) = some v
 | [],T=>by
  have h : ∀ l r : Tr α,YE [] d (.vd l d v r) = some v:=fun l r=>by
   show (Bool.rec none (some v) (Nat.beq d d) : Option α) = some v;rw [Nat.beq_refl]
  cases T <;> exact h _ _
 | b :: p,T=>by
  cases T <;> cases b <;> exact Zd d v p _
theorem YV {t d : Nat} {v x : α} (hne : t ≠ d) : ∀ (p q : List Bool) (T : Tr α),YE p t (Yh q d v T) = some x → YE p t T = some x
 | [],[],T,h=>by
  have hd : ∀ l r : Tr α,YE [] t (.vd l d v r) = none:=fun l r=>by
   show (Bool.rec none (some v) (Nat.beq d t) : Option α) = none;cases hb : Nat.beq d t with
   | true=>exact absurd (Nat.eq_of_beq_eq_true hb).symm hne
   | false=>rfl
  cases T <;> exact absurd ((hd _ _).symm.trans h) (by simp)
 | [],c :: q,T,h=>by cases T <;> cases c <;> first | exact h | cases h
 | b :: p,[],T,h=>by
  cases T <;> cases b <;> first
   | exact h
   | (have h' : YE p t (.lf : Tr α) = some x:=h;rw [YQ] at h';cases h')
 | b :: p,c :: q,T,h=>by
  cases T <;> cases b <;> cases c <;> first
   | exact h
   | (have h' : YE p t (Yh q d v .lf) = some x:=h;have h2:=YV hne p q .lf h';rw [YQ] at h2;cases h2)
   | exact YV hne p q _ h
   | (have h' : YE p t (.lf : Tr α) = some x:=h;rw [YQ] at h';cases h')
theorem Qci {t d : Nat} {v : α} (hne : t ≠ d) : ∀ (p q : List Bool) (T : Tr α),p ≠ q → YE p t (Yh q d v T) = YE p t T
 | [],[],T,h=>absurd rfl h
 | [],c :: q,T,h=>by cases T <;> cases c <;> rfl
 | b :: p,[],T,h=>by
  have hl : YE p t (.lf : Tr α) = none:=YQ;cases T <;> cases b <;> first | rfl | exact hl
 | b :: p,c :: q,T,h=>by
  have hl : YE p t (.lf : Tr α) = none:=YQ;have ih:=fun T=>Qci (v:=v) hne p q T
  cases T <;> cases b <;> cases c <;> first
   | rfl
   | exact hl
   | exact (ih _ fun e=>h (by rw [e]))
   | exact ((ih .lf fun e=>h (by rw [e])).trans hl)
theorem Qal (d : Nat) : ∀ (p : List Bool) (T : Tr α),YE p d (Qds p T) = none
 | [],T=>by cases T <;> rfl
 | b :: p,T=>by cases T <;> cases b <;> first | rfl | exact Qal d p _
theorem Qff {t : Nat} {x : α} : ∀ (p q : List Bool) (T : Tr α),YE p t (Qds q T) = some x → YE p t T = some x
 | [],[],T,h=>by cases T <;> first | exact h | cases h
 | [],c :: q,T,h=>by cases T <;> cases c <;> first | exact h | cases h
 | b :: p,[],T,h=>by cases T <;> cases b <;> first | exact h | cases h
 | b :: p,c :: q,T,h=>by
  cases T <;> cases b <;> cases c <;> first
   | exact h
   | exact Qff p q _ h
   | cases h
theorem Qca {t : Nat} : ∀ (p q : List Bool) (T : Tr α),p ≠ q → YE p t (Qds q T) = YE p t T
 | [],[],T,h=>absurd rfl h
 | [],c :: q,T,h=>by cases T <;> cases c <;> rfl
 | b :: p,[],T,h=>by cases T <;> cases b <;> rfl
 | b :: p,c :: q,T,h=>by
  have ih:=fun T=>Qca (t:=t) p q T
  cases T <;> cases b <;> cases c <;> first
   | rfl
   | exact (ih _ fun e=>h (by rw [e]))
end
end Ev
end Gx
