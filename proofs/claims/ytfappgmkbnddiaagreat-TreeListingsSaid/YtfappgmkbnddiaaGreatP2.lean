/- Contracts of the program's functions, proved by walking them with the rules of the Gx texts; without conditions beyond those that each contract names. -/
import Derived.WalkKit
import Derived.Deep.Draws
import Derived.TacticsIn
import Derived.OrdersIn
import Derived.RangeFuncLeaves
import Derived.Lib.Strings
import Derived.Laws.BytesArg
import Derived.Laws.IdiomStrings
import Derived.Deep.Quiet
import Derived.ProofKit
import Derived.OpenShut
import Derived.Laws.StructEq
import Derived.ChangeKeysEq
import Derived.Laws.Externs
import Derived.Lib.Overlaps
import Derived.Carry
import Derived.Laws.Small
import Derived.Lib.Bytealg
import Derived.Test.YtfappgmkbnddiaaGreatProg
import Derived.KernelRfl
import Derived.Lib.Builder
import Derived.Laws.Pointers
import Derived.RangeFuncRecord
import Derived.Test.YtfappgmkbnddiaaGreatP1
set_option linter.unusedSimpArgs false
set_option linter.unusedVariables false
set_option linter.unusedSectionVars false
namespace Gx
open Go Go.RowKit
section
variable {ns : List Nd} {N : List (Nat × Nd)} {a b c : Nat × Nd} {i : Nat} {x : Nd}
theorem RepN.es2 (h : RepN ns (a :: (i,x) :: N)) (es : List TEnt) : RepN (esN ns i es) (a :: (i,{ x with es:=es }) :: N):=((h.perm (List.Perm.swap ..)).es es).perm (List.Perm.swap ..)
theorem RepN.cs2 (h : RepN ns (a :: (i,x) :: N)) (cs : List Int) : RepN (csN ns i cs) (a :: (i,{ x with cs:=cs }) :: N):=((h.perm (List.Perm.swap ..)).cs cs).perm (List.Perm.swap ..)
theorem Qhj {a b c : Nat × Nd} {N : List (Nat × Nd)} : (a :: b :: c :: N).Perm (c :: a :: b :: N):=(List.Perm.cons a (List.Perm.swap ..)).trans (List.Perm.swap ..)
theorem RepN.es3 (h : RepN ns (a :: b :: (i,x) :: N)) (es : List TEnt) : RepN (esN ns i es) (a :: b :: (i,{ x with es:=es }) :: N):=((h.perm Qhj).es es).perm Qhj.symm
theorem RepN.cs3 (h : RepN ns (a :: b :: (i,x) :: N)) (cs : List Int) : RepN (csN ns i cs) (a :: b :: (i,{ x with cs:=cs }) :: N):=((h.perm Qhj).cs cs).perm Qhj.symm
theorem RepN.gone2 (h : RepN ns (a :: (i,x) :: N)) : RepN (ns.set i ⟨false,[],[]⟩) (a :: N):=(h.perm (List.Perm.swap ..)).gone
theorem RepN.gone3 (h : RepN ns (a :: b :: (i,x) :: N)) : RepN (ns.set i ⟨false,[],[]⟩) (a :: b :: N):=(h.perm Qhj).gone
theorem RepN.at1 (h : RepN ns ((i,x) :: N)) : nth ns i = x:=h.head.2
theorem RepN.at2 (h : RepN ns (a :: (i,x) :: N)) : nth ns i = x:=(h.at_ (List.mem_cons_of_mem _ (List.mem_cons_self ..))).2
theorem RepN.at3 (h : RepN ns (a :: b :: (i,x) :: N)) : nth ns i = x:=(h.at_ (List.mem_cons_of_mem _ (List.mem_cons_of_mem _ (List.mem_cons_self ..)))).2
end
section
variable {ns : List Nd} {C : List Fr} {p a b : Nat} {es Ae Be : List TEnt} {l r Ak Bk : List BT}
theorem Qg6 : (plug C (.nd p es (l ++ .nd a Ae Ak :: .nd b Be Bk :: r))).nodes.Perm ((p,⟨true,es,QL l ++ (a : Int) :: (b : Int) :: QL r⟩) :: (a,⟨true,Ae,QL Ak⟩) :: (b,⟨true,Be,QL Bk⟩) :: (Xc C p ++ (Qz l ++ (Qz Ak ++ (Qz Bk ++ Qz r))))):=by
 refine (Yn C _).trans ?_;show (Xc C p ++ (BT.nd p es _).nodes).Perm _;rw [BT.nodes,Yz,Qz,Qz,BT.nodes,BT.nodes,YK,Yg,Yg];refine Qcw fun x=>?_;simp only [List.count_append,List.count_cons,List.cons_append,BT.idx];omega
theorem Qij (h : QS ns (plug C (.nd p es (l ++ .nd a Ae Ak :: .nd b Be Bk :: r)))) : RepN ns ((p,⟨true,es,QL l ++ (a : Int) :: (b : Int) :: QL r⟩) :: (a,⟨true,Ae,QL Ak⟩) :: (b,⟨true,Be,QL Bk⟩) :: (Xc C p ++ (Qz l ++ (Qz Ak ++ (Qz Bk ++ Qz r))))):=RepN.perm h Qg6
theorem QfV {Ak' Bk' : List BT} (h : RepN ns ((p,⟨true,es,QL l ++ (a : Int) :: (b : Int) :: QL r⟩) :: (a,⟨true,Ae,QL Ak'⟩) :: (b,⟨true,Be,QL Bk'⟩) :: (Xc C p ++ (Qz l ++ (Qz Ak ++ (Qz Bk ++ Qz r)))))) (hp : (Qz Ak ++ Qz Bk).Perm (Qz Ak' ++ Qz Bk')) : QS ns (plug C (.nd p es (l ++ .nd a Ae Ak' :: .nd b Be Bk' :: r))):=by
 refine RepN.perm (h.perm ?_) Qg6.symm;refine List.Perm.cons _ (List.Perm.cons _ (List.Perm.cons _ (List.Perm.append_left _ (List.Perm.append_left _ ?_))));rw [← List.append_assoc,← List.append_assoc];exact hp.append_right _
theorem Qlq (h : QS ns (plug C (.nd p es (l ++ .nd a Ae Ak :: .nd b Be Bk :: r)))) :
  QS (Qex ns p l.length a b) (plug C (.nd p (es.set l.length (nth Ae (Ae.length - 1))) (l ++ .nd a (Ae.take (Ae.length - 1)) (Ak.take (Ak.length - 1)) :: .nd b (QI Be 0 (nth es l.length)) (Ak.drop (Ak.length - 1) ++ Bk) :: r))):=by
 have h0:=Qij h;have hp:=h0.at1;have ha:=h0.at2;have hb:=h0.at3;have h1:=((h0.es3 (QI Be 0 (nth es l.length))).es (es.set l.length (nth Ae (Ae.length - 1)))).es2 (Ae.take (Ae.length - 1))
 have hnp : (Qz Ak ++ Qz Bk).Perm (Qz (Ak.take (Ak.length - 1)) ++ Qz (Ak.drop (Ak.length - 1) ++ Bk)):=by
  rw [Yz,← List.append_assoc,← QaE Ak (Ak.length - 1)]
 unfold Qex;rw [hp,ha,hb];simp only [QR];split
 ·rename_i hz;have hk : Ak = []:=List.eq_nil_of_length_eq_zero hz;subst hk;exact QfV h1 hnp
 ·rename_i hz;have h2:=(h1.cs3 (QI (QL Bk) 0 ((QL Ak).getD (Ak.length - 1) 0))).cs2 ((QL Ak).take (Ak.length - 1));refine QfV (Ak':=Ak.take (Ak.length - 1)) (Bk':=Ak.drop (Ak.length - 1) ++ Bk) ?_ hnp;have e1 : QL (Ak.take (Ak.length - 1)) = (QL Ak).take (Ak.length - 1):=Qe7 _ _
  have e2 : QL (Ak.drop (Ak.length - 1) ++ Bk) = QI (QL Bk) 0 ((QL Ak).getD (Ak.length - 1) 0):=by
   rw [YK,Qfg];show _ = (QL Ak).getD (Ak.length - 1) 0 :: QL Bk;have hlt : Ak.length - 1 < (QL Ak).length:=by rw [QR];omega
   rw [List.drop_eq_getElem_cons hlt,List.drop_of_length_le (by rw [QR];omega),List.getD_eq_getElem?_getD,List.getElem?_eq_getElem hlt];rfl
  rw [e1,e2];exact h2
theorem Qhe (h : QS ns (plug C (.nd p es (l ++ .nd a Ae Ak :: .nd b Be Bk :: r)))) :
  QS (QcA ns p l.length b a) (plug C (.nd p (es.set l.length (nth Be 0)) (l ++ .nd a (Ae ++ [nth es l.length]) (Ak ++ Bk.take 1) :: .nd b (Qt Be 0) (Bk.drop 1) :: r))):=by
 have h0:=Qij h;have hp:=h0.at1;have ha:=h0.at2;have hb:=h0.at3;have h1:=((h0.es2 (Ae ++ [nth es l.length])).es (es.set l.length (nth Be 0))).es3 (Qt Be 0)
 have hnp : (Qz Ak ++ Qz Bk).Perm (Qz (Ak ++ Bk.take 1) ++ Qz (Bk.drop 1)):=by
  rw [Yz,List.append_assoc,← QaE Bk 1]
 unfold QcA;rw [hp,ha,hb];simp only [QR];split
 ·rename_i hz;have hk : Bk = []:=List.eq_nil_of_length_eq_zero hz;subst hk;refine QfV (Ak':=Ak ++ [].take 1) (Bk':=[].drop 1) ?_ hnp;rw [List.take_nil,List.append_nil];exact h1
 ·rename_i hz;have h2:=(h1.cs2 (QL Ak ++ [(QL Bk).getD 0 0])).cs3 (Qt (QL Bk) 0);refine QfV (Ak':=Ak ++ Bk.take 1) (Bk':=Bk.drop 1) ?_ hnp;cases Bk with
  | nil=>exact absurd rfl hz
  | cons z Bk=>
   rw [YK];exact h2
theorem QjY (h : QS ns (plug C (.nd p es (l ++ .nd a Ae Ak :: .nd b Be Bk :: r)))) :
  QS (Qcv ns p l.length a b) (plug C (.nd p (Qt es l.length) (l ++ .nd a (Ae ++ nth es l.length :: Be) (Ak ++ Bk) :: r))):=by
 have h0:=Qij h;have hp:=h0.at1;have ha:=h0.at2;have hb:=h0.at3;have h1:=((((h0.es2 (Ae ++ nth es l.length :: Be)).cs2 (QL Ak ++ QL Bk)).es (Qt es l.length)).cs (Qt (QL l ++ (a : Int) :: (b : Int) :: QL r) (l.length + 1))).gone3;unfold Qcv;rw [hp,ha,hb]
 have e : Qt (QL l ++ (a : Int) :: (b : Int) :: QL r) (l.length + 1) = QL l ++ (a : Int) :: QL r:=by
  unfold Qt;rw [List.take_append,List.drop_append,QR,List.take_of_length_le (by rw [QR];omega),List.drop_of_length_le (by rw [QR];omega),show l.length + 1 - l.length = 1 by omega,show l.length + 1 + 1 - l.length = 2 by omega];simp
 rw [e] at h1 ⊢;refine RepN.perm h1 ?_;refine List.Perm.trans ?_ (Yn C _).symm;show List.Perm _ (Xc C p ++ (BT.nd p _ _).nodes);rw [BT.nodes,Yz,Qz,BT.nodes,Yz,YK,YK,Yg];refine Qcw fun x=>?_;simp only [List.count_append,List.count_cons,List.cons_append,BT.idx];omega
end
theorem YY {l r : List BT} {es : List TEnt} {A B : BT} (h : l.length + r.length + 1 = es.length) : QF es (l ++ A :: B :: r) = XL es l ++ ((A.flat ++ nth es l.length :: B.flat) ++ Zl (es.drop (l.length + 1)) r):=by
 rw [YU l es A (B :: r) (by rw [List.length_cons];omega)];have hlt : l.length < es.length:=by omega
 have e : es.drop l.length = nth es l.length :: es.drop (l.length + 1):=by
  rw [List.drop_eq_getElem_cons hlt,show nth es l.length = es[l.length] from Q3 (List.getElem?_eq_getElem hlt)]
 rw [e,Zl];simp only [List.append_assoc,List.cons_append]
def Fit (es : List TEnt) (ks : List BT) : Prop:=ks = [] ∨ ks.length = es.length + 1
theorem QbC {e : TEnt} {Be : List TEnt} {Bk : List BT} : ∀ {Ae : List TEnt} {Ak : List BT},(Ak = [] ∧ Bk = []) ∨ (Ak.length = Ae.length + 1 ∧ Bk.length = Be.length + 1) → QF (Ae ++ e :: Be) (Ak ++ Bk) = QF Ae Ak ++ e :: QF Be Bk
 | Ae,[],h=>by
  rcases h with ⟨_,h⟩ | ⟨h,_⟩
  ·subst h;rw [List.append_nil,Q2,Q2,Q2]
  ·simp at h
 | [],[k],h=>by
  rw [List.nil_append,List.singleton_append,QF,QF,QF,List.append_nil]
 | [],k :: k' :: ks,h=>by
  rcases h with ⟨h,_⟩ | ⟨h,_⟩
  ·cases h
  ·simp at h
 | a :: Ae,k :: ks,h=>by
  rcases h with ⟨h,_⟩ | ⟨h,h2⟩
  ·cases h
  ·rw [List.cons_append,List.cons_append,QF,QF,QbC (Ae:=Ae) (Ak:=ks) (.inr ⟨by simpa using h,h2⟩)];simp only [List.append_assoc,List.cons_append]
theorem Qkm {Ae Be : List TEnt} {Ak Bk : List BT} {e : TEnt} (hA : 0 < Ae.length) (h : (Ak = [] ∧ Bk = []) ∨ (Ak.length = Ae.length + 1 ∧ Bk.length = Be.length + 1)) :
  QF (Ae.take (Ae.length - 1)) (Ak.take (Ak.length - 1)) ++ nth Ae (Ae.length - 1) :: QF (QI Be 0 e) (Ak.drop (Ak.length - 1) ++ Bk) = QF Ae Ak ++ e :: QF Be Bk:=by
 show _ ++ _ :: QF (e :: Be) _ = _;have hsp:=QaW (Ae.length - 1) Ae Ak (by omega) (h.imp (·.1) (·.1));rcases h with ⟨h1,h2⟩ | ⟨h1,h2⟩
 ·subst h1 h2;rw [List.take_nil,List.drop_nil,List.nil_append,Q2,Q2,Q2,Q2];rw [List.take_nil,List.drop_nil,Q2,Q2,Q2,List.drop_of_length_le (by omega)] at hsp
  conv=>rhs;rw [← hsp]
  simp only [List.append_assoc,List.cons_append,List.nil_append]
 ·have e1 : Ae.length - 1 + 1 = Ak.length - 1:=by omega
  rw [e1,List.drop_of_length_le (by omega : Ae.length ≤ Ak.length - 1)] at hsp
  have hd : Ak.drop (Ak.length - 1) = [Ak[Ak.length - 1]'(by omega)]:=by
   rw [List.drop_eq_getElem_cons (by omega),List.drop_of_length_le (by omega)]
  rw [hd] at hsp ⊢;rw [QF,Q2,List.append_nil] at hsp;rw [List.singleton_append,QF,← hsp];simp only [List.append_assoc,List.cons_append]
theorem Qfo {Ae Be : List TEnt} {Ak Bk : List BT} {e : TEnt} (hB : 0 < Be.length) (h : (Ak = [] ∧ Bk = []) ∨ (Ak.length = Ae.length + 1 ∧ Bk.length = Be.length + 1)) :
  QF (Ae ++ [e]) (Ak ++ Bk.take 1) ++ nth Be 0 :: QF (Qt Be 0) (Bk.drop 1) = QF Ae Ak ++ e :: QF Be Bk:=by
 cases Be with
 | nil=>exact absurd hB (by simp)
 | cons x Be=>
  show _ ++ x :: QF Be _ = _;rcases h with ⟨h1,h2⟩ | ⟨h1,h2⟩
  ·subst h1 h2;rw [List.take_nil,List.drop_nil,List.append_nil,Q2,Q2,Q2,Q2];simp only [List.append_assoc,List.cons_append,List.nil_append]
  ·cases Bk with
   | nil=>simp at h2
   | cons z Bk=>
    rw [List.take_succ_cons,List.take_zero,List.drop_succ_cons,List.drop_zero,QbC (e:=e) (Be:=[]) (Bk:=[z]) (.inr ⟨h1,rfl⟩),QF,Q2,List.append_nil,QF];simp only [List.append_assoc,List.cons_append]
theorem Bal.mono {lo lo' hi : Nat} (hl : lo' ≤ lo) : ∀ {d : Nat} {T : BT},Bal lo hi d T → Bal lo' hi d T
 | 0,T,h=>⟨h.1,Nat.le_trans hl h.2.1,h.2.2⟩
 | d + 1,T,h=>⟨⟨h.1.1,fun k hk=>(h.1.2 k hk).mono hl⟩,Nat.le_trans hl h.2.1,h.2.2⟩
theorem Bel.mono {lo lo' hi : Nat} (hl : lo' ≤ lo) : ∀ {d : Nat} {T : BT},Bel lo hi d T → Bel lo' hi d T
 | 0,T,h=>h
 | d + 1,T,h=>⟨h.1,fun k hk=>(h.2 k hk).mono hl⟩
theorem XJ.mono {lo lo' hi rt : Nat} (hl : lo' ≤ lo) : ∀ {C : List Fr} {d : Nat},XJ lo hi rt d C → XJ lo' hi rt d C
 | [],_,_=>trivial
 | f :: C,d,h=>⟨⟨fun k hk=>(h.1.1 k hk).mono hl,fun k hk=>(h.1.2 k hk).mono hl⟩,h.2.1,⟨h.2.2.1.1,fun hne=>⟨Nat.le_trans hl (h.2.2.1.2 hne).1,(h.2.2.1.2 hne).2⟩⟩,XJ.mono hl h.2.2.2⟩
theorem BT.fit {lo hi d : Nat} {i j : Nat} {es es' : List TEnt} {ks ks' : List BT} (h : Bel lo hi d (.nd i es ks)) (h' : Bel lo hi d (.nd j es' ks')) : (ks = [] ∧ ks' = []) ∨ (ks.length = es.length + 1 ∧ ks'.length = es'.length + 1):=by
 cases d with
 | zero=>exact .inl ⟨h,h'⟩
 | succ d=>exact .inr ⟨h.1,h'.1⟩
def Z0 (mo : Int) (P : List Nat) : Nat → List Nd → List Nd
 | 0,ns=>ns
 | k + 1,ns=>Z0 mo P k (if ((nth ns (nth P (k + 1))).es.length : Int) < mo / 2 then Yc mo ns (nth P k) (ixR (nth ns (nth P k)).cs ((nth P (k + 1) : Nat) : Int)) else ns)
structure FilR1 (mo : Int) (ns : List Nd) (p i : Nat) : Prop where
 ok : FilOk mo ns p (ixR (nth ns p).cs (i : Int))
 kd : kdN ns p (ixR (nth ns p).cs (i : Int)) = i
def Qcb (mo : Int) (P : List Nat) : Nat → List Nd → Prop
 | 0,_=>True
 | k + 1,ns=>(nth P (k + 1) < ns.length ∧ (((nth ns (nth P (k + 1))).es.length : Int) < mo / 2 → FilR1 mo ns (nth P k) (nth P (k + 1)))) ∧
   Qcb mo P k (if ((nth ns (nth P (k + 1))).es.length : Int) < mo / 2 then Yc mo ns (nth P k) (ixR (nth ns (nth P k)).cs ((nth P (k + 1) : Nat) : Int)) else ns)
section
variable {ns : List Nd} {C : List Fr} {p : Nat} {es : List TEnt} {ks : List BT} {mo : Int}
theorem YT {ks : List BT} {x : Nat} (h : x < ks.length) : (QL ks).getD x 0 = ((nth ks x).idx : Int):=by
 unfold QL;rw [Y4 (d:=default) h];rfl
theorem Qit (h : QS ns (plug C (.nd p es ks))) : (∀ x,x < ks.length → (nth ks x).idx < ns.length ∧ p ≠ (nth ks x).idx) ∧ (QL ks).Nodup:=by
 constructor
 ·intro x hx;have hs:=QaY hx;generalize nth ks x = K at hs ⊢;rw [hs] at h;have h2 : QS ns (plug (⟨p,es,ks.take x,ks.drop (x + 1)⟩ :: C) K):=h;refine ⟨(QS.at_ h2).1,fun e=>?_⟩;have h1:=h2.plug.nd;rw [List.map_append] at h1;refine (List.nodup_append.1 h1).2.2 p ?_ K.idx K.idx_mem e;rw [Xc,Fr.nodes];exact List.mem_cons_self ..
 ·have hk:=Qgm h;have hm : (p,(⟨true,es,QL ks⟩ : Nd)) ∈ (plug C (.nd p es ks)).nodes:=(Yn C (.nd p es ks)).mem_iff.2 (List.mem_append_right _ (by rw [BT.nodes];exact List.mem_cons_self ..));exact (List.pairwise_flatMap.1 hk).1 _ hm
theorem Qis {l : List Int} (h : l.Nodup) {x y : Nat} (hx : x < l.length) (hy : y < l.length) (hne : x ≠ y) : l.getD x 0 ≠ l.getD y 0:=fun e=>by
 rw [List.getD_eq_getElem?_getD,List.getElem?_eq_getElem hx,List.getD_eq_getElem?_getD,List.getElem?_eq_getElem hy] at e;exact hne ((List.getElem_inj h).1 e)
theorem Qq3 {k : Nat} (h : QS ns (plug C (.nd p es ks))) (hk : k < ks.length) (hl : ks.length = es.length + 1) (hmo : 0 ≤ mo ∧ mo ≤ 1000) (hlen : ns.length ≤ 900) (hsm : Sm 900 ns) : FilOk mo ns p k:=by
 have hat : p < ns.length ∧ nth ns p = ⟨true,es,QL ks⟩:=QS.at_ (T:=.nd p es ks) h;have hkd:=Qit h;have hcs : (nth ns p).cs = QL ks:=by rw [hat.2]
 have hkdN : ∀ x,x < ks.length → kdN ns p x = (nth ks x).idx:=fun x hx=>by
  unfold kdN;rw [hcs,YT hx];rfl
 refine ⟨hmo,hat.1,by rw [hcs,QR];exact hk,by rw [hat.2];show (QL ks).length = _;rw [QR];exact hl,fun x hx=>?_,fun x y hx hy hne=>?_,hlen,hsm⟩
 ·rw [hcs,QR] at hx;rw [hcs,YT hx,hkdN x hx];exact ⟨by omega,(hkd.1 x hx).1,(hkd.1 x hx).2⟩
 ·rw [hcs,QR] at hx hy;have h1:=Qis hkd.2 (by rw [QR];exact hx) (by rw [QR];exact hy) hne;rw [YT hx,YT hy] at h1;rw [hkdN x hx,hkdN y hy];omega
end
section
variable {ns : List Nd} {f : Fr} {C : List Fr} {T : BT}
theorem Qg0 (h : QS ns (plug (f :: C) T)) : f.i < ns.length ∧ nth ns f.i = ⟨true,f.es,QL (f.l ++ T :: f.r)⟩:=QS.at_ (C:=C) (T:=f.fill T) h
theorem QrD (h : QS ns (plug (f :: C) T)) : ixR (nth ns f.i).cs (T.idx : Int) = f.l.length:=by
 have h2 : QS ns (plug C (.nd f.i f.es (f.l ++ T :: f.r))):=h;have hnd:=(Qit h2).2;rw [YK,Yg] at hnd;have hn : (T.idx : Int) ∉ QL f.l:=fun hm=>(List.nodup_append.1 hnd).2.2 _ hm _ (List.mem_cons_self ..) rfl;rw [(Qg0 h).2];show ixR (QL (f.l ++ T :: f.r)) (T.idx : Int) = _;rw [YK,Yg];have h3:=QdC (B:=QL f.r) hn;unfold ixR;rw [h3,if_pos (by simp),QR]
theorem Qfc (h : QS ns (plug (f :: C) T)) {x : Nat} (hx : x < (f.l ++ T :: f.r).length) : kdN ns f.i x = (nth (f.l ++ T :: f.r) x).idx:=by
 unfold kdN;rw [(Qg0 h).2];show ((QL (f.l ++ T :: f.r)).getD x 0).toNat = _;rw [YT hx];rfl
theorem QqV (h : QS ns (plug (f :: C) T)) {x : Nat} (hx : x < (f.l ++ T :: f.r).length) : (nth ns (nth (f.l ++ T :: f.r) x).idx).es = (nth (f.l ++ T :: f.r) x).es:=by
 have hs:=QaY hx;generalize nth (f.l ++ T :: f.r) x = K at hs ⊢;have h2 : QS ns (plug C (.nd f.i f.es (f.l ++ T :: f.r))):=h;rw [hs] at h2;have h3 : QS ns (plug (⟨f.i,f.es,(f.l ++ T :: f.r).take x,(f.l ++ T :: f.r).drop (x + 1)⟩ :: C) K):=h2;rw [(QS.at_ h3).2]
theorem QfY {mo : Int} (h : QS ns (plug (f :: C) T)) {x : Nat} (hx : x < (f.l ++ T :: f.r).length) : Ye mo ns f.i (x : Int) = decide (mo / 2 < ((nth (f.l ++ T :: f.r) x).es.length : Int)):=by
 have h1:=(Qg0 h).2;rw [QdX h1 ⟨by omega,by show (x : Int) ≤ ((QL (f.l ++ T :: f.r)).length : Int) - 1;rw [QR];omega⟩];rw [show ((x : Int)).toNat = x from rfl,Qfc h hx,QqV h hx]
theorem QjM {mo : Int} (h : QS ns (plug (f :: C) T)) {x : Int} (hx : x < 0 ∨ ((f.l ++ T :: f.r).length : Int) ≤ x) : Ye mo ns f.i x = false:=by
 refine Qec (Qg0 h).2 ?_;show (decide (0 ≤ x) && decide (x ≤ ((QL (f.l ++ T :: f.r)).length : Int) - 1)) = false;rw [QR];rcases hx with hx | hx
 ·rw [decide_eq_false (by omega)];rfl
 ·rw [decide_eq_false (by omega : ¬ x ≤ ((f.l ++ T :: f.r).length : Int) - 1),Bool.and_false]
end
theorem Qlg {α : Type} [Inhabited α] {l r : List α} {x : Nat} (h : l.length ≤ x) : nth (l ++ r) x = nth r (x - l.length):=by
 unfold nth;rw [List.getD_eq_getElem?_getD,List.getElem?_append_right h,← List.getD_eq_getElem?_getD]
theorem Qko {mo : Int} {lo hi rt d : Nat} {ns : List Nd} {f : Fr} {C : List Fr} {T : BT} (hmo : mo = (hi : Int)) (hlo : lo = hi / 2) (h3 : 3 ≤ hi) (hR : QS ns (plug (f :: C) T)) (hC : XJ lo hi rt d (f :: C)) (hB : Bel lo hi d T) (hT : T.es.length + 1 = lo) (hg : C = [] → f.es ≠ []) :
  ∃ es' ks',QS (Yc mo ns f.i f.l.length) (plug C (.nd f.i es' ks')) ∧ Bel lo hi (d + 1) (.nd f.i es' ks') ∧ f.es.length ≤ es'.length + 1 ∧ es'.length ≤ f.es.length ∧ QF es' ks' = (f.fill T).flat:=by
 obtain ⟨p,es,l,r⟩:=f;obtain ⟨t,Te,Tk⟩:=T;have hTl : Te.length + 1 = lo:=hT;have hlen : l.length + r.length = es.length:=hC.2.1;have hlb : ∀ k ∈ l,Bal lo hi d k:=hC.1.1;have hrb : ∀ k ∈ r,Bal lo hi d k:=hC.1.2
 have hne : es ≠ []:=fun e=>by
  by_cases hc : C = []
  ·exact hg hc e
  ·have h9 : lo ≤ es.length:=(hC.2.2.1.2 hc).1;rw [e] at h9;simp only [List.length_nil] at h9;omega
 have hpos : 0 < es.length:=List.length_pos_iff.2 hne;have hfl : (Fr.fill ⟨p,es,l,r⟩ (.nd t Te Tk)).flat = QF es (l ++ .nd t Te Tk :: r):=rfl;rw [hfl];show ∃ es' ks',QS (Yc mo ns p l.length) (plug C (.nd p es' ks')) ∧ Bel lo hi (d + 1) (.nd p es' ks') ∧ es.length ≤ es'.length + 1 ∧ es'.length ≤ es.length ∧ QF es' ks' = QF es (l ++ .nd t Te Tk :: r);have hT0 : nth (l ++ BT.nd t Te Tk :: r) l.length = .nd t Te Tk:=Zn l _ r
 have hkT : kdN ns p l.length = t:=by
  have:=Qfc hR (x:=l.length) (by simp);rw [this];show (nth (l ++ BT.nd t Te Tk :: r) l.length).idx = t;rw [hT0];rfl
 -- the neighbour in front
 rcases List.eq_nil_or_concat l with hl0 | ⟨l',A,hlA⟩
 ·-- none
  subst hl0;have hr1 : Ye mo ns p (((([] : List BT).length : Nat) : Int) - 1) = false:=QjM hR (.inl (by simp));cases r with
  | nil=>
   simp only [List.length_nil] at hlen;omega
  | cons G r=>
   obtain ⟨g,Ge,Gk⟩:=G;have hG:=hrb (.nd g Ge Gk) (List.mem_cons_self ..);have hGb:=Xu.1 hG;have hGl : lo ≤ Ge.length ∧ Ge.length ≤ hi:=hGb.2
   have hkG : kdN ns p 1 = g:=by
    have:=Qfc hR (x:=1) (by simp);rw [this];rfl
   have hr2 : Ye mo ns p ((([] : List BT).length : Nat) + 1 : Int) = decide (mo / 2 < (Ge.length : Int)):=by
    have:=QfY (mo:=mo) hR (x:=1) (by simp);exact this
   have hfit:=BT.fit hB hGb.1;unfold Yc;rw [hr1,if_neg (by decide),hr2]
   by_cases hrich : mo / 2 < (Ge.length : Int)
   ·rw [if_pos (decide_eq_true hrich)];have hrep:=Qhe (l:=[]) (r:=r) (es:=es) (a:=t) (b:=g) hR;have e1 : QcA ns p ([] : List BT).length (kdN ns p (([] : List BT).length + 1)) (kdN ns p ([] : List BT).length) = QcA ns p 0 g t:=by rw [hkT];show QcA ns p 0 (kdN ns p 1) t = _;rw [hkG]
    rw [e1];refine ⟨_,_,hrep,⟨by show (_ :: _ :: r).length = (es.set _ _).length + 1;simp only [List.length_cons,List.length_set];have h9 : 0 + (r.length + 1) = es.length:=hlen;omega,fun k hk=>?_⟩,by rw [List.length_set];omega,by rw [List.length_set];exact Nat.le_refl _,?_⟩
    ·have hk' : k = .nd t (Te ++ [nth es 0]) (Tk ++ Gk.take 1) ∨ k = .nd g (Qt Ge 0) (Gk.drop 1) ∨ k ∈ r:=by
      rcases List.mem_cons.1 hk with h | hk
      ·exact .inl h
      ·rcases List.mem_cons.1 hk with h | hk
       ·exact .inr (.inl h)
       ·exact .inr (.inr hk)
     rcases hk' with rfl | rfl | hk'
     ·refine Xu.2 ⟨?_,by show lo ≤ (Te ++ [_]).length ∧ (Te ++ [_]).length ≤ hi;simp only [List.length_append,List.length_singleton];omega⟩;cases d with
      | zero=>
       have e1 : Tk = []:=hB;have e2 : Gk = []:=hGb.1;subst e1 e2;rfl
      | succ d=>
       have e1 : Tk.length = Te.length + 1:=hB.1;have e2 : Gk.length = Ge.length + 1:=hGb.1.1;refine ⟨by show (Tk ++ Gk.take 1).length = (Te ++ [_]).length + 1;simp only [List.length_append,List.length_take,List.length_singleton];omega,fun k hk=>?_⟩;rcases List.mem_append.1 hk with hk | hk
       ·exact hB.2 k hk
       ·exact hGb.1.2 k (List.mem_of_mem_take hk)
     ·refine Xu.2 ⟨?_,by show lo ≤ (Ge.drop 1).length ∧ (Ge.drop 1).length ≤ hi;rw [List.length_drop];omega⟩;cases d with
      | zero=>
       have e2 : Gk = []:=hGb.1;subst e2;rfl
      | succ d=>
       have e2 : Gk.length = Ge.length + 1:=hGb.1.1;refine ⟨by show (Gk.drop 1).length = (Ge.drop 1).length + 1;simp only [List.length_drop];omega,fun k hk=>hGb.1.2 k (List.mem_of_mem_drop hk)⟩
     ·exact hrb k (List.mem_cons_of_mem _ hk')
    ·have hln : ([] : List BT).length + r.length + 1 = es.length:=by simp only [List.length_cons,List.length_nil] at hlen ⊢;omega
     have hs : ([] : List BT).length + r.length + 1 = (es.set ([] : List BT).length (nth Ge 0)).length:=by rw [List.length_set];exact hln
     have h1:=YY (l:=[]) (r:=r) (A:=.nd t (Te ++ [nth es 0]) (Tk ++ Gk.take 1)) (B:=.nd g (Qt Ge 0) (Gk.drop 1)) hs;have h2:=YY (l:=[]) (r:=r) (A:=.nd t Te Tk) (B:=.nd g Ge Gk) hln;rw [h2];refine h1.trans ?_;have e0 : nth (es.set ([] : List BT).length (nth Ge 0)) ([] : List BT).length = nth Ge 0:=Q3 (List.getElem?_set_self hpos);have e2 : (es.set ([] : List BT).length (nth Ge 0)).drop (([] : List BT).length + 1) = es.drop (([] : List BT).length + 1):=List.drop_set_of_lt (by simp);rw [e0,e2];have e3 : ∀ x : List TEnt,XL x ([] : List BT) = []:=fun x=>by cases x <;> rfl
     rw [e3,e3,BT.flat,BT.flat,BT.flat,BT.flat];rw [Qfo (by omega) hfit];rfl
   ·rw [if_neg (by rw [decide_eq_false hrich];decide),if_neg (by simp),if_pos (by rw [(Qg0 hR).2];show 1 < (QL ([] ++ BT.nd t Te Tk :: BT.nd g Ge Gk :: r)).length;rw [QR];simp)];have hrep:=QjY (l:=[]) (r:=r) (es:=es) (a:=t) (b:=g) hR;have e1 : Qcv ns p ([] : List BT).length (kdN ns p ([] : List BT).length) (kdN ns p (([] : List BT).length + 1)) = Qcv ns p 0 t g:=by rw [hkT];show Qcv ns p 0 t (kdN ns p 1) = _;rw [hkG]
    rw [e1];have hol : (Qt es 0).length = es.length - 1:=Zx hpos;refine ⟨_,_,hrep,⟨by show (_ :: r).length = (Qt es 0).length + 1;rw [hol];simp only [List.length_cons,List.length_nil] at hlen ⊢;omega,fun k hk=>?_⟩,by show es.length ≤ (Qt es 0).length + 1;rw [hol];omega,by show (Qt es 0).length ≤ _;rw [hol];omega,?_⟩
    ·rcases List.mem_cons.1 (show k ∈ BT.nd t (Te ++ nth es 0 :: Ge) (Tk ++ Gk) :: r from hk) with rfl | hk'
     ·refine Xu.2 ⟨?_,by show lo ≤ (Te ++ _ :: Ge).length ∧ (Te ++ _ :: Ge).length ≤ hi;simp only [List.length_append,List.length_cons];omega⟩;cases d with
      | zero=>
       have e1 : Tk = []:=hB;have e2 : Gk = []:=hGb.1;subst e1 e2;rfl
      | succ d=>
       have e1 : Tk.length = Te.length + 1:=hB.1;have e2 : Gk.length = Ge.length + 1:=hGb.1.1;refine ⟨by show (Tk ++ Gk).length = (Te ++ _ :: Ge).length + 1;simp only [List.length_append,List.length_cons];omega,fun k hk=>?_⟩;rcases List.mem_append.1 hk with hk | hk
       ·exact hB.2 k hk
       ·exact hGb.1.2 k hk
     ·exact hrb k (List.mem_cons_of_mem _ hk')
    ·have hln : ([] : List BT).length + r.length + 1 = es.length:=by simp only [List.length_cons,List.length_nil] at hlen ⊢;omega
     have h2:=YY (l:=[]) (r:=r) (A:=.nd t Te Tk) (B:=.nd g Ge Gk) hln;rw [h2];have h1:=YU [] (Qt es 0) (.nd t (Te ++ nth es 0 :: Ge) (Tk ++ Gk)) r (by rw [hol];simp only [List.length_nil] at hln ⊢;omega);refine h1.trans ?_;have e3 : ∀ x : List TEnt,XL x ([] : List BT) = []:=fun x=>by cases x <;> rfl
     rw [e3,e3,BT.flat,BT.flat,BT.flat,QbC hfit];rfl
 ·-- one in front
  rw [List.concat_eq_append] at hlA;subst hlA;obtain ⟨a,Ae,Ak⟩:=A;have hA:=hlb (.nd a Ae Ak) (by simp);have hAb:=Xu.1 hA;have hAl : lo ≤ Ae.length ∧ Ae.length ≤ hi:=hAb.2;have hll : (l' ++ [BT.nd a Ae Ak]).length = l'.length + 1:=by simp
  have hkA : kdN ns p l'.length = a:=by
   have:=Qfc hR (x:=l'.length) (by simp only [List.length_append,List.length_cons];omega);rw [this];show (nth ((l' ++ [BT.nd a Ae Ak]) ++ BT.nd t Te Tk :: r) l'.length).idx = a;rw [List.append_assoc,List.singleton_append,Zn];rfl
  have hr1 : Ye mo ns p (((l' ++ [BT.nd a Ae Ak]).length : Nat) - 1 : Int) = decide (mo / 2 < (Ae.length : Int)):=by
   have:=QfY (mo:=mo) hR (x:=l'.length) (by simp only [List.length_append,List.length_cons];omega);have e : nth ((l' ++ [BT.nd a Ae Ak]) ++ BT.nd t Te Tk :: r) l'.length = .nd a Ae Ak:=by rw [List.append_assoc,List.singleton_append,Zn]
   rw [hll,show ((l'.length + 1 : Nat) : Int) - 1 = (l'.length : Int) by omega];refine this.trans ?_;show decide (mo / 2 < ((nth ((l' ++ [BT.nd a Ae Ak]) ++ BT.nd t Te Tk :: r) l'.length).es.length : Int)) = _;rw [e];rfl
  have hfit:=BT.fit hAb.1 hB
  have hR2 : QS ns (plug C (.nd p es (l' ++ .nd a Ae Ak :: .nd t Te Tk :: r))):=by
   have : QS ns (plug C (.nd p es ((l' ++ [BT.nd a Ae Ak]) ++ BT.nd t Te Tk :: r))):=hR;rw [List.append_assoc,List.singleton_append] at this;exact this
  have hln : l'.length + r.length + 1 = es.length:=by rw [hll] at hlen;omega
  have hassoc : (l' ++ [BT.nd a Ae Ak]) ++ BT.nd t Te Tk :: r = l' ++ BT.nd a Ae Ak :: BT.nd t Te Tk :: r:=by rw [List.append_assoc,List.singleton_append]
  have hl'b : ∀ k ∈ l',Bal lo hi d k:=fun k hk=>hlb k (List.mem_append_left _ hk);have hlt' : l'.length < es.length:=by omega
  rw [hassoc];unfold Yc;rw [hr1]
  by_cases hrich : mo / 2 < (Ae.length : Int)
  ·rw [if_pos (decide_eq_true hrich),hkT,show (l' ++ [BT.nd a Ae Ak]).length - 1 = l'.length by simp,hkA];refine ⟨_,_,Qlq hR2,⟨by show (l' ++ _ :: _ :: r).length = (es.set _ _).length + 1;simp only [List.length_append,List.length_cons,List.length_set];omega,fun k hk=>?_⟩,by rw [List.length_set];omega,by rw [List.length_set];exact Nat.le_refl _,?_⟩
   ·rcases List.mem_append.1 hk with hk | hk
    ·exact hl'b k hk
    ·rcases List.mem_cons.1 hk with rfl | hk
     ·refine Xu.2 ⟨?_,by show lo ≤ (Ae.take _).length ∧ (Ae.take _).length ≤ hi;rw [List.length_take];omega⟩;cases d with
      | zero=>
       have e2 : Ak = []:=hAb.1;subst e2;rfl
      | succ d=>
       have e2 : Ak.length = Ae.length + 1:=hAb.1.1;exact ⟨by show (Ak.take _).length = (Ae.take _).length + 1;simp only [List.length_take];omega,fun k hk=>hAb.1.2 k (List.mem_of_mem_take hk)⟩
     ·rcases List.mem_cons.1 hk with rfl | hk
      ·refine Xu.2 ⟨?_,by show lo ≤ (_ :: Te).length ∧ (_ :: Te).length ≤ hi;simp only [List.length_cons];omega⟩;cases d with
       | zero=>
        have e1 : Tk = []:=hB;have e2 : Ak = []:=hAb.1;subst e1 e2;rfl
       | succ d=>
        have e1 : Tk.length = Te.length + 1:=hB.1;have e2 : Ak.length = Ae.length + 1:=hAb.1.1;refine ⟨by show (Ak.drop _ ++ Tk).length = (_ :: Te).length + 1;simp only [List.length_append,List.length_drop,List.length_cons];omega,fun k hk=>?_⟩;rcases List.mem_append.1 hk with hk | hk
        ·exact hAb.1.2 k (List.mem_of_mem_drop hk)
        ·exact hB.2 k hk
      ·exact hrb k hk
   ·rw [YY (l:=l') (by rw [List.length_set];exact hln),YY (l:=l') hln,BT.flat,BT.flat,BT.flat,BT.flat];have e0 : nth (es.set l'.length (nth Ae (Ae.length - 1))) l'.length = nth Ae (Ae.length - 1):=Q3 (by rw [List.getElem?_set_self hlt']);have e2 : (es.set l'.length (nth Ae (Ae.length - 1))).drop (l'.length + 1) = es.drop (l'.length + 1):=List.drop_set_of_lt (by omega)
    have e3 : XL (es.set l'.length (nth Ae (Ae.length - 1))) l' = XL es l':=by
     rw [← YC (es:=es.set _ _) (l:=l') (by rw [List.length_set];omega),← YC (es:=es) (l:=l') (by omega),List.take_set_of_le (Nat.le_refl _)]
    rw [e0,e2,e3,Qkm (by omega) hfit]
  ·rw [if_neg (by rw [decide_eq_false hrich];decide)]
   -- the neighbour behind
   have key : Ye mo ns p (((l' ++ [BT.nd a Ae Ak]).length : Nat) + 1 : Int) = true → ∃ g Ge Gk r',r = .nd g Ge Gk :: r' ∧ lo < Ge.length ∧ kdN ns p ((l' ++ [BT.nd a Ae Ak]).length + 1) = g:=fun h=>by
    cases r with
    | nil=>
     have:=QjM (mo:=mo) hR (x:=(((l' ++ [BT.nd a Ae Ak]).length : Nat) + 1 : Int)) (.inr (by simp only [List.length_append,List.length_cons,List.length_nil];omega));rw [show Ye mo ns p _ = false from this] at h;cases h
    | cons G r=>
     obtain ⟨g,Ge,Gk⟩:=G;have hx : (l' ++ [BT.nd a Ae Ak]).length + 1 < ((l' ++ [BT.nd a Ae Ak]) ++ BT.nd t Te Tk :: .nd g Ge Gk :: r).length:=by simp only [List.length_append,List.length_cons,List.length_nil];omega
     have e : nth ((l' ++ [BT.nd a Ae Ak]) ++ BT.nd t Te Tk :: .nd g Ge Gk :: r) ((l' ++ [BT.nd a Ae Ak]).length + 1) = .nd g Ge Gk:=by
      rw [Qlg (by omega),Nat.add_sub_cancel_left];rfl
     have h1:=QfY (mo:=mo) hR hx;have h2 : Ye mo ns p (((l' ++ [BT.nd a Ae Ak]).length + 1 : Nat) : Int) = true:=h;rw [show Ye mo ns p _ = _ from h1] at h2;have h3 : mo / 2 < ((nth ((l' ++ [BT.nd a Ae Ak]) ++ BT.nd t Te Tk :: .nd g Ge Gk :: r) ((l' ++ [BT.nd a Ae Ak]).length + 1)).es.length : Int):=of_decide_eq_true h2;rw [e] at h3;have h3' : mo / 2 < (Ge.length : Int):=h3;refine ⟨g,Ge,Gk,r,rfl,by omega,?_⟩;have h4:=Qfc hR hx;refine h4.trans ?_;show (nth ((l' ++ [BT.nd a Ae Ak]) ++ BT.nd t Te Tk :: .nd g Ge Gk :: r) ((l' ++ [BT.nd a Ae Ak]).length + 1)).idx = g;rw [e];rfl
   by_cases hrr : Ye mo ns p (((l' ++ [BT.nd a Ae Ak]).length : Nat) + 1 : Int) = true
   ·rw [if_pos hrr];obtain ⟨g,Ge,Gk,r',hr,hGr,hkG⟩:=key hrr;subst hr;rw [hkG,hkT];have hG:=hrb (.nd g Ge Gk) (List.mem_cons_self ..);have hGb:=Xu.1 hG;have hGl : lo ≤ Ge.length ∧ Ge.length ≤ hi:=hGb.2;have hfit2:=BT.fit hB hGb.1;have hln2 : (l' ++ [BT.nd a Ae Ak]).length + r'.length + 1 = es.length:=by simp only [List.length_cons] at hlen;omega
    have hlt2 : (l' ++ [BT.nd a Ae Ak]).length < es.length:=by omega
    refine ⟨_,_,Qhe (l:=l' ++ [BT.nd a Ae Ak]) (r:=r') (es:=es) (a:=t) (b:=g) hR,⟨by show ((l' ++ [BT.nd a Ae Ak]) ++ _ :: _ :: r').length = (es.set _ _).length + 1;rw [List.length_append,List.length_set];simp only [List.length_cons];omega,fun k hk=>?_⟩,by rw [List.length_set];omega,by rw [List.length_set];exact Nat.le_refl _,?_⟩
    ·rcases List.mem_append.1 hk with hk | hk
     ·exact hlb k hk
     ·rcases List.mem_cons.1 hk with rfl | hk
      ·refine Xu.2 ⟨?_,by show lo ≤ (Te ++ [_]).length ∧ (Te ++ [_]).length ≤ hi;simp only [List.length_append,List.length_singleton];omega⟩;cases d with
       | zero=>
        have e1 : Tk = []:=hB;have e2 : Gk = []:=hGb.1;subst e1 e2;rfl
       | succ d=>
        have e1 : Tk.length = Te.length + 1:=hB.1;have e2 : Gk.length = Ge.length + 1:=hGb.1.1;refine ⟨by show (Tk ++ Gk.take 1).length = (Te ++ [_]).length + 1;simp only [List.length_append,List.length_take,List.length_singleton];omega,fun k hk=>?_⟩;rcases List.mem_append.1 hk with hk | hk
        ·exact hB.2 k hk
        ·exact hGb.1.2 k (List.mem_of_mem_take hk)
      ·rcases List.mem_cons.1 hk with rfl | hk
       ·refine Xu.2 ⟨?_,by show lo ≤ (Ge.drop 1).length ∧ (Ge.drop 1).length ≤ hi;rw [List.length_drop];omega⟩;cases d with
        | zero=>
         have e2 : Gk = []:=hGb.1;subst e2;rfl
        | succ d=>
         have e2 : Gk.length = Ge.length + 1:=hGb.1.1;exact ⟨by show (Gk.drop 1).length = (Ge.drop 1).length + 1;simp only [List.length_drop];omega,fun k hk=>hGb.1.2 k (List.mem_of_mem_drop hk)⟩
       ·exact hrb k (List.mem_cons_of_mem _ hk)
    ·rw [← hassoc,YY (l:=l' ++ [BT.nd a Ae Ak]) (by rw [List.length_set];exact hln2),YY (l:=l' ++ [BT.nd a Ae Ak]) hln2,BT.flat,BT.flat,BT.flat,BT.flat];have e0 : nth (es.set (l' ++ [BT.nd a Ae Ak]).length (nth Ge 0)) (l' ++ [BT.nd a Ae Ak]).length = nth Ge 0:=Q3 (by rw [List.getElem?_set_self hlt2]);have e2 : (es.set (l' ++ [BT.nd a Ae Ak]).length (nth Ge 0)).drop ((l' ++ [BT.nd a Ae Ak]).length + 1) = es.drop ((l' ++ [BT.nd a Ae Ak]).length + 1):=List.drop_set_of_lt (by omega)
     have e3 : XL (es.set (l' ++ [BT.nd a Ae Ak]).length (nth Ge 0)) (l' ++ [BT.nd a Ae Ak]) = XL es (l' ++ [BT.nd a Ae Ak]):=by
      rw [← YC (es:=es.set _ _) (l:=l' ++ [BT.nd a Ae Ak]) (by rw [List.length_set];omega),← YC (es:=es) (l:=l' ++ [BT.nd a Ae Ak]) (by omega),List.take_set_of_le (Nat.le_refl _)]
     rw [e0,e2,e3,Qfo (by omega) hfit2]
   ·rw [if_neg hrr,if_pos (by simp),hkT,show (l' ++ [BT.nd a Ae Ak]).length - 1 = l'.length by simp,hkA];have hol : (Qt es l'.length).length = es.length - 1:=Zx hlt';refine ⟨_,_,QjY hR2,⟨by show (l' ++ _ :: r).length = (Qt es l'.length).length + 1;rw [hol];simp only [List.length_append,List.length_cons];omega,fun k hk=>?_⟩,by rw [hol];omega,by rw [hol];omega,?_⟩
    ·rcases List.mem_append.1 hk with hk | hk
     ·exact hl'b k hk
     ·rcases List.mem_cons.1 hk with rfl | hk
      ·refine Xu.2 ⟨?_,by show lo ≤ (Ae ++ _ :: Te).length ∧ (Ae ++ _ :: Te).length ≤ hi;simp only [List.length_append,List.length_cons];omega⟩;cases d with
       | zero=>
        have e1 : Tk = []:=hB;have e2 : Ak = []:=hAb.1;subst e1 e2;rfl
       | succ d=>
        have e1 : Tk.length = Te.length + 1:=hB.1;have e2 : Ak.length = Ae.length + 1:=hAb.1.1;refine ⟨by show (Ak ++ Tk).length = (Ae ++ _ :: Te).length + 1;simp only [List.length_append,List.length_cons];omega,fun k hk=>?_⟩;rcases List.mem_append.1 hk with hk | hk
        ·exact hAb.1.2 k hk
        ·exact hB.2 k hk
      ·exact hrb k hk
    ·rw [YU l' (Qt es l'.length) _ r (by rw [hol];omega),YY (l:=l') hln,BT.flat,BT.flat,BT.flat,QbC hfit]
     have e3 : XL (Qt es l'.length) l' = XL es l':=by
      unfold Qt;rw [QbM _ _ _ (by rw [List.length_take];omega),YC (by omega)]
     have e4 : (Qt es l'.length).drop l'.length = es.drop (l'.length + 1):=by
      unfold Qt;rw [List.drop_append,List.drop_of_length_le (by rw [List.length_take];omega),List.length_take,Nat.min_eq_left (by omega),Nat.sub_self,List.drop_zero,List.nil_append]
     rw [e3,e4]
theorem QkU (ns : List Nd) (p k f t : Nat) : (Qex ns p k f t).length = ns.length:=by
 unfold Qex;simp only [];split <;> simp [XX,Zw]
theorem QlO (ns : List Nd) (p k f t : Nat) : (QcA ns p k f t).length = ns.length:=by
 unfold QcA;simp only [];split <;> simp [XX,Zw]
theorem Qg1 (ns : List Nd) (p k t f : Nat) : (Qcv ns p k t f).length = ns.length:=by
 unfold Qcv;simp [XX,Zw]
theorem QmL (mo : Int) (ns : List Nd) (p k : Nat) : (Yc mo ns p k).length = ns.length:=by
 unfold Yc;split
 ·exact QkU ..
 ·split
  ·exact QlO ..
  ·split
   ·exact Qg1 ..
   ·split
    ·exact Qg1 ..
    ·rfl
def Qn2 (rt : Nat) : List Fr → Prop
 | f :: g :: C=>Qca rt (g :: C) f.es.length
 | _=>True
theorem Qca.s {rt n : Nat} : ∀ {C : List Fr},Qca rt C n → Qn2 rt C
 | [],_=>trivial
 | [f],_=>trivial
 | f :: g :: C,h=>h
theorem Qfv {lo hi rt : Nat} : ∀ {C : List Fr} {d : Nat} (T : BT),XJ lo hi rt d C → C ≠ [] → (plug C T).es.length ≤ rt
 | [],_,_,_,h=>absurd rfl h
 | [f],d,T,hC,_=>hC.2.2.1.1 rfl
 | f :: g :: C,d,T,hC,_=>Qfv (C:=g :: C) (f.fill T) hC.2.2.2 (by simp)
structure Filled (mo : Int) (lo hi rt : Nat) (P : List Nat) (k : Nat) (ns : List Nd) (W : List Nat) (fl : List TEnt) : Prop where
 ok : ZF mo ns W
 okR : Qcb mo P k ns
 same : Z0 mo P k ns = Yw mo ns W
 tree : ∃ T d,QS (Yw mo ns W) T ∧ T.idx = 0 ∧ Bel lo hi d T ∧ T.es.length ≤ rt ∧ T.flat = fl
 len : (Yw mo ns W).length = ns.length
theorem QfJ {mo : Int} {lo hi rt : Nat} (hmo : mo = (hi : Int)) (hlo : lo = hi / 2) (h3 : 3 ≤ hi) (h8 : hi ≤ 800) (hrt : rt ≤ hi) (hlr : lo ≤ rt) (P : List Nat) : ∀ (C : List Fr) (d : Nat) (ns : List Nd) (T : BT),QS ns (plug C T) → (plug C T).idx = 0 → XJ lo hi rt d C → Bel lo hi d T →
  ((C = [] → T.es.length ≤ rt) ∧ (C ≠ [] → lo ≤ T.es.length + 1 ∧ T.es.length ≤ hi)) → (∀ f,C = [f] → f.es = [] → rt ≤ T.es.length) → Qn2 rt C → ns.length ≤ 800 → P.take (C.length + 1) = (T.idx :: C.map Fr.i).reverse →
  Filled mo lo hi rt P C.length ns (T.idx :: C.map Fr.i) (plug C T).flat
 | [],d,ns,T,hR,h0,hC,hB,hb,hg,hs,hl,hP=>by
  have h1 : T.idx = 0:=h0;have hat:=QS.at_ (C:=[]) hR
  have e : Yw mo ns [T.idx] = ns:=by
   show Qbo mo ns T.idx = ns;unfold Qbo;rw [if_neg (fun h=>by omega)]
  refine ⟨⟨⟨hat.1,fun h=>by omega⟩,trivial⟩,trivial,e.symm,?_,?_⟩
  ·show ∃ T' d',QS (Yw mo ns [T.idx]) T' ∧ _;rw [e];exact ⟨T,d,hR,h1,hB,hb.1 rfl,rfl⟩
  ·show (Yw mo ns [T.idx]).length = _;rw [e]
 | f :: C,d,ns,T,hR,h0,hC,hB,hb,hg,hs,hl,hP=>by
  have hne : T.idx ≠ 0:=by
   have:=Qjl hR (by simp);rw [h0] at this;exact this
  have hat:=QS.at_ (C:=f :: C) hR;have hb1:=hb.2 (by simp);have hlen2 : (C.map Fr.i).length = C.length:=by simp
  have hP1:=Qct (A:=f.i :: C.map Fr.i) (x:=T.idx) (by
   rw [List.length_cons,hlen2];exact hP)
  rw [List.length_cons,hlen2] at hP1
  have hP2:=Qct (A:=C.map Fr.i) (x:=f.i) (by
   rw [hlen2];exact hP1.2)
  rw [hlen2] at hP2;have hf:=hC.2.2.1;have hes : (nth ns T.idx).es.length = T.es.length:=by rw [hat.2]
  have hmo2 : mo / 2 = (lo : Int):=by omega
  have hgn : ∀ n,f.es.length ≤ n + 1 → ∀ g,C = [g] → g.es = [] → rt ≤ n:=fun n hn g hC' hge=>by
   subst hC';have h9 : rt < f.es.length:=hs hge;omega
  have hgS : Qn2 rt C:=by
   cases C with
   | nil=>trivial
   | cons g C'=>
    cases C' with
    | nil=>trivial
    | cons h C''=>exact hs
  by_cases hsm : T.es.length + 1 = lo
  ·-- filled
   have hlt : ((nth ns T.idx).es.length : Int) < mo / 2:=by rw [hes,hmo2];omega
   have hlt2 : ((nth ns (nth P (C.length + 1))).es.length : Int) < mo / 2:=by rw [hP1.1];exact hlt
   have hnfe : C = [] → f.es ≠ []:=fun hc e=>by
    subst hc;have:=hg f rfl e;omega
   obtain ⟨es',ks',s1,s2,s3,s4,s5⟩:=Qko (rt:=rt) hmo hlo h3 hR hC hB hsm hnfe;have hpar:=QS.par hR;have hix:=QrD hR
   have e1 : Qbo mo ns T.idx = Yc mo ns f.i f.l.length:=by
    unfold Qbo filN;rw [if_pos ⟨by omega,hlt⟩,hpar]
   have hlp:=QmL mo ns f.i f.l.length
   have hsm9 : Sm 900 ns:=by
    have hB9:=Qgp (C:=f :: C) (T:=T) (hC.mono (lo':=lo - 1) (by omega)) (hB.mono (by omega)) (fun _=>by omega);exact (QS.sm hR hB9 (Nat.le_refl hi) (Nat.le_trans (Qfv T hC (by simp)) hrt)).mono (by omega)
   have hfo : FilOk mo ns f.i f.l.length:=by
    have hR2 : QS ns (plug C (.nd f.i f.es (f.l ++ T :: f.r))):=hR;exact Qq3 hR2 (by simp) (by have:=hC.2.1;simp only [List.length_append,List.length_cons];omega) (by omega) (by omega) hsm9
   have hkd : kdN ns f.i f.l.length = T.idx:=by
    rw [Qfc hR (by simp),Zn]
   have ih:=QfJ hmo hlo h3 h8 hrt hlr P C (d + 1) (Yc mo ns f.i f.l.length) (.nd f.i es' ks') s1 (by
    rw [Zj C (.nd f.i es' ks') (f.fill T) rfl]
    exact h0) hC.2.2.2 s2 ⟨fun h=>Nat.le_trans s4 (hf.1 h),fun h=>by
     have h9:=hf.2 h;show lo ≤ es'.length + 1 ∧ es'.length ≤ hi;omega⟩ (hgn _ s3) hgS (by omega) (by exact hP1.2)
   have eW : Yw mo ns (T.idx :: (f :: C).map Fr.i) = Yw mo (Yc mo ns f.i f.l.length) ((BT.nd f.i es' ks').idx :: C.map Fr.i):=by
    show Yw mo (Qbo mo ns T.idx) _ = _;rw [e1];rfl
   have hpf : (plug C (.nd f.i es' ks')).flat = (plug (f :: C) T).flat:=by
    show _ = (plug C (f.fill T)).flat;rw [XS hC.2.2.2,XS hC.2.2.2,BT.flat,s5]
   refine ⟨⟨⟨hat.1,fun _ _=>?_⟩,?_⟩,⟨⟨by rw [hP1.1];exact hat.1,fun _=>?_⟩,?_⟩,?_,?_,?_⟩
   ·rw [hpar];exact hfo
   ·rw [e1];exact ih.ok
   ·rw [hP1.1,hP2.1];exact ⟨by rw [hix];exact hfo,by rw [hix];exact hkd⟩
   ·rw [if_pos hlt2,hP1.1,hP2.1,hix];exact ih.okR
   ·show Z0 mo P C.length (if _ then _ else _) = _;rw [if_pos hlt2,hP1.1,hP2.1,hix,eW];exact ih.same
   ·rw [eW,← hpf];exact ih.tree
   ·rw [eW,ih.len,hlp]
  ·-- it stays as it is
   have hbal : lo ≤ T.es.length:=by omega
   have hno : ¬ ((nth ns T.idx).es.length : Int) < mo / 2:=by rw [hes,hmo2];omega
   have hno2 : ¬ ((nth ns (nth P (C.length + 1))).es.length : Int) < mo / 2:=by rw [hP1.1];exact hno
   have e1 : Qbo mo ns T.idx = ns:=by
    unfold Qbo;rw [if_neg (fun h=>hno h.2)]
   have ih:=QfJ hmo hlo h3 h8 hrt hlr P C (d + 1) ns (f.fill T) hR h0 hC.2.2.2 (QeD hC (Xu.2 ⟨hB,hbal,hb1.2⟩)) ⟨fun h=>hf.1 h,fun h=>by
    have h9:=hf.2 h;show lo ≤ f.es.length + 1 ∧ f.es.length ≤ hi;omega⟩ (hgn _ (by show f.es.length ≤ f.es.length + 1;omega)) hgS hl hP1.2
   have eW : Yw mo ns (T.idx :: (f :: C).map Fr.i) = Yw mo ns ((f.fill T).idx :: C.map Fr.i):=by
    show Yw mo (Qbo mo ns T.idx) _ = _;rw [e1];rfl
   refine ⟨⟨⟨hat.1,fun _ h=>absurd h hno⟩,?_⟩,⟨⟨by rw [hP1.1];exact hat.1,fun h=>absurd h hno2⟩,?_⟩,?_,?_,?_⟩
   ·rw [e1];exact ih.ok
   ·rw [if_neg hno2];exact ih.okR
   ·show Z0 mo P C.length (if _ then _ else _) = _;rw [if_neg hno2,eW];exact ih.same
   ·rw [eW];exact ih.tree
   ·rw [eW];exact ih.len
theorem Qqg {rm : Int} {ns : List Nd} {T : BT} (h : QS ns T) (h0 : T.idx = 0) (hl : ns.length ≤ 900) : RotOk rm ns:=by
 obtain ⟨i,es,ks⟩:=T;have hi : i = 0:=h0;subst hi;have hat : 0 < ns.length ∧ nth ns 0 = ⟨true,es,QL ks⟩:=h.root;refine ⟨hat.1,hl,by rw [hat.2],fun h1=>?_⟩;have hcs : (nth ns 0).cs = QL ks:=by rw [hat.2]
 rw [hcs,QR] at h1;have hk:=(Qit (C:=[]) h).1 0 (by omega);have hg:=YT (ks:=ks) (x:=0) (by omega)
 have hkd : kdN ns 0 0 = (nth ks 0).idx:=by
  unfold kdN;rw [hcs,hg];rfl
 rw [hcs,hg,hkd];refine ⟨by have:=hk.2;omega,hk.1,?_⟩;have hs:=QaY (ks:=ks) (p:=0) (by omega);generalize nth ks 0 = K at hs ⊢;rw [hs] at h;have h3 : QS ns (plug [⟨0,es,ks.take 0,ks.drop (0 + 1)⟩] K):=h;rw [(QS.at_ h3).2]
theorem Qml (rm : Int) (ns : List Nd) : (QaM rm ns).length = ns.length:=by
 unfold QaM;split
 ·split
  ·simp
  ·rfl
 ·rfl
theorem QnA {mo rm : Int} {lo hi rt d : Nat} {ns : List Nd} {T : BT} (hz : Sz mo rm lo hi rt) (h : QS ns T) (h0 : T.idx = 0) (hB : Bel lo hi d T) (hr : T.es.length ≤ rt) : ∃ T' d',QS (QaM rm ns) T' ∧ T'.idx = 0 ∧ Bel lo hi d' T' ∧ T'.es.length ≤ rt ∧ ZB rt T' ∧ T'.flat = T.flat:=by
 obtain ⟨i,es,ks⟩:=T;have hi0 : i = 0:=h0;subst hi0;have hat : 0 < ns.length ∧ nth ns 0 = ⟨true,es,QL ks⟩:=h.root;have hcs : (nth ns 0).cs = QL ks:=by rw [hat.2]
 have hes : (nth ns 0).es = es:=by rw [hat.2]
 have hrm:=hz.erm;have hlo:=hz.elo;have hi3:=hz.hi3;unfold QaM
 by_cases h1 : (nth ns 0).es.length = 0 ∧ (nth ns 0).cs.length = 1
 ·rw [if_pos h1];rw [hes,hcs,QR] at h1;have hes0 : es = []:=List.eq_nil_of_length_eq_zero h1.1
  obtain ⟨K,hK⟩ : ∃ K,ks = [K]:=by
   cases ks with
   | nil=>simp at h1
   | cons K ks=>
    cases ks with
    | nil=>exact ⟨K,rfl⟩
    | cons _ _=>simp at h1
  subst hes0 hK;obtain ⟨c,Ke,Kk⟩:=K
  have hkd : kdN ns 0 0 = c:=by
   unfold kdN;rw [hcs];rfl
  have h3 : QS ns (plug [⟨0,[],[],[]⟩] (.nd c Ke Kk)):=h;have hKat : c < ns.length ∧ nth ns c = ⟨true,Ke,QL Kk⟩:=QS.at_ h3;rw [hkd,hKat.2]
  obtain ⟨d',rfl⟩ : ∃ d',d = d' + 1:=by
   cases d with
   | zero=>exact absurd (show [BT.nd c Ke Kk] = [] from hB) (by simp)
   | succ d'=>exact ⟨d',rfl⟩
  have hKB:=Xu.1 (hB.2 (.nd c Ke Kk) (List.mem_singleton.2 rfl));have hKl : lo ≤ Ke.length ∧ Ke.length ≤ hi:=hKB.2;simp only []
  by_cases h2 : (Ke.length : Int) ≤ rm
  ·rw [if_pos h2]
   have hN : RepN ns ((0,⟨true,[],[(c : Int)]⟩) :: (c,⟨true,Ke,QL Kk⟩) :: Qz Kk):=by
    have:=h;unfold QS at this;rw [BT.nodes,Qz,BT.nodes,Qz,List.append_nil] at this;exact this
   have h4:=(hN.set ⟨true,Ke,QL Kk⟩).gone2;refine ⟨.nd 0 Ke Kk,d',?_,rfl,?_,by show Ke.length ≤ rt;omega,fun e=>?_,?_⟩
   ·unfold QS;rw [BT.nodes];exact h4
   ·cases d' <;> exact hKB.1
   ·have e' : Ke = []:=e;rw [e'] at hKl;simp only [List.length_nil] at hKl;omega
   ·rw [BT.flat,BT.flat,QF,Q2,List.append_nil,BT.flat]
  ·rw [if_neg h2];refine ⟨_,d' + 1,h,rfl,hB,Nat.zero_le _,fun _ k hk=>?_,rfl⟩;have : BT.nd c Ke Kk = k:=(List.cons.inj hk).1;rw [← this];show rt < Ke.length;omega
 ·rw [if_neg h1];refine ⟨_,d,h,rfl,hB,hr,fun e k hk=>?_,rfl⟩;refine absurd ⟨?_,?_⟩ h1
  ·rw [hes];show es.length = 0;rw [show es = [] from e];rfl
  ·rw [hcs,QR];show ks.length = 1;rw [show ks = [k] from hk];rfl
theorem Qio {ns : List Nd} : ∀ (m : Nat) {i : Nat},i < m → (nth ns i).us = true → i < tln ns m
 | 0,i,h,_=>absurd h (Nat.not_lt_zero _)
 | m + 1,i,h,hu=>by
  rw [tln];split
  ·exact h
  ·rename_i h2;rcases Nat.eq_or_lt_of_le (Nat.le_of_lt_succ h) with rfl | h3
   ·exact absurd hu h2
   ·exact Qio m h3 hu
theorem Qht {ns : List Nd} : ∀ (m : Nat),0 < tln ns m → (nth ns (tln ns m - 1)).us = true
 | 0,h=>absurd h (Nat.lt_irrefl _)
 | m + 1,h=>by
  rw [tln] at h ⊢;split at h
  ·rename_i h2;rw [if_pos h2];exact h2
  ·rename_i h2;rw [if_neg h2];exact Qht m h
theorem Qfq {α : Type} [Inhabited α] {l : List α} {m i : Nat} (h : i < m) : nth (l.take m) i = nth l i:=by
 unfold nth;rw [List.getD_eq_getElem?_getD,List.getElem?_take,if_pos h,← List.getD_eq_getElem?_getD]
theorem QmY {ns : List Nd} {T : BT} (h : QS ns T) (h0 : T.idx = 0) : QS (QbV ns) T ∧ XA (QbV ns) ∧ (QbV ns).length ≤ ns.length:=by
 have hroot:=h.root;rw [h0] at hroot;have hle:=QkZ ns ns.length;have hpos:=Qio ns.length hroot.1 (by rw [hroot.2])
 have hl : (QbV ns).length = tln ns ns.length:=by
  unfold QbV;rw [List.length_take];omega
 refine ⟨⟨fun p hp=>?_,h.nd,fun i hi hm=>?_⟩,?_,by omega⟩
 ·have h1:=RepN.at_ (i:=p.1) (x:=p.2) h hp;have h2:=Qio ns.length h1.1 (by rw [h1.2];exact ZN T p hp);unfold QbV;rw [List.getElem?_take,if_pos h2];exact h.get p hp
 ·rw [hl] at hi;unfold QbV;rw [Qfq hi];exact h.rest i (by omega) hm
 ·unfold XA;rw [hl];unfold QbV;rw [Qfq (by omega)];exact Qht ns.length (by omega)
theorem Qhq {ns : List Nd} {lo hi rt : Nat} : ∀ (f d : Nat) (C : List Fr) (T : BT),QS ns (plug C T) → XJ lo hi rt d C → Bel lo hi d T → (lo ≤ T.es.length ∧ T.es.length ≤ hi) → C ≠ [] → d < f →
  ∃ D T' d',plug D T' = T ∧ XJ lo hi rt d' (D ++ C) ∧ Bel lo hi d' T' ∧ (lo ≤ T'.es.length ∧ T'.es.length ≤ hi) ∧ T'.ks = [] ∧ Qd1 ns f T.idx = (D.map Fr.i).reverse ++ [T'.idx] ∧ QdP ns f T.idx ∧ ZM D = [] ∧ d' + D.length = d
 | 0,d,C,T,_,_,_,_,_,h=>absurd h (Nat.not_lt_zero _)
 | f + 1,d,C,T,hR,hC,hB,hb,hne,hd=>by
  have hat:=hR.at_;have hcs : (nth ns T.idx).cs = QL T.ks:=by rw [hat.2]
  rw [Qd1,QdP,hcs,QR]
  by_cases hk : T.ks.length = 0
  ·rw [if_pos hk];exact ⟨[],T,d,rfl,hC,hB,hb,List.eq_nil_of_length_eq_zero hk,rfl,⟨hat.1,.inl hk⟩,rfl,rfl⟩
  ·rw [if_neg hk]
   obtain ⟨d',rfl⟩ : ∃ d',d = d' + 1:=by
    cases d with
    | zero=>exact absurd (show T.ks.length = 0 by rw [show T.ks = [] from hB];rfl) hk
    | succ d'=>exact ⟨d',rfl⟩
   have hkl:=hB.1
   obtain ⟨l,K,hlK⟩ : ∃ l K,T.ks = l ++ [K]:=by
    rcases List.eq_nil_or_concat T.ks with h | ⟨l,K,h⟩
    ·rw [h] at hk;exact absurd rfl hk
    ·exact ⟨l,K,by rw [h,List.concat_eq_append]⟩
   have hll : T.ks.length = l.length + 1:=by rw [hlK];simp
   have hbal : ∀ k ∈ T.ks,Bal lo hi d' k:=hB.2;have hBK:=Xu.1 (hbal K (by rw [hlK];simp))
   have hT : T = Fr.fill ⟨T.idx,T.es,l,[]⟩ K:=by
    have:=T.eta;rw [hlK] at this;exact this
   have hctx : XJ lo hi rt d' (⟨T.idx,T.es,l,[]⟩ :: C):=⟨⟨fun k hk=>hbal k (by rw [hlK];simp [hk]),fun k hk=>(nomatch hk)⟩,by show l.length + 0 = T.es.length;omega,⟨fun h=>absurd h hne,fun _=>hb⟩,hC⟩;have hnK : nth T.ks (T.ks.length - 1) = K:=by rw [hll,hlK,Nat.add_sub_cancel];exact Zn l K []
   have hget : (QL T.ks).getD (T.ks.length - 1) 0 = (K.idx : Int):=by rw [YT (by omega),hnK]
   have hkd : kdN ns T.idx (T.ks.length - 1) = K.idx:=by
    unfold kdN;rw [hcs,hget];rfl
   rw [hkd,hget]
   obtain ⟨D,T',d9,e1,e2,e3,e4,e5,e6,e7,e8,e9⟩:=Qhq f d' (⟨T.idx,T.es,l,[]⟩ :: C) K (by
    show QS ns (plug C (Fr.fill _ K));rw [← hT];exact hR) hctx hBK.1 hBK.2 (by simp) (by omega)
   refine ⟨D ++ [⟨T.idx,T.es,l,[]⟩],T',d9,?_,?_,e3,e4,e5,?_,⟨hat.1,.inr ⟨by omega,e7⟩⟩,?_,?_⟩
   ·rw [Qar,e1];exact hT.symm
   ·rw [List.append_assoc];exact e2
   ·rw [e6];simp
   ·have hsuf : ∀ (A : List Fr) (g : Fr),ZM A = [] → g.es.length ≤ g.l.length → ZM (A ++ [g]) = []:=by
     intro A
     induction A with
     | nil=>
      intro g _ h;show Zl (g.es.drop g.l.length) g.r ++ [] = [];rw [List.drop_of_length_le h];rfl
     | cons a A ih=>
      intro g h h2;have h3 : Zl (a.es.drop a.l.length) a.r ++ ZM A = []:=h;have h4:=List.append_eq_nil_iff.1 h3;show Zl (a.es.drop a.l.length) a.r ++ ZM (A ++ [g]) = [];rw [h4.1,ih g h4.2 h2];rfl
    exact hsuf D _ e8 (by show T.es.length ≤ l.length;omega)
   ·simp only [List.length_append,List.length_singleton];omega
def QlZ (mo rm : Int) (ns : List Nd) (P : List Nat) (k : Nat) : List Nd:=QbV (QaM rm (Z0 mo (QA ns P k) ((QA ns P k).length - 1) (YM ns P k)))
theorem Qhm : ∀ (A B : List Fr),ZT (A ++ B) = ZT B ++ ZT A
 | [],B=>by simp [ZT]
 | f :: A,B=>by rw [List.cons_append,ZT,ZT,Qhm A B,List.append_assoc]
theorem Qhg : ∀ (A B : List Fr),ZM (A ++ B) = ZM A ++ ZM B
 | [],B=>rfl
 | f :: A,B=>by rw [List.cons_append,ZM,ZM,Qhg A B,List.append_assoc]
theorem QjR {lo hi rt : Nat} : ∀ {A B : List Fr} {d : Nat},XJ lo hi rt d (A ++ B) → B ≠ [] → XJ lo hi hi d A
 | [],_,_,_,_=>trivial
 | f :: A,B,d,h,hB=>⟨h.1,h.2.1,⟨fun _=>(h.2.2.1.2 (by simp [hB])).2,fun _=>h.2.2.1.2 (by simp [hB])⟩,QjR h.2.2.2 hB⟩
theorem QhF {lo hi rt : Nat} {f f' : Fr} (hl : f'.l = f.l) (hr : f'.r = f.r) (he : f'.es.length = f.es.length) {B : List Fr} : ∀ {A : List Fr} {d : Nat},XJ lo hi rt d (A ++ f :: B) → XJ lo hi rt d (A ++ f' :: B)
 | [],d,h=>⟨by rw [hl,hr];exact h.1,by rw [hl,hr,he];exact h.2.1,by rw [he];exact h.2.2.1,h.2.2.2⟩
 | g :: A,d,h=>⟨h.1,h.2.1,⟨fun e=>absurd e (by simp),fun _=>h.2.2.1.2 (by simp)⟩,QhF hl hr he h.2.2.2⟩
theorem Qek {lo hi rt : Nat} : ∀ {D : List Fr} {d : Nat} {T T' : BT},XJ lo hi rt d D → T.es.length = T'.es.length → (D = [] → ZB rt T') → ZB rt (plug D T) → ZB rt (plug D T')
 | [],d,T,T',_,_,h,_=>h rfl
 | [f],d,T,T',hC,he,_,h=>fun e k hk=>by
  have h1 : f.es = []:=e;have hl:=hC.2.1;rw [h1] at hl;have el : f.l = []:=List.eq_nil_of_length_eq_zero (by simp only [List.length_nil] at hl;omega);have er : f.r = []:=List.eq_nil_of_length_eq_zero (by simp only [List.length_nil] at hl;omega);have h2 : f.l ++ T' :: f.r = [k]:=hk;rw [el,er] at h2;have h3 : T' = k:=(List.cons.inj h2).1;rw [← h3,← he];refine h e T ?_;show f.l ++ T :: f.r = [T];rw [el,er];rfl
 | f :: g :: D,d,T,T',hC,he,_,h=>Qek (D:=g :: D) (T:=f.fill T) (T':=f.fill T') hC.2.2.2 rfl (fun e=>absurd e (by simp)) h
theorem Qel {α : Type} {A l B : List α} {i : Nat} (h : i < l.length) : Qt (A ++ (l ++ B)) (A.length + i) = A ++ (Qt l i ++ B):=by
 unfold Qt;rw [List.take_length_add_append,show A.length + i + 1 = A.length + (i + 1) by omega,List.drop_length_add_append,List.take_append_of_le_length (by omega),List.drop_append_of_le_length (by omega)];simp only [List.append_assoc]
theorem QeC {α : Type} (A B : List α) (x : α) : Qt (A ++ x :: B) A.length = A ++ B:=by
 unfold Qt;rw [List.take_left' rfl,List.drop_append,List.drop_of_length_le (by omega),Nat.add_sub_cancel_left];rfl
theorem Qck {α : Type} (l : List α) (i : Nat) : (Qt l i).Sublist l:=by
 have h : (l.take i ++ l.drop (i + 1)).Sublist (l.take i ++ l.drop i):=by
  refine List.Sublist.append (List.Sublist.refl _) ?_;rw [← List.drop_drop];exact List.drop_sublist _ _
 rw [List.take_append_drop] at h;exact h
theorem QhG {α : Type} (l : List α) (x : α) : Qt (l ++ [x]) ((l ++ [x]).length - 1) = l:=by
 rw [List.length_append,List.length_singleton,Nat.add_sub_cancel,QeC,List.append_nil]
theorem QjQ {co : Int} {es : List TEnt} {key : List UInt8} (h : fnd co es key = true) : plc co es key < es.length:=by
 unfold fnd at h;simp only [Bool.and_eq_true,decide_eq_true_eq] at h;exact h.1
structure RemFin (mo rm : Int) (lo hi rt : Nat) (ns : List Nd) (Q : List Nat) (fl : List TEnt) : Prop where
 fil : ZF mo ns Q.reverse
 rot : RotOk rm (Yw mo ns Q.reverse)
 filR : Qcb mo Q (Q.length - 1) ns
 same : Z0 mo Q (Q.length - 1) ns = Yw mo ns Q.reverse
 tree : ∃ T d,QS (QbV (QaM rm (Yw mo ns Q.reverse))) T ∧ T.idx = 0 ∧ Bel lo hi d T ∧ T.es.length ≤ rt ∧ ZB rt T ∧ T.flat = fl
 last : XA (QbV (QaM rm (Yw mo ns Q.reverse)))
 len : (QbV (QaM rm (Yw mo ns Q.reverse))).length ≤ ns.length
theorem QiP {mo rm : Int} {lo hi rt j : Nat} {ns : List Nd} {C : List Fr} {e : List TEnt} (hz : Sz mo rm lo hi rt) (hR : QS ns (plug C (.nd j e []))) (h0 : (plug C (.nd j e [])).idx = 0) (hC : XJ lo hi rt 0 C)
  (hb : (C = [] → e.length ≤ rt) ∧ (C ≠ [] → lo ≤ e.length + 1 ∧ e.length ≤ hi)) (hg : ∀ f,C = [f] → f.es = [] → rt ≤ e.length) (hs : Qn2 rt C) (hl : ns.length ≤ 800) : RemFin mo rm lo hi rt ns ((C.map Fr.i).reverse ++ [j]) (plug C (.nd j e [])).flat:=by
 have hmo:=hz.emo;have hlo:=hz.elo;have hi3:=hz.hi3;have hi8:=hz.hi8;have hlr:=hz.lr;have hrh:=hz.rh;have hQl : ((C.map Fr.i).reverse ++ [j]).length - 1 = C.length:=by simp
 have hQr : ((C.map Fr.i).reverse ++ [j]).reverse = j :: C.map Fr.i:=by simp
 have hF:=QfJ hmo hlo hi3 (by omega) hrh hlr ((C.map Fr.i).reverse ++ [j]) C 0 ns (.nd j e []) hR h0 hC rfl hb hg hs hl (by
  rw [List.take_of_length_le (by simp)];show _ = (j :: C.map Fr.i).reverse;simp)
 obtain ⟨T1,d1,t1,t2,t3,t4,t5⟩:=hF.tree;have e1 : Yw mo ns ((BT.nd j e []).idx :: C.map Fr.i) = Yw mo ns ((C.map Fr.i).reverse ++ [j]).reverse:=by rw [hQr];rfl
 rw [e1] at t1;have hlen : (Yw mo ns ((C.map Fr.i).reverse ++ [j]).reverse).length = ns.length:=by rw [← e1];exact hF.len
 obtain ⟨T2,d2,u1,u2,u3,u4,u5,u6⟩:=QnA hz t1 t2 t3 t4;have hT:=QmY u1 u2;refine ⟨by rw [hQr];exact hF.ok,Qqg t1 t2 (by omega),by rw [hQl];exact hF.okR,by rw [hQl,hQr];exact hF.same,⟨T2,d2,hT.1,u2,u3,u4,u5,u6.trans t5⟩,hT.2.1,?_⟩;have:=hT.2.2;rw [Qml] at this;omega
structure Removed (co mo rm : Int) (lo hi rt : Nat) (ns : List Nd) (key : List UInt8) (fl : List TEnt) : Prop where
 ok : RemOk mo rm ns (Qb co ns key).1 (Qb co ns key).2.1
 filR : Qcb mo (QA ns (Qb co ns key).1 (Qb co ns key).2.1) ((QA ns (Qb co ns key).1 (Qb co ns key).2.1).length - 1) (YM ns (Qb co ns key).1 (Qb co ns key).2.1)
 same : QlZ mo rm ns (Qb co ns key).1 (Qb co ns key).2.1 = ZD mo rm ns (Qb co ns key).1 (Qb co ns key).2.1
 filS : Z0 mo (QA ns (Qb co ns key).1 (Qb co ns key).2.1) ((QA ns (Qb co ns key).1 (Qb co ns key).2.1).length - 1) (YM ns (Qb co ns key).1 (Qb co ns key).2.1) = Yw mo (YM ns (Qb co ns key).1 (Qb co ns key).2.1) (QA ns (Qb co ns key).1 (Qb co ns key).2.1).reverse
 tree : ∃ T d,QS (ZD mo rm ns (Qb co ns key).1 (Qb co ns key).2.1) T ∧ VT co lo hi rt d T ∧ T.flat = Qt fl (plc co fl key)
 len : (ZD mo rm ns (Qb co ns key).1 (Qb co ns key).2.1).length ≤ ns.length
 last : XA (ZD mo rm ns (Qb co ns key).1 (Qb co ns key).2.1)
theorem Qji {co : Int} {lo hi rt d d' : Nat} {T T' : BT} {i : Nat} (hV : VT co lo hi rt d T) (h0 : T'.idx = 0) (hB : Bel lo hi d' T') (hr : T'.es.length ≤ rt) (hg : ZB rt T') (hf : T'.flat = Qt T.flat i) : VT co lo hi rt d' T':=by
 refine ⟨h0,hB,hr,hg,?_,fun x hx=>?_⟩
 ·rw [hf];exact hV.srt.sublist (Qck _ _)
 ·rw [hf] at hx;exact hV.ents x ((Qck _ _).subset hx)
theorem QnN {co mo rm : Int} {lo hi rt d : Nat} {ns : List Nd} {T : BT} {key : List UInt8} (hz : Sz mo rm lo hi rt) (hR : QS ns T) (hV : VT co lo hi rt d T) (hl : ns.length ≤ 400) (hf : (Qb co ns key).2.2 = true) : Removed co mo rm lo hi rt ns key T.flat:=by
 have hmo:=hz.emo;have hlo:=hz.elo;have hi3:=hz.hi3;have hi8:=hz.hi8;have hlr:=hz.lr;have hrh:=hz.rh;have hsm:=hR.sm hV.bel (Nat.le_refl hi) (Nat.le_trans hV.root hrh);have hsm9 : Sm 900 ns:=hsm.mono (by omega);obtain ⟨D,T',d',e1,e2,e3,e4,e5,e6,e7,e8,e9,e10⟩:=QcT hR hV key;rw [e8] at hf;obtain ⟨i,es,ks⟩:=T';have hfnd : fnd co es key = true:=hf;have hpl : (Qb co ns key).2.1 = plc co es key:=by rw [e8];rfl
 have hplt:=QjQ hfnd;have hR1 : QS ns (plug D (.nd i es ks)):=by rw [e1];exact hR
 have hat : i < ns.length ∧ nth ns i = ⟨true,es,QL ks⟩:=QS.at_ hR1;have hlast : Qo (Qb co ns key).1 = i:=by rw [e7];exact QcU _ _
 have hPl : (Qb co ns key).1.length = D.length + 1:=by rw [e7];simp
 have hes : es.length ≤ hi:=by
  by_cases hD : D = []
  ·exact Nat.le_trans (e4.1 hD) hrh
  ·exact (e4.2 hD).2
 have hfl : T.flat = ZT D ++ (QF es ks ++ ZM D):=by rw [← e1,XS e2,BT.flat]
 have hsr:=hV.srt;rw [hfl] at hsr;have hs1:=List.pairwise_append.1 hsr;have hs2:=List.pairwise_append.1 hs1.2.1;have hplT : plc co T.flat key = (ZT D).length + plc co (QF es ks) key:=by rw [hfl,QaX (QfW e2 e10 hs1.1),Qeu (Qgf e2 e10 hs2.2.1)]
 have hgap0 : ZB rt (plug D (.nd i es ks)):=by rw [e1];exact hV.gap
 have hcsl : (nth ns i).cs.length = ks.length:=by rw [hat.2];exact QR ks
 by_cases hk0 : ks = []
 ·-- in a leaf
  subst hk0;have hd0 : d' = 0:=e3.leaf rfl;subst hd0;have hcsl : (nth ns i).cs.length = 0:=hcsl
  have hq : QA ns (Qb co ns key).1 (Qb co ns key).2.1 = (Qb co ns key).1:=by
   unfold QA;rw [hlast,if_pos hcsl]
  have hr1 : QcF ns (Qb co ns key).1 (Qb co ns key).2.1 = ns:=by
   unfold QcF;rw [hlast,if_pos hcsl]
  have hrk : Qco ns (Qb co ns key).1 (Qb co ns key).2.1 = plc co es key:=by
   unfold Qco;rw [hlast,if_pos hcsl,hpl]
  have hr2 : YM ns (Qb co ns key).1 (Qb co ns key).2.1 = esN ns i (Qt es (plc co es key)):=by
   unfold YM;rw [hr1,hq,hlast,hrk,hat.2]
  have hol : (Qt es (plc co es key)).length = es.length - 1:=Zx hplt;have hgc : Qca rt D es.length:=QdM (T:=.nd i es []) e2 hgap0
  have hF:=QiP hz (QfL hR1 (Qt es (plc co es key))) (by rw [Zj D (.nd i (Qt es (plc co es key)) []) (.nd i es []) rfl,e1];exact hV.idx) e2 ⟨fun h=>by rw [hol];have h9 : es.length ≤ rt:=e4.1 h;omega,fun h=>by rw [hol];have h9 : lo ≤ es.length ∧ es.length ≤ hi:=e4.2 h;omega⟩ (fun f hf' he=>by
   subst hf';have h9 : rt < es.length:=hgc he;rw [hol];omega) hgc.s (by rw [XX];omega)
  rw [← show (Qb co ns key).1 = (D.map Fr.i).reverse ++ [i] from e7,← hr2] at hF
  have hnew : (plug D (.nd i (Qt es (plc co es key)) [])).flat = Qt T.flat (plc co T.flat key):=by
   rw [XS e2,ZA,hplT,hfl,Q2,Qel hplt]
  rw [hnew] at hF;refine ⟨⟨by omega,by omega,by omega,by omega,hsm9,by rw [hlast];exact hat.1,by rw [hlast,hat.2,hpl];exact hplt,fun h=>absurd hcsl (by rw [hlast] at h;intro h9;rw [h9] at h;exact absurd h (by simp)),by rw [hq];omega,by rw [hq,hlast];exact hat.1,by rw [hrk,hr1,hq,hlast,hat.2];exact hplt,by rw [hr1];exact hsm9,by rw [hq];exact hF.fil,by rw [hq];exact hF.rot⟩,by rw [hq];exact hF.filR,?_,by rw [hq];exact hF.same,?_,?_,?_⟩
  ·unfold QlZ ZD;rw [hq,hF.same]
  ·obtain ⟨T2,d2,t1,t2,t3,t4,t5,t6⟩:=hF.tree;refine ⟨T2,d2,?_,Qji hV t2 t3 t4 t5 t6,t6⟩;unfold ZD;rw [hq];exact t1
  ·unfold ZD;rw [hq];have:=hF.len;rw [hr2,XX] at this;rw [hr2];exact this
  ·unfold ZD;rw [hq];exact hF.last
 ·-- in an inner node
  obtain ⟨d9,rfl⟩ : ∃ d9,d' = d9 + 1:=by
   cases d' with
   | zero=>exact absurd e3 hk0
   | succ d9=>exact ⟨d9,rfl⟩
  have hkl : ks.length = es.length + 1:=e3.1;have hpk : plc co es key < ks.length:=by omega
  have hcne : ¬ (nth ns i).cs.length = 0:=by rw [hcsl,hkl];omega
  have hspl:=QaY hpk;generalize hL : ks.take (plc co es key) = l at hspl;generalize hRr : ks.drop (plc co es key + 1) = r at hspl;generalize hK : nth ks (plc co es key) = K at hspl;have hll : l.length = plc co es key:=by rw [← hL,List.length_take];omega
  have hrl : l.length + r.length = es.length:=by
   have:=congrArg List.length hspl;simp only [List.length_append,List.length_cons] at this;omega
  have hbal : ∀ k ∈ ks,Bal lo hi d9 k:=e3.2;have hKB:=Xu.1 (hbal K (by rw [hspl];simp));have hTf : BT.nd i es ks = Fr.fill ⟨i,es,l,r⟩ K:=by rw [hspl];rfl
  have hctx0 : XJ lo hi rt d9 (⟨i,es,l,r⟩ :: D):=⟨⟨fun k hk=>hbal k (by rw [hspl];simp [hk]),fun k hk=>hbal k (by rw [hspl];simp [hk])⟩,hrl,e4,e2⟩
  have hRK : QS ns (plug (⟨i,es,l,r⟩ :: D) K):=by
   show QS ns (plug D (Fr.fill _ K));rw [← hTf];exact hR1
  have hd9:=QeG hV.bel;have hnl:=hR.nlen;obtain ⟨D2,T2,d2,g1,g2,g3,g4,g5,g6,g7,g8,g9⟩:=Qhq ns.length d9 (⟨i,es,l,r⟩ :: D) K hRK hctx0 hKB.1 hKB.2 (by simp) (by omega);obtain ⟨j,Te,Tk⟩:=T2;have hTk : Tk = []:=g5;subst hTk;have hd20 : d2 = 0:=g3.leaf rfl;subst hd20;have hTl : lo ≤ Te.length ∧ Te.length ≤ hi:=g4
  obtain ⟨Tb,x,hTe⟩ : ∃ Tb x,Te = Tb ++ [x]:=by
   rcases List.eq_nil_or_concat Te with h | ⟨Tb,x,h⟩
   ·rw [h] at hTl;simp only [List.length_nil] at hTl;omega
   ·exact ⟨Tb,x,by rw [h,List.concat_eq_append]⟩
  have hTel : Te.length = Tb.length + 1:=by rw [hTe];simp
  have hRT2 : QS ns (plug (D2 ++ ⟨i,es,l,r⟩ :: D) (.nd j Te [])):=by
   rw [Qar,g1];exact hRK
  have hjat : j < ns.length ∧ nth ns j = ⟨true,Te,[]⟩:=QS.at_ hRT2
  have hij : i ≠ j:=fun e=>by
   have h1:=hRT2.plug.nd;rw [List.map_append] at h1;refine (List.nodup_append.1 h1).2.2 i ?_ j (by rw [BT.nodes];simp) e
   have hin : ∀ (A : List Fr) (h : Nat),i ∈ (Xc (A ++ ⟨i,es,l,r⟩ :: D) h).map Prod.fst:=by
    intro A
    induction A with
    | nil=>intro h;rw [List.nil_append,Xc,Fr.nodes];exact List.mem_cons_self ..
    | cons a A ih=>
     intro h;rw [List.cons_append,Xc,List.map_append];exact List.mem_append_right _ (ih a.i)
   exact hin D2 _
  have hgetK : (QL ks).getD (plc co es key) 0 = (K.idx : Int):=by rw [YT hpk,hK]
  have hcs : (nth ns i).cs = QL ks:=by rw [hat.2]
  have hkd : kdN ns i (plc co es key) = K.idx:=by
   unfold kdN;rw [hcs,hgetK];rfl
  have hq : QA ns (Qb co ns key).1 (Qb co ns key).2.1 = ((D2 ++ ⟨i,es,l,r⟩ :: D).map Fr.i).reverse ++ [j]:=by
   unfold QA;rw [hlast,if_neg hcne,hpl,hkd,g6,e7];simp [BT.idx]
  have hlq : Qo (QA ns (Qb co ns key).1 (Qb co ns key).2.1) = j:=by rw [hq];exact QcU _ _
  have hes1 : Te.length - 1 = Tb.length:=by omega
  have hnx : nth Te (Te.length - 1) = x:=by rw [hes1,hTe];exact Zn Tb x []
  have hr1 : QcF ns (Qb co ns key).1 (Qb co ns key).2.1 = esN ns i (es.set (plc co es key) x):=by
   unfold QcF;rw [hlast,if_neg hcne,hlq,hjat.2,hat.2,hpl];simp only [];rw [hnx]
  have hj1 : nth (esN ns i (es.set (plc co es key) x)) j = ⟨true,Te,[]⟩:=by rw [Qjo hjat.1,if_neg hij];exact hjat.2
  have hrk : Qco ns (Qb co ns key).1 (Qb co ns key).2.1 = Te.length - 1:=by
   unfold Qco;rw [hlast,if_neg hcne,hlq,hjat.2]
  have hr2 : YM ns (Qb co ns key).1 (Qb co ns key).2.1 = esN (esN ns i (es.set (plc co es key) x)) j Tb:=by
   unfold YM;rw [hr1,hlq,hrk,hj1];show esN _ j (Qt Te (Te.length - 1)) = _;rw [hTe,QhG]
  -- the frames with the entry put in
  have hctx1 : XJ lo hi rt 0 (D2 ++ ⟨i,es.set (plc co es key) x,l,r⟩ :: D):=QhF (f:=⟨i,es,l,r⟩) (f':=⟨i,es.set (plc co es key) x,l,r⟩) rfl rfl (List.length_set ..) g2;have hRa : QS (esN ns i (es.set (plc co es key) x)) (plug D (.nd i (es.set (plc co es key) x) ks)):=QfL hR1 _
  have hRb : QS (esN ns i (es.set (plc co es key) x)) (plug (D2 ++ ⟨i,es.set (plc co es key) x,l,r⟩ :: D) (.nd j Te [])):=by
   rw [Qar,g1];show QS _ (plug D (.nd i (es.set (plc co es key) x) (l ++ K :: r)));rw [← hspl];exact hRa
  have hng : ZB rt (plug (D2 ++ ⟨i,es.set (plc co es key) x,l,r⟩ :: D) (.nd j Te [])):=by
   rw [Qar,g1];show ZB rt (plug D (.nd i (es.set (plc co es key) x) (l ++ K :: r)));rw [← hspl];refine Qek e2 (T:=.nd i es ks) (by show es.length = (es.set _ _).length;rw [List.length_set]) (fun _ e=>?_) hgap0;have e' : es.set (plc co es key) x = []:=e;have:=congrArg List.length e';rw [List.length_set] at this;simp only [List.length_nil] at this;omega
  have hgc : Qca rt (D2 ++ ⟨i,es.set (plc co es key) x,l,r⟩ :: D) Te.length:=QdM (T:=.nd j Te []) hctx1 hng
  have hidx : (plug (D2 ++ ⟨i,es.set (plc co es key) x,l,r⟩ :: D) (.nd j Tb [])).idx = 0:=by
   rw [Qar,Zj _ (plug D2 (.nd j Tb [])) (plug D2 (.nd j Te [])) (Zj D2 (.nd j Tb []) (.nd j Te []) rfl),g1];show (plug D (.nd i (es.set (plc co es key) x) (l ++ K :: r))).idx = 0;rw [Zj D (.nd i (es.set (plc co es key) x) (l ++ K :: r)) (.nd i es ks) rfl,e1];exact hV.idx
  have hF:=QiP hz (QfL hRb Tb) hidx hctx1 ⟨fun h=>absurd h (by simp),fun _=>by omega⟩ (fun f hf' he=>by
   have h9:=hgc;rw [hf'] at h9;have h8 : rt < Te.length:=h9 he;omega) hgc.s (by rw [XX,XX];omega)
  have hmapi : (D2 ++ (⟨i,es.set (plc co es key) x,l,r⟩ : Fr) :: D).map Fr.i = (D2 ++ (⟨i,es,l,r⟩ : Fr) :: D).map Fr.i:=by simp
  rw [hmapi,← hq,← hr2] at hF
  -- the entries
  have hdrop : es.drop l.length = nth es l.length :: es.drop (l.length + 1):=by
   have hlt : l.length < es.length:=by omega
   rw [List.drop_eq_getElem_cons hlt,show nth es l.length = es[l.length] from Q3 (List.getElem?_eq_getElem hlt)]
  have heq0 : QO co (nth es l.length).key key = 0:=by
   have h9:=hfnd;unfold fnd at h9;simp only [Bool.and_eq_true,decide_eq_true_eq] at h9;rw [hll];exact h9.2
  obtain ⟨G,r',hrG⟩ : ∃ G r',r = G :: r':=by
   cases hr9 : r with
   | nil=>
    rw [hr9] at hrl;simp only [List.length_nil] at hrl;omega
   | cons G r'=>exact ⟨G,r',rfl⟩
  have hflT : QF es ks = (XL es l ++ K.flat) ++ nth es l.length :: (G.flat ++ Zl (es.drop (l.length + 1)) r'):=by
   rw [hspl,YU l es K r hrl,hdrop,hrG,Zl];simp only [List.append_assoc]
  have hs3 : Srt co (QF es ks):=hs2.1;rw [hflT] at hs3;have hs4:=List.pairwise_append.1 hs3;have hs5:=List.pairwise_append.1 hs4.1
  have hple : plc co (QF es ks) key = (XL es l ++ K.flat).length:=by
   have hlt : ∀ y ∈ XL es l ++ K.flat,QO co y.key key < 0:=fun y hy=>by
    have h9:=hs4.2.2 y hy (nth es l.length) (List.mem_cons_self ..);have e2:=Qax.1 heq0;rw [YJ,← e2,← YJ];exact h9
   rw [hflT,QaX hlt,plc,if_neg (by rw [heq0];decide)];rfl
  have hKf : K.flat = ZT D2 ++ Te:=by
   rw [← g1,XS (QjR g2 (by simp)),ZA,g8,List.append_nil]
  have hset : (es.set (plc co es key) x).drop l.length = x :: es.drop (l.length + 1):=by
   rw [← hll];have hlt : l.length < (es.set l.length x).length:=by rw [List.length_set];omega
   rw [List.drop_eq_getElem_cons hlt,List.getElem_set_self,List.drop_set_of_lt (by omega)]
  have hsetA : XL (es.set (plc co es key) x) l = XL es l:=by
   rw [← YC (es:=es.set _ _) (l:=l) (by rw [List.length_set];omega),← YC (es:=es) (l:=l) (by omega),List.take_set_of_le (by omega)]
  have hnew : (plug (D2 ++ ⟨i,es.set (plc co es key) x,l,r⟩ :: D) (.nd j Tb [])).flat = Qt T.flat (plc co T.flat key):=by
   have h1 : Qt T.flat (plc co T.flat key) = ZT D ++ (((XL es l ++ K.flat) ++ (G.flat ++ Zl (es.drop (l.length + 1)) r')) ++ ZM D):=by
    rw [hplT,hfl,Qel (by rw [hple,hflT];simp only [List.length_append,List.length_cons];omega),hple,hflT,QeC]
   rw [h1,XS hctx1,ZA,Qhm,Qhg,g8,List.nil_append,ZT,ZM,hKf,hTe];show ZT D ++ XL (es.set (plc co es key) x) l ++ ZT D2 ++ (Tb ++ (Zl ((es.set (plc co es key) x).drop l.length) r ++ ZM D)) = _;rw [hset,hsetA,hrG,Zl];simp only [List.append_assoc,List.cons_append,List.nil_append]
  rw [hnew] at hF;have hQl : (QA ns (Qb co ns key).1 (Qb co ns key).2.1).length = D2.length + D.length + 2:=by rw [hq];simp;omega
  refine ⟨⟨by omega,by omega,by omega,by omega,hsm9,by rw [hlast];exact hat.1,by rw [hlast,hat.2,hpl];exact hplt,fun _=>?_,by omega,by rw [hlq];exact hjat.1,by rw [hrk,hr1,hlq,hj1];show Te.length - 1 < Te.length;omega,by rw [hr1];exact hsm9.es i (by rw [List.length_set];omega),hF.fil,hF.rot⟩,hF.filR,?_,hF.same,?_,?_,?_⟩
  ·rw [hlast,hpl,hcs,QR,hgetK,hkd];have hlq2 : Qo (QA ns (Qb co ns key).1 (plc co es key)) = j:=by rw [← hpl];exact hlq
   rw [hlq2,hjat.2];exact ⟨hpk,by omega,g7,hij,by show 0 < Te.length;omega,hjat.1⟩
  ·unfold QlZ ZD;rw [hF.same]
  ·obtain ⟨T3,d3,t1,t2,t3,t4,t5,t6⟩:=hF.tree;exact ⟨T3,d3,t1,Qji hV t2 t3 t4 t5 t6,t6⟩
  ·have:=hF.len;rw [hr2,XX,XX] at this;unfold ZD;rw [hr2];exact this
  ·exact hF.last
def btN (ns : List Nd) : Nat → Nat → BT
 | 0,i=>.nd i [] []
 | f + 1,i=>.nd i (nth ns i).es ((nth ns i).cs.map fun c=>btN ns f c.toNat)
theorem QdF (ns : List Nd) (f i : Nat) : (btN ns f i).idx = i:=by cases f <;> rfl
theorem QgL {ns : List Nd} {f : Nat} : ∀ {cs : List Int},(∀ c ∈ cs,0 ≤ c) → QL (cs.map fun c=>btN ns f c.toNat) = cs
 | [],_=>rfl
 | c :: cs,h=>by
  rw [List.map_cons,Yg,QgL fun x hx=>h x (List.mem_cons_of_mem _ hx),QdF,Int.toNat_of_nonneg (h c (List.mem_cons_self ..))]
theorem ZP {α : Type} (g : α → BT) : ∀ (cs : List α),Qz (cs.map g) = cs.flatMap fun c=>(g c).nodes
 | []=>rfl
 | c :: cs=>by rw [List.map_cons,Qz,ZP g cs,List.flatMap_cons]
theorem Qew {α β : Type} {f g : α → List β} : ∀ {l : List α},(∀ x ∈ l,f x = g x) → l.flatMap f = l.flatMap g
 | [],_=>rfl
 | a :: l,h=>by rw [List.flatMap_cons,List.flatMap_cons,h a (List.mem_cons_self ..),Qew fun x hx=>h x (List.mem_cons_of_mem _ hx)]
theorem QeQ {α : Type} (F : Int → List α) : ∀ (cs : List Int),((List.range cs.length).flatMap fun k=>F (cs.getD k 0)) = cs.flatMap F
 | []=>rfl
 | c :: cs=>by
  rw [List.length_cons,List.range_succ_eq_map,List.flatMap_cons,List.flatMap_map,List.flatMap_cons,← QeQ F cs];rfl
theorem Qey {co : Int} {ns : List Nd} (hT : TOk co ns) : ∀ {A B : List Nat} {c : Nat},Gx.Way ns (c :: A) → Gx.Way ns (c :: B) → A = B
 | [],[],_,_,_=>rfl
 | [],q :: B,c,h,h2=>by
  have h0 : c = 0:=h;have:=(hT.kid q h2.1.2 _ h2.1.1).1.1;omega
 | p :: A,[],c,h,h2=>by
  have h0 : c = 0:=h2;have:=(hT.kid p h.1.2 _ h.1.1).1.1;omega
 | p :: A,q :: B,c,h,h2=>by
  have e : p = q:=Qbk (f:=Nd.cs) hT.once h.1.2 h2.1.2 h.1.1 h2.1.1;subst e;rw [Qey hT h.2 h2.2]
section
variable {co : Int} {ns : List Nd}
theorem Qdk (hT : TOk co ns) {i : Nat} {P : List Nat} {c : Int} (hw : Gx.Way ns (i :: P)) (hi : i < ns.length) (hc : c ∈ (nth ns i).cs) : Gx.Way ns (c.toNat :: i :: P):=by
 refine ⟨⟨?_,hi⟩,hw⟩;rw [Int.toNat_of_nonneg (by have:=(hT.kid i hi c hc).1.1;omega)];exact hc
theorem Qc1 (hT : TOk co ns) (h0 : 0 < ns.length) {i : Nat} {P : List Nat} (hw : Gx.Way ns (i :: P)) : i < ns.length:=Z9 hT h0 hw i (List.mem_cons_self ..)
theorem QlA (hT : TOk co ns) (h0 : 0 < ns.length) : ∀ {i : Nat} {P : List Nat},Gx.Way ns (i :: P) → (nth ns i).us = true
 | i,[],h=>by
  have e : i = 0:=h;subst e;cases hu : (nth ns 0).us with
  | true=>rfl
  | false=>
   have:=(hT.free 0 h0 hu).1.1;omega
 | i,p :: P,h=>by
  have:=(hT.kid p h.1.2 _ h.1.1).2;exact this
theorem QcD (hT : TOk co ns) (h0 : 0 < ns.length) : ∀ (f i : Nat) (P : List Nat),Gx.Way ns (i :: P) → P.length + f = ns.length → ∀ p ∈ (btN ns f i).nodes,ns[p.1]? = some p.2 ∧ ∃ Q R,Gx.Way ns (Q ++ i :: P) ∧ Q ++ i :: P = p.1 :: R
 | 0,i,P,hw,hf,p,hp=>by
  have:=X9 hT h0 hw;simp only [List.length_cons] at this;omega
 | f + 1,i,P,hw,hf,p,hp=>by
  have hi:=Qc1 hT h0 hw
  have hk : ∀ c ∈ (nth ns i).cs,0 ≤ c:=fun c hc=>by
   have:=(hT.kid i hi c hc).1.1;omega
  rw [btN,BT.nodes,QgL hk,ZP] at hp;rcases List.mem_cons.1 hp with rfl | hp
  ·refine ⟨?_,[],P,hw,rfl⟩;have hu:=QlA hT h0 hw;rw [Q6 hi];show some (nth ns i) = some ⟨true,(nth ns i).es,(nth ns i).cs⟩;rw [← hu]
  ·obtain ⟨c,hc,hp⟩:=List.mem_flatMap.1 hp;obtain ⟨h1,Q,R,h2,h3⟩:=QcD hT h0 f c.toNat (i :: P) (Qdk hT hw hi hc) (by simp only [List.length_cons];omega) p hp;refine ⟨h1,Q ++ [c.toNat],R,?_,?_⟩
   ·rw [List.append_assoc];exact h2
   ·rw [List.append_assoc];exact h3
theorem Qnq (hT : TOk co ns) (h0 : 0 < ns.length) : ∀ (f i : Nat) (P : List Nat),Gx.Way ns (i :: P) → P.length + f = ns.length → ((btN ns f i).nodes.map Prod.fst).Nodup
 | 0,i,P,hw,hf=>by
  have:=X9 hT h0 hw;simp only [List.length_cons] at this;omega
 | f + 1,i,P,hw,hf=>by
  have hi:=Qc1 hT h0 hw;have hlen : (i :: P).length + f = ns.length:=by simp only [List.length_cons];omega
  rw [btN,BT.nodes,ZP,List.map_cons,List.map_flatMap];refine List.nodup_cons.2 ⟨fun hm=>?_,?_⟩
  ·obtain ⟨c,hc,hm⟩:=List.mem_flatMap.1 hm;obtain ⟨p,hp,e⟩:=List.mem_map.1 hm;obtain ⟨_,Q,R,h2,h3⟩:=QcD hT h0 f c.toNat (i :: P) (Qdk hT hw hi hc) hlen p hp;rw [h3,e] at h2;have h4:=Qey hT h2 hw;have h5:=congrArg List.length h3;rw [h4] at h5;simp only [List.length_append,List.length_cons] at h5;omega
  ·refine List.pairwise_flatMap.2 ⟨fun c hc=>Qnq hT h0 f c.toNat (i :: P) (Qdk hT hw hi hc) hlen,?_⟩;refine (Qej (f:=Nd.cs) hT.once hi).imp_of_mem fun {c c'} hc hc' hne x hx y hy exy=>?_;subst exy;obtain ⟨p,hp,e⟩:=List.mem_map.1 hx;obtain ⟨q,hq,e'⟩:=List.mem_map.1 hy;obtain ⟨_,Q,R,h2,h3⟩:=QcD hT h0 f c.toNat (i :: P) (Qdk hT hw hi hc) hlen p hp;obtain ⟨_,Q',R',h2',h3'⟩:=QcD hT h0 f c'.toNat (i :: P) (Qdk hT hw hi hc') hlen q hq;rw [e] at h3;rw [e'] at h3';have h4:=Qey hT (h3 ▸ h2) (h3' ▸ h2');have h5 : Q ++ c.toNat :: i :: P = Q' ++ c'.toNat :: i :: P:=by rw [h3,h3',h4]
   have h6 : Q.length = Q'.length:=by
    have:=congrArg List.length h5;simp only [List.length_append,List.length_cons] at this;omega
   have h7:=(List.append_inj h5 h6).2;have h8 : c.toNat = c'.toNat:=(List.cons.inj h7).1;have k1:=(hT.kid i hi c hc).1.1;have k2:=(hT.kid i hi c' hc').1.1;exact hne (by omega)
theorem Qie (hT : TOk co ns) (h0 : 0 < ns.length) : ∀ (f : Nat) (v : Vis) (P : List Nat),Gx.Way ns (v.i :: P) → P.length + f = ns.length → (vis ns f v).map Vis.i = (btN ns f v.i).nodes.map Prod.fst
 | 0,v,P,hw,hf=>by
  have:=X9 hT h0 hw;simp only [List.length_cons] at this;omega
 | f + 1,v,P,hw,hf=>by
  have hi:=Qc1 hT h0 hw;rw [vis,btN,BT.nodes,ZP,List.map_cons,List.map_cons,List.map_flatMap,List.map_flatMap];congr 1;rw [← QeQ];refine Qew fun k hk=>?_;have hkl:=List.mem_range.1 hk
  have hc : (nth ns v.i).cs.getD k 0 ∈ (nth ns v.i).cs:=by
   rw [List.getD_eq_getElem?_getD,List.getElem?_eq_getElem hkl];exact List.getElem_mem hkl
  exact Qie hT h0 f ⟨((nth ns v.i).cs.getD k 0).toNat,v.d + 1,loK (nth ns v.i).es k v.lo,hiK (nth ns v.i).es k v.hi⟩ (v.i :: P) (Qdk hT hw hi hc) (by simp only [List.length_cons];omega)
end
def InB (co : Int) (lo hi : Option (List UInt8)) (x : TEnt) : Prop:=(∀ b,lo = some b → QO co b x.key < 0) ∧ (∀ b,hi = some b → QO co x.key b < 0)
theorem Qg5 {t : Tre} {v : Vis} {x : TEnt} : Zs t v x = true ↔ (∃ b,v.lo = some b ∧ 0 ≤ QO t.co b x.key) ∨ (∃ b,v.hi = some b ∧ 0 ≤ QO t.co x.key b):=by
 unfold Zs;cases v.lo <;> cases v.hi <;> simp
theorem QpY {t : Tre} {v : Vis} {x : TEnt} (h : ¬ Zs t v x = true) : InB t.co v.lo v.hi x:=by
 rw [Qg5] at h;refine ⟨fun b hb=>?_,fun b hb=>?_⟩
 ·rcases Int.lt_or_le (QO t.co b x.key) 0 with h1 | h1
  ·exact h1
  ·exact absurd (.inl ⟨b,hb,h1⟩) h
 ·rcases Int.lt_or_le (QO t.co x.key b) 0 with h1 | h1
  ·exact h1
  ·exact absurd (.inr ⟨b,hb,h1⟩) h
theorem Qe8 {co : Int} {hi : Option (List UInt8)} : ∀ {es : List TEnt} {ks : List BT} {lo : Option (List UInt8)},ks.length = es.length + 1 → Srt co es → (∀ x ∈ es,InB co lo hi x) →
  (∀ k,k < ks.length → Srt co (nth ks k).flat ∧ ∀ x ∈ (nth ks k).flat,InB co (loK es k lo) (hiK es k hi) x) → Srt co (QF es ks) ∧ ∀ x ∈ QF es ks,InB co lo hi x
 | [],[],_,h,_,_,_=>absurd h (by simp)
 | [],k :: k' :: ks,_,h,_,_,_=>absurd h (by simp)
 | [],[k],lo,_,_,_,hk=>by
  rw [QF,QF,List.append_nil];exact hk 0 (by simp)
 | e :: es,[],_,h,_,_,_=>absurd h (by simp)
 | e :: es,k :: ks,lo,hl,hs,hb,hk=>by
  have hp:=List.pairwise_cons.1 hs;have he:=hb e (List.mem_cons_self ..);have h0:=hk 0 (by simp);have e0 : nth (k :: ks) 0 = k:=rfl;have e1 : loK (e :: es) 0 lo = lo:=if_neg (Nat.lt_irrefl 0);have e2 : hiK (e :: es) 0 hi = some e.key:=if_pos (by simp);rw [e0,e1,e2] at h0
  have ih:=Qe8 (co:=co) (hi:=hi) (es:=es) (ks:=ks) (lo:=some e.key) (by simpa using hl) hp.2 (fun x hx=>⟨fun b hb'=>by injection hb' with hb';subst hb';exact hp.1 x hx,(hb x (List.mem_cons_of_mem _ hx)).2⟩) (fun q hq=>by
   have h1:=hk (q + 1) (by simpa using hq);have e3 : nth (k :: ks) (q + 1) = nth ks q:=rfl
   have e4 : loK (e :: es) (q + 1) lo = loK es q (some e.key):=by
    unfold loK;rw [if_pos (by omega)];rcases Nat.eq_zero_or_pos q with h9 | h9
    ·subst h9;rfl
    ·rw [if_pos h9];obtain ⟨r,rfl⟩ : ∃ r,q = r + 1:=⟨q - 1,by omega⟩;rfl
   have e5 : hiK (e :: es) (q + 1) hi = hiK es q hi:=by
    unfold hiK
    by_cases h9 : q < es.length
    ·rw [if_pos h9,if_pos (by simpa using h9)];rfl
    ·rw [if_neg h9,if_neg (by simpa using h9)]
   rw [e3,e4,e5] at h1;exact h1)
  rw [QF];have hge : ∀ x ∈ QF es ks,QO co e.key x.key < 0:=fun x hx=>(ih.2 x hx).1 _ rfl;have hle : ∀ x ∈ k.flat,QO co x.key e.key < 0:=fun x hx=>(h0.2 x hx).2 _ rfl;refine ⟨List.pairwise_append.2 ⟨h0.1,List.pairwise_cons.2 ⟨hge,ih.1⟩,fun x hx y hy=>?_⟩,fun x hx=>?_⟩
  ·rcases List.mem_cons.1 hy with rfl | hy
   ·exact hle x hx
   ·exact XU (hle x hx) (hge y hy)
  ·rcases List.mem_append.1 hx with hx | hx
   ·exact ⟨(h0.2 x hx).1,fun b hb'=>XU (hle x hx) (he.2 b hb')⟩
   ·rcases List.mem_cons.1 hx with rfl | hx
    ·exact he
    ·exact ⟨fun b hb'=>XU (he.1 b hb') (hge x hx),(ih.2 x hx).2⟩
theorem Qj1 {t : Tre} {deep : Int} : ∀ {vs : List Vis},(X4 t deep vs).2 = 0 → ∀ v ∈ vs,QaS t deep v = 0
 | [],_,v,hv=>(nomatch hv)
 | u :: vs,h,v,hv=>by
  rw [X4] at h
  by_cases h1 : QaS t deep u = 0
  ·rw [if_pos h1] at h;rcases List.mem_cons.1 hv with rfl | hv
   ·exact h1
   ·exact Qj1 h v hv
  ·rw [if_neg h1] at h;exact absurd h h1
theorem Qh1 {t : Tre} {deep : Int} {v : Vis} (h : QaS t deep v = 0) : ¬ Zh t v = true ∧ (∀ x ∈ (nth t.ns v.i).es,InB t.co v.lo v.hi x) ∧ ((nth t.ns v.i).cs.length = 0 → v.d = deep + 1):=by
 rw [ZZ] at h;split at h
 ·exact absurd h (by decide)
 ·rename_i h1;split at h
  ·exact absurd h (by decide)
  ·rename_i h2;split at h
   ·exact absurd h (by decide)
   ·rename_i h3;refine ⟨h1,fun x hx=>QpY fun h4=>h2 ?_,fun h4=>?_⟩
    ·unfold Za;exact List.any_eq_true.2 ⟨x,hx,h4⟩
    ·rcases Int.lt_trichotomy v.d (deep + 1) with h5 | h5 | h5
     ·exact absurd ⟨h4,by omega⟩ h3
     ·exact h5
     ·exact absurd ⟨h4,by omega⟩ h3
theorem Qkg {t : Tre} (h : (XR t t.ns.length 0 []).2 = 0) {i : Nat} (hi : i < t.ns.length) (hu : (nth t.ns i).us = true) : ((nth t.ns i).es.length : Int) ≤ Yh t.mo t.rm i:=by
 obtain ⟨s,hs⟩:=(Qd2 (f:=t.ns.length) (i:=0) (by omega) h List.nodup_nil).1 i (Nat.zero_le _) hi;rw [Qfd t i hu] at hs;have h4 : nE4 t i s = 0:=hs;unfold nE4 at h4;split at h4
 ·rename_i h3;have h2:=Qo8 t i h3;unfold nE2 at h2;split at h2
  ·rename_i h1;unfold nE1 at h1;split at h1
   ·assumption
   ·exact absurd h1 (by decide)
  ·rename_i h1;exact absurd h2 h1
 ·rename_i h3;exact absurd h4 h3
theorem QjU {t : Tre} {deep : Int} {lo hi rt : Nat} (hz : Sz t.mo t.rm lo hi rt) (hT : TOk t.co t.ns) (h0 : 0 < t.ns.length) (hmost : ∀ i,i < t.ns.length → (nth t.ns i).us = true → ((nth t.ns i).es.length : Int) ≤ Yh t.mo t.rm i) : ∀ (f : Nat) (v : Vis) (P : List Nat),Gx.Way t.ns (v.i :: P) → P.length + f = t.ns.length → (∀ u ∈ vis t.ns f v,QaS t deep u = 0) →
  ∃ d : Nat,v.d + (d : Int) = deep + 1 ∧ Bel lo hi d (btN t.ns f v.i) ∧ Srt t.co (btN t.ns f v.i).flat ∧ ∀ x ∈ (btN t.ns f v.i).flat,InB t.co v.lo v.hi x
 | 0,v,P,hw,hf,_=>by
  have:=X9 hT h0 hw;simp only [List.length_cons] at this;omega
 | f + 1,v,P,hw,hf,hE=>by
  have hi':=Qc1 hT h0 hw;have hv:=Qh1 (hE v (by rw [vis];exact List.mem_cons_self ..));have hasc:=Srt.of_asc (hT.asc v.i hi');rw [btN,BT.flat];rcases hT.shape v.i hi' with hs | hs
  ·have hcs : (nth t.ns v.i).cs = []:=List.eq_nil_of_length_eq_zero hs;rw [hcs,List.map_nil,Q2];exact ⟨0,by have:=hv.2.2 hs;simpa using this,rfl,hasc,hv.2.1⟩
  ·have key : ∀ k,k < (nth t.ns v.i).cs.length → ∃ d : Nat,v.d + 1 + (d : Int) = deep + 1 ∧ Bal lo hi d (btN t.ns f ((nth t.ns v.i).cs.getD k 0).toNat) ∧ Srt t.co (btN t.ns f ((nth t.ns v.i).cs.getD k 0).toNat).flat ∧ ∀ x ∈ (btN t.ns f ((nth t.ns v.i).cs.getD k 0).toNat).flat,InB t.co (loK (nth t.ns v.i).es k v.lo) (hiK (nth t.ns v.i).es k v.hi) x:=fun k hk=>by
    have hc : (nth t.ns v.i).cs.getD k 0 ∈ (nth t.ns v.i).cs:=by
     rw [List.getD_eq_getElem?_getD,List.getElem?_eq_getElem hk];exact List.getElem_mem hk
    have hwk:=Qdk hT hw hi' hc
    have hmem : ∀ u ∈ vis t.ns f (XO t.ns v k),u ∈ vis t.ns (f + 1) v:=fun u hu=>by
     rw [vis];exact List.mem_cons_of_mem _ (List.mem_flatMap.2 ⟨k,List.mem_range.2 hk,hu⟩)
    obtain ⟨d,h1,h2,h3,h4⟩:=QjU hz hT h0 hmost f (XO t.ns v k) (v.i :: P) hwk (by simp only [List.length_cons];omega) fun u hu=>hE u (hmem u hu);have hki:=Qc1 hT h0 hwk;have hku:=QlA hT h0 hwk;have hk1:=(hT.kid v.i hi' _ hc).1.1
    obtain ⟨f',rfl⟩ : ∃ f',f = f' + 1:=by
     cases f with
     | zero=>
      have:=X9 hT h0 hwk;simp only [List.length_cons] at this;omega
     | succ f'=>exact ⟨f',rfl⟩
    have hkv:=Qh1 (hE (XO t.ns v k) (hmem _ (by rw [vis];exact List.mem_cons_self ..)));refine ⟨d,h1,Xu.2 ⟨h2,?_,?_⟩,h3,h4⟩
    ·have hg:=hkv.1;unfold Zh at hg;simp only [Bool.and_eq_true,Bool.or_eq_true,decide_eq_true_eq,not_and,not_or] at hg;have h5:=(hg (show 0 < (XO t.ns v k).i by show 0 < ((nth t.ns v.i).cs.getD k 0).toNat;omega)).1;have e1:=hz.emo;have e2:=hz.elo;show lo ≤ (nth t.ns ((nth t.ns v.i).cs.getD k 0).toNat).es.length;have h6 : ¬ ((nth t.ns ((nth t.ns v.i).cs.getD k 0).toNat).es.length : Int) < t.mo / 2:=h5;omega
    ·have h5:=hmost _ hki hku;unfold Yh at h5;rw [if_neg (by omega)] at h5;have e1:=hz.emo;show (nth t.ns ((nth t.ns v.i).cs.getD k 0).toNat).es.length ≤ hi;omega
   obtain ⟨d,hd,_⟩:=key 0 (by omega)
   have hnk : ∀ k,k < (nth t.ns v.i).cs.length → nth ((nth t.ns v.i).cs.map fun c=>btN t.ns f c.toNat) k = btN t.ns f ((nth t.ns v.i).cs.getD k 0).toNat:=fun k hk=>Q3 (by
    rw [List.getElem?_map,List.getElem?_eq_getElem hk,List.getD_eq_getElem?_getD,List.getElem?_eq_getElem hk];rfl)
   have hfl:=Qe8 (co:=t.co) (hi:=v.hi) (es:=(nth t.ns v.i).es) (ks:=(nth t.ns v.i).cs.map fun c=>btN t.ns f c.toNat) (lo:=v.lo) (by rw [List.length_map];exact hs) hasc hv.2.1 fun k hk=>by
    rw [List.length_map] at hk;rw [hnk k hk];obtain ⟨_,_,_,h3,h4⟩:=key k hk;exact ⟨h3,h4⟩
   refine ⟨d + 1,by simp only [Int.natCast_add,Int.natCast_one];omega,⟨by show (List.map _ _).length = _;rw [List.length_map];exact hs,fun k hk=>?_⟩,hfl.1,hfl.2⟩;obtain ⟨c,hc,rfl⟩:=List.mem_map.1 hk;obtain ⟨q,hq,rfl⟩:=List.getElem_of_mem hc;obtain ⟨d2,hd2,h2,_⟩:=key q hq;have e : d2 = d:=by omega
   subst e;rw [List.getD_eq_getElem?_getD,List.getElem?_eq_getElem hq] at h2;exact h2
mutual
theorem Qci : ∀ (T : BT) (x : TEnt),x ∈ T.flat → ∃ p ∈ T.nodes,x ∈ p.2.es
 | .nd i es ks,x,h=>by
  rw [BT.flat] at h;rw [BT.nodes];rcases Qbe es ks x h with h | ⟨p,hp,hx⟩
  ·exact ⟨_,List.mem_cons_self ..,h⟩
  ·exact ⟨p,List.mem_cons_of_mem _ hp,hx⟩
theorem Qbe : ∀ (es : List TEnt) (ks : List BT) (x : TEnt),x ∈ QF es ks → x ∈ es ∨ ∃ p ∈ Qz ks,x ∈ p.2.es
 | es,[],x,h=>by
  rw [Q2] at h;exact .inl h
 | [],k :: ks,x,h=>by
  rw [QF] at h;rw [Qz];rcases List.mem_append.1 h with h | h
  ·obtain ⟨p,hp,hx⟩:=Qci k x h;exact .inr ⟨p,List.mem_append_left _ hp,hx⟩
  ·rcases Qbe [] ks x h with h | ⟨p,hp,hx⟩
   ·exact .inl h
   ·exact .inr ⟨p,List.mem_append_right _ hp,hx⟩
 | e :: es,k :: ks,x,h=>by
  rw [QF] at h;rw [Qz];rcases List.mem_append.1 h with h | h
  ·obtain ⟨p,hp,hx⟩:=Qci k x h;exact .inr ⟨p,List.mem_append_left _ hp,hx⟩
  ·rcases List.mem_cons.1 h with rfl | h
   ·exact .inl (List.mem_cons_self ..)
   ·rcases Qbe es ks x h with h | ⟨p,hp,hx⟩
    ·exact .inl (List.mem_cons_of_mem _ h)
    ·exact .inr ⟨p,List.mem_append_right _ hp,hx⟩
end
theorem QhA {ns : List Nd} {below : List Nat} : ∀ {f i : Nat},Zq ns below f i = none → ∀ j,i ≤ j → j < i + f → (nth ns j).us = true → j ∈ below
 | 0,i,_,j,h1,h2,_=>by omega
 | f + 1,i,h,j,h1,h2,hu=>by
  rw [Zq] at h;split at h
  ·cases h
  ·rename_i h3;rcases Nat.eq_or_lt_of_le h1 with rfl | h4
   ·by_cases hm : i ∈ below
    ·exact hm
    ·exact absurd ⟨hu,hm⟩ h3
   ·exact QhA h j h4 (by omega) hu
theorem Qq4 {t : Tre} (h : (XP t).2 = 0) : ∃ T d,QS t.ns T ∧ VT t.co (t.mo.toNat / 2) t.mo.toNat t.rm.toNat d T ∧ Sz t.mo t.rm (t.mo.toNat / 2) t.mo.toNat t.rm.toNat ∧ XA t.ns:=by
 obtain ⟨hc,hs,h0,hl,hn,hsh,_⟩:=Ym h;have hT:=Yi hn;have hz:=Qdi hs
 have hop : Zq t.ns ((Yx t.ns).map Vis.i) t.ns.length 0 = none:=by
  cases e : Zq t.ns ((Yx t.ns).map Vis.i) t.ns.length 0 with
  | none=>rfl
  | some i=>
   rw [Qcj e] at hsh;have h21 : (21 : Int) = 0:=hsh;exact absurd h21 (by decide)
 rw [Qb9 hop] at hsh;have hall:=Qj1 hsh;have hmost:=fun i hi hu=>Qkg (t:=t) hn (i:=i) hi hu;have hw : Gx.Way t.ns [0]:=rfl;obtain ⟨d,hd,hB,hS,_⟩:=QjU hz hT h0 hmost t.ns.length YV [] hw (by simp) hall;have hvb:=Qie hT h0 t.ns.length YV [] hw (by simp);have hget:=QcD hT h0 t.ns.length 0 [] hw (by simp)
 have hR : QS t.ns (btN t.ns t.ns.length 0):=by
  refine ⟨fun p hp=>(hget p hp).1,Qnq hT h0 t.ns.length 0 [] hw (by simp),fun i hi hm=>?_⟩;cases hu : (nth t.ns i).us with
  | true=>
   have:=QhA hop i (Nat.zero_le _) (by omega) hu;exact absurd (hvb ▸ this) hm
  | false=>
   have h1:=hT.free i hi hu;have h2:=h1.2;cases hnd : nth t.ns i with
   | mk us es cs=>
    rw [hnd] at h2 hu;simp only at h2 hu;rw [hu,h2.1,h2.2]
 have hroot:=hR.root;rw [QdF] at hroot;have hes : (btN t.ns t.ns.length 0).es = (nth t.ns 0).es:=by rw [hroot.2]
 have hu0 : (nth t.ns 0).us = true:=by rw [hroot.2]
 refine ⟨_,d,hR,⟨QdF _ _ _,hB,?_,fun e k hk=>?_,hS,fun x hx=>?_⟩,hz,?_⟩
 ·have h1:=hmost 0 h0 hu0;unfold Yh at h1;rw [if_pos rfl] at h1;rw [hes];have:=hz.erm;omega
 ·obtain ⟨f,hf⟩ : ∃ f,t.ns.length = f + 1:=⟨t.ns.length - 1,by omega⟩;have hkm : k ∈ (btN t.ns t.ns.length 0).ks:=by rw [hk];exact List.mem_cons_self ..
  have hk':=hkm;rw [hf] at hk';obtain ⟨c,hcm,rfl⟩:=List.mem_map.1 (show k ∈ (nth t.ns 0).cs.map fun c=>btN t.ns f c.toNat from hk');have hwk:=Qdk hT hw h0 hcm;have hki:=Qc1 hT h0 hwk
  obtain ⟨f',rfl⟩ : ∃ f',f = f' + 1:=by
   cases f with
   | zero=>
    have:=X9 hT h0 hwk;simp only [List.length_cons,List.length_nil] at this;omega
   | succ f'=>exact ⟨f',rfl⟩
  have hk1:=(hT.kid 0 h0 c hcm).1.1
  have hgv : ∃ v ∈ Yx t.ns,v.i = c.toNat:=by
   have : c.toNat ∈ (Yx t.ns).map Vis.i:=by
    show c.toNat ∈ (vis t.ns t.ns.length YV).map Vis.i;rw [hvb,hf];rw [show YV.i = 0 from rfl,btN,BT.nodes,ZP,List.map_cons];refine List.mem_cons_of_mem _ (List.mem_map.2 ?_);have hid:=(btN t.ns (f' + 1) c.toNat).idx_mem;rw [QdF] at hid;obtain ⟨p,hp,ep⟩:=List.mem_map.1 hid;exact ⟨p,List.mem_flatMap.2 ⟨c,hcm,hp⟩,ep⟩
   obtain ⟨v,hv,e⟩:=List.mem_map.1 this;exact ⟨v,hv,e⟩
  obtain ⟨v,hv,hvi⟩:=hgv;have hg:=(Qh1 (hall v hv)).1;unfold Zh at hg;simp only [Bool.and_eq_true,Bool.or_eq_true,decide_eq_true_eq,not_and,not_or] at hg;have h5:=(hg (by omega)).2 ⟨by rw [← hes,e];rfl,by rw [hvi,Int.toNat_of_nonneg (by omega)];exact hcm⟩;rw [hvi] at h5;show t.rm.toNat < (nth t.ns c.toNat).es.length;have:=hz.erm;omega
 ·obtain ⟨p,hp,hx⟩:=Qci _ x hx;have h1:=RepN.at_ (i:=p.1) (x:=p.2) hR hp;exact hT.ents p.1 h1.1 x (by rw [h1.2];exact hx)
 ·unfold XA;cases hu : (nth t.ns (t.ns.length - 1)).us with
  | true=>rfl
  | false=>
   have:=(hT.free (t.ns.length - 1) (by omega) hu).1.2;omega
def AllU (ns : List Nd) : Prop:=∀ i,i < ns.length → (nth ns i).us = true
section
variable {ns : List Nd}
end
mutual
theorem QcB : ∀ (T : BT) (p : Nat × Nd),p ∈ T.nodes → p.2.es.Sublist T.flat
 | .nd i es ks,p,h=>by
  rw [BT.nodes] at h;rw [BT.flat];rcases List.mem_cons.1 h with rfl | h
  ·exact Qa1 es ks
  ·exact QcY es ks p h
theorem QcY : ∀ (es : List TEnt) (ks : List BT) (p : Nat × Nd),p ∈ Qz ks → p.2.es.Sublist (QF es ks)
 | es,[],p,h=>by
  rw [Qz] at h;cases h
 | [],k :: ks,p,h=>by
  rw [Qz] at h;rw [QF];rcases List.mem_append.1 h with h | h
  ·exact (QcB k p h).trans (List.sublist_append_left ..)
  ·exact (QcY [] ks p h).trans (List.sublist_append_right ..)
 | e :: es,k :: ks,p,h=>by
  rw [Qz] at h;rw [QF];rcases List.mem_append.1 h with h | h
  ·exact (QcB k p h).trans (List.sublist_append_left ..)
  ·exact ((QcY es ks p h).cons e).trans (List.sublist_append_right ..)
end
theorem Qg3 {lo hi : Nat} : ∀ {d : Nat} {T : BT},Bel lo hi d T → ∀ p ∈ T.nodes,p.2.cs.length = 0 ∨ p.2.cs.length = p.2.es.length + 1
 | 0,.nd i es ks,h,p,hp=>by
  have e : ks = []:=h;rw [e,BT.nodes,Qz] at hp;rcases List.mem_cons.1 hp with rfl | hp
  ·exact .inl rfl
  ·cases hp
 | d + 1,.nd i es ks,h,p,hp=>by
  rw [BT.nodes] at hp;rcases List.mem_cons.1 hp with rfl | hp
  ·exact .inr (by show (QL ks).length = _;rw [QR];exact h.1)
  ·obtain ⟨k,hk,hp⟩:=Qaj (k:=default) hp;exact Qg3 (Xu.1 (h.2 k hk)).1 p hp
theorem Qi6 {co : Int} {lo hi rt d : Nat} {ns : List Nd} {T : BT} (hR : QS ns T) (hV : VT co lo hi rt d T) (hu : XA ns) : TOk co ns:=by
 have hat : ∀ p ∈ T.nodes,p.1 < ns.length ∧ nth ns p.1 = p.2:=fun p hp=>RepN.at_ (i:=p.1) (x:=p.2) hR hp
 have hcs : ∀ i,i < ns.length → (i ∈ T.nodes.map Prod.fst ∧ (i,nth ns i) ∈ T.nodes) ∨ nth ns i = ⟨false,[],[]⟩:=fun i hi=>by
  by_cases hm : i ∈ T.nodes.map Prod.fst
  ·refine .inl ⟨hm,?_⟩;obtain ⟨p,hp,rfl⟩:=List.mem_map.1 hm;rw [(hat p hp).2];exact hp
  ·exact .inr (RepN.rest hR i hi hm)
 have hkp:=Qcn T
 have hnd : ((((T.idx : Nat) : Int) :: Yj T.nodes)).Nodup:=hkp.nodup_iff.2 (by
  have h1:=RepN.nd hR;unfold List.Nodup at h1 ⊢;rw [List.pairwise_map] at h1 ⊢;exact h1.imp fun h e=>h (by omega))
 refine ⟨fun i hi c hc=>?_,?_,fun i hi=>?_,fun i hi hus=>?_,fun i hi=>?_,fun i hi x hx=>?_⟩
 ·rcases hcs i hi with ⟨_,hm⟩ | he
  ·have hck : c ∈ Yj T.nodes:=List.mem_flatMap.2 ⟨_,hm,hc⟩;obtain ⟨q,hq,rfl⟩:=List.mem_map.1 (hkp.mem_iff.1 (List.mem_cons_of_mem _ hck));have h1:=hat q hq
   have h2 : q.1 ≠ 0:=fun e=>by
    have h3:=(List.nodup_cons.1 hnd).1;rw [hV.idx] at h3;rw [e] at hck;exact h3 hck
   refine ⟨by omega,?_⟩;rw [Int.toNat_natCast,h1.2];exact ZN T q hq
  ·rw [he] at hc;cases hc
 ·have hk2:=(List.nodup_cons.1 hnd).2;unfold Yj List.Nodup at hk2;rw [List.pairwise_flatMap] at hk2;unfold List.Nodup;rw [List.pairwise_flatMap];refine ⟨fun x hx=>?_,List.pairwise_iff_getElem.2 fun i j hi hj hij=>?_⟩
  ·obtain ⟨i,hi,rfl⟩:=List.getElem_of_mem hx;rw [← Q3 (List.getElem?_eq_getElem hi)];rcases hcs i hi with ⟨_,hm⟩ | he
   ·exact hk2.1 _ hm
   ·rw [he];exact List.Pairwise.nil
  ·rw [← Q3 (List.getElem?_eq_getElem hi),← Q3 (List.getElem?_eq_getElem hj)];intro x hx y hy e;rcases hcs i hi with ⟨_,hm⟩ | he
   ·rcases hcs j hj with ⟨_,hm2⟩ | he
    ·obtain ⟨a,ha,ea⟩:=List.getElem_of_mem hm;obtain ⟨b,hb,eb⟩:=List.getElem_of_mem hm2;have hp:=List.pairwise_iff_getElem.1 hk2.2;rcases Nat.lt_trichotomy a b with h | h | h
     ·exact hp a b ha hb h x (by rw [ea];exact hx) y (by rw [eb];exact hy) e
     ·subst h;rw [ea] at eb;have:=congrArg Prod.fst eb;simp only at this;omega
     ·exact hp b a hb ha h y (by rw [eb];exact hy) x (by rw [ea];exact hx) e.symm
    ·rw [he] at hy;cases hy
   ·rw [he] at hx;cases hx
 ·rcases hcs i hi with ⟨_,hm⟩ | he
  ·exact Qg3 hV.bel _ hm
  ·rw [he];exact .inl rfl
 ·rcases hcs i hi with ⟨_,hm⟩ | he
  ·have:=ZN T _ hm;simp only at this;rw [hus] at this;cases this
  ·refine ⟨⟨?_,?_⟩,by rw [he],by rw [he]⟩
   ·have h1:=(QS.root hR).2;rw [hV.idx] at h1;rcases Nat.eq_zero_or_pos i with e | h
    ·rw [e,h1] at hus;cases hus
    ·exact h
   ·unfold XA at hu
    by_cases e : i = ns.length - 1
    ·rw [e,hu] at hus;cases hus
    ·omega
 ·rcases hcs i hi with ⟨_,hm⟩ | he
  ·exact Srt.asc (List.Pairwise.sublist (QcB T _ hm) hV.srt)
  ·rw [he];intro k hk;exact absurd hk (by simp)
 ·rcases hcs i hi with ⟨_,hm⟩ | he
  ·exact hV.ents x ((QcB T _ hm).subset hx)
  ·rw [he] at hx;cases hx
theorem QqM {co mo rm : Int} {lo hi rt d : Nat} {ns : List Nd} {T : BT} (hz : Sz mo rm lo hi rt) (hR : QS ns T) (hV : VT co lo hi rt d T) (hl : ns.length ≤ 1000) : Bd ns:=by
 have h1:=hR.sm hV.bel (Nat.le_refl _) (Nat.le_trans hV.root hz.rh);have:=hz.hi8;exact ⟨hl,fun i hi=>Nat.le_trans (h1 i).1 (by omega),fun i hi=>Nat.le_trans (h1 i).2 (by omega)⟩
section
variable (co mo rm : Int) (l : List TEnt)
def bldN : Nat → List Nd
 | 0=>[⟨true,[],[]⟩]
 | k + 1=>Zc co mo rm (bldN k) (nth l k)
def bldE (k : Nat) : Int:=if X7 co (nth l k) = 0 then Qdx co mo rm (bldN co mo rm l k) (nth l k) else X7 co (nth l k)
def bldEs : List Int:=(List.range l.length).map (bldE co mo rm l)
end
structure BldOk (co mo rm : Int) (lo hi rt k : Nat) (ns : List Nd) : Prop where
 tree : ∃ T d,QS ns T ∧ VT co lo hi rt d T ∧ T.flat.length = k
 all : AllU ns
 len : ns.length ≤ k + 1
 pos : 0 < ns.length
section
variable {co mo rm : Int} {lo hi rt k : Nat} {l : List TEnt} {ns : List Nd} {x : TEnt}
end
end Gx
namespace Gx
open Go Go.RowKit
section
variable {X : Ctx} {ops : Array Oper} {k : List KI} {L : Qq} {C : World → Prop}
theorem Qmm {α : Type} (m dj dp : Nat) (b : Bool) (v : α → Bool) (CJ : α → World → Prop) (I : α → Prop) {l : List Oper} (hb : Qq.get L dj = some (.bool b))
  (h1 : b = true → O X ops (l.take m) (.join (AtI X.n X.df (fun x : α=>(dp,.bool (v x)) :: L) CJ I) :: k) L C)
  (h0 : b = false → O X ops (l.take m) (.join (AtI X.n X.df (fun x : α=>(dp,.bool (v x)) :: L) CJ I) :: k) L C)
  (h2 : ∀ x,I x → O X ops (l.drop m) k ((dp,.bool (v x)) :: L) (CJ x)) : O X ops l k L C:=by
 intro a w ha hw
 have hh : O X ops (l.take m) (.join (AtI X.n X.df (fun x : α=>(dp,.bool (v x)) :: L) CJ I) :: k) L C:=by
  cases b with
  | true=>exact h1 rfl
  | false=>exact h0 rfl
 have:=Zi (Q:=post X k) _ (l.drop m) a w (hh a w ha hw) (fun a w ⟨x,hI,hx,hc⟩=>h2 x hI a w hx hc) (fun e a w he h=>Qa6 e a w he h)
 rwa [List.take_append_drop] at this
end
end Gx
namespace Gx
open Go Go.RowKit
section
variable {P : Program} {o : Oper} {L : Qq} {w0 : World} {M : List Nat} {As : List HA}
theorem QlE {G : Type} {V : G → Value} {F : G → Prop} {Bs : G → List HA} {Cs Ds : List HA} {x : Operand} {args : Array Operand} {vs : List Value} {ts : Array TypeId} {l : Nat} (ho : o.op = .call { callee:=.value x,args:=args,argTypes:=ts }) (hx : ev L x = some (.func (.yield l) #[] #[]))
  (ha : evs L args.toList = some vs) (hp : Y3 As Cs Ds) (hy : ∀ w,HS w0 M As w → HS w (fps Cs) Cs w → Zu P l vs.toArray w fun e w'=>∃ g,e = .returned (V g) ∧ F g ∧ HS w (fps Cs) (Bs g) w') : OpH P o L (HS w0 M As) V F (fun g=>HS w0 M (Bs g ++ Ds)):=
 Qjt (C:=HS w0 M As) ho hx ha fun w hw=>by
  obtain ⟨f,tmps,assign,body,hr,hR⟩:=hy w hw (HS.focus (hw.perm hp));refine ⟨f,tmps,assign,body,hr,RoundIn.mono hR fun e w' ⟨g,he,hf,hc⟩=>⟨g,he,hf,?_⟩⟩;exact HS.callM (hw.perm hp) (fun b hb=>by obtain ⟨A,hA,hb⟩:=List.mem_flatMap.1 hb;exact ⟨A,hA,hb⟩) hc
end
section
variable {X : Ctx} {ops : Array Oper} {k : List KI} {L : Qq} {C : World → Prop}
theorem QfM {id : Nat} : ∀ {k : List KI},QcL id k = none → SE X (.exit id) [] L C → SE X (.exit id) k L C
 | [],_,h=>h
 | Sum.inl c :: k,h,hs=>QeT (QfM (k:=k) h hs)
 | Sum.inr (Sum.inr J) :: k,h,hs=>Qcx (QfM (k:=k) h hs)
 | Sum.inr (Sum.inl id') :: k,h,hs=>by
  simp only [QcL] at h;cases hb : Nat.beq id id' with
  | true=>rw [hb] at h;cases h
  | false=>
   rw [hb] at h;exact Qcs hb (QfM (k:=k) h hs)
end
def Qpr (fid : FuncId) (tmps : Array Value) (ps : Array Tmp) (assign body : Code) (D : Nat) : Option Nat → Obj
 | none=>.loop (rdy fid tmps ps assign body D)
 | some id=>.loop { rdy fid tmps ps assign body D with state:=.done,pending:=some (.exit id) }
section
variable {X : Ctx} {k : List KI} {L : Qq} {w0 : World} {M : List Nat} {As As' : List HA}
theorem Qku {id l D : Nat} {fid : FuncId} {tmps : Array Value} {ps : Array Tmp} {assign body : Code} (hk : QcL id k = none) (hrd : X.rd = some l) (hp : QG As (.obj l (.loop { rdy fid tmps ps assign body D with state:=.busy })) As') (h : ∀ w,HS w0 M (.obj l (Qpr fid tmps ps assign body D (some id)) :: As') w → X.R (.returned (.bool false)) w) : S X (.c (.exit id) :: k) L (HS w0 M As):=by
 refine Qmv (QfM hk fun a w ha hw=>?_);show (match X.rd with | none=>bodyPostM X.F 0 X.P X.fn X.R (.exit id) a w | some l=>roundPost X.P l X.R (.exit id) a w);rw [hrd];exact ⟨_,_,run_endRound (some (.exit id)) (hw.obj_get hp),h _ (hw.putObj hp _)⟩
def rngK (k : List KI) : Option Nat → List KI
 | none=>k
 | some id=>.c (.exit id) :: k
theorem QeW {id : Nat} {j : Option Nat} (hj : j = none ∨ j = some id) (h : S X k L (HS w0 M As)) : S X (rngK (.blk id :: k) j) L (HS w0 M As):=by
 rcases hj with rfl | rfl
 ·exact Qpb h
 ·exact Qu (show (bif Nat.beq id id then some k else QcL id k) = some k from by rw [Nat.beq_refl];rfl) h
theorem QhB {g : Operand} {ps : Array Tmp} {assign body : Code} {gf : FuncId} {fa lb : Array Value} {G : Type} {Bs : G → List HA} {jmp : G → Option Nat} (hrd : X.rd = none) (hdf : X.df = []) (hg : ev L g = some (.func (.func gf) fa lb)) (hfn : QT X.P gf = true)
  (hit : ∀ (fid : FuncId) (D l : Nat) (a : Act) (w1 : World) (ob : Obj),ob = .loop (rdy fid a.tmps ps assign body D) → FR X.n [] L a → HS w0 M (.obj l ob :: .obj D (.deferred (some [])) :: As) w1 →
   Calls X.P gf (fa ++ #[.func (.yield l) #[] #[]] ++ lb) w1 fun e w2=>(∃ v,e = .returned v) ∧ ∃ x,HS w0 M (.obj l (Qpr fid a.tmps ps assign body D (jmp x)) :: .obj D (.deferred (some [])) :: Bs x) w2)
  (next : ∀ D x,S { X with df:=[D] } (rngK k (jmp x)) L (HS w0 M (.obj D (.deferred (some [])) :: Bs x))) : S X (.c (.rangeFunc g ps assign body) :: k) L (HS w0 M As):=by
 intro a w ha hw;have ha0 : FR X.n [] L a:=by rw [← hdf];exact ha
 refine wpIn_rangeFunc (F:=X.F) (n:=0) fun fid _=>?_;have hro : X.F.round = none:=hrd;rw [hro];have hw1:=(hw.allocObj (.deferred (some []))).allocObj (.loop (rdy fid a.tmps ps assign body w.heap.size));rw [World.size_alloc] at hw1;have hen:=run_enterLoop_outer (P:=X.P) (w:=w) fid a.tmps ps assign body;obtain ⟨W1,hW1⟩ : ∃ W1,(w.alloc (.deferred (some []))).alloc (.loop (rdy fid a.tmps ps assign body w.heap.size)) = W1:=⟨_,rfl⟩;rw [hW1] at hw1;rw [show (Loop.mk .ready none fid a.tmps ps assign body w.heap.size) = rdy fid a.tmps ps assign body w.heap.size from rfl,hW1] at hen
 refine ⟨w.heap.size + 1,[{ target:=.collected w.heap.size,args:=#[] }],W1,{ target:=.fn (.func gf) lb,args:=fa ++ #[.func (.yield (w.heap.size + 1)) #[] #[]] },W1,gf,
  fa ++ #[.func (.yield (w.heap.size + 1)) #[] #[]] ++ lb,W1,hen,?_,fun _ _=>trivial,?_,fun h=>(by cases h),?_⟩
 ·simp only [resolve,ha.evl hg];simp [go_sem]
 ·simp [invoke,go_sem,Qaz hfn]
 ·refine CallsIn.mono (X.callsIn (hit fid _ _ a _ _ rfl ha0 hw1)) fun e w2 he=>?_;obtain ⟨⟨v,rfl⟩,x,hx⟩:=he;have h3:=next w.heap.size x { a with defers:=[{ target:=.collected w.heap.size,args:=#[] }] ++ a.defers }
  have hfr : FR X.n [w.heap.size] L { a with defers:=[{ target:=.collected w.heap.size,args:=#[] }] ++ a.defers }:=⟨by show _ ++ a.defers = _;rw [ha0.defers];rfl,ha0.size,ha0.slot⟩;cases hj : jmp x with
  | none=>
   rw [hj] at hx h3;refine ⟨none,_,run_endLoop (hx.obj_get .here) (by simp [rdy]),?_⟩;have h4:=h3 _ hfr (hx.putObj .here (.loop { rdy fid a.tmps ps assign body w.heap.size with state:=.exhausted })).tail;rw [Qbu] at h4;exact h4
  | some id=>
   rw [hj] at hx h3;refine ⟨some (.exit id),_,run_endLoop (hx.obj_get .here) (by simp),?_⟩;have h4:=h3 _ hfr (hx.putObj .here (.loop { rdy fid a.tmps ps assign body w.heap.size with state:=.exhausted,pending:=some (.exit id) })).tail;rw [Qbu] at h4;exact h4
end
theorem HS.callA {w0 w1 w2 : World} {M : List Nat} {A : HA} {Ds Bs : List HA} (h : HS w0 M (A :: Ds) w1) (hc : HS w1 (fps [A]) Bs w2) : HS w0 M (Bs ++ Ds) w2:=
 HS.callM (Cs:=[A]) (As:=Ds) h (fun b hb=>by obtain ⟨A,hA,hb⟩:=List.mem_flatMap.1 hb;exact ⟨A,hA,hb⟩) hc
theorem QeF {A : HA} {Ds : List HA} : Y3 (A :: Ds) [A] Ds:=List.Perm.refl _
theorem Qgv {α : Type} {P : Program} {fn : Func} {n l D : Nat} {fid : FuncId} {tmps : Array Value} {ps : Array Tmp} {assign body : Code} {args : Array Value} {L0 : Qq} {L1 : α → Qq} {w0 W : World} {M : List Nat} {As : List HA} {As1 : α → List HA} {Rr : Ending → World → Prop}
  (hC : HS w0 M (.obj l (.loop (rdy fid tmps ps assign body D)) :: As) W) (hps : args.size = ps.size) (hf : FR n [] L0 { tmps:=(ps.zip args).foldl (fun t (p,v)=>t.setIfInBounds p v) tmps,defers:=[] })
  (h1 : S { P:=P,fn:=fn,n:=n,R:=fun _ _=>False,rd:=some l } [.c assign,.join (At n [] L1 (fun x=>HS w0 M (.obj l (.loop (rdy fid tmps ps assign body D)) :: As1 x)))] L0 (HS w0 M (.obj l (.loop (rdy fid tmps ps assign body D)) :: As)))
  (h2 : ∀ x,S { P:=P,fn:=fn,n:=n,R:=Rr,rd:=some l } [.c body] (L1 x) (HS w0 M (.obj l (.loop { rdy fid tmps ps assign body D with state:=.busy }) :: As1 x))) : Zu P l args W Rr:=by
 refine ⟨fid,_,assign,body,run_yield (hC.obj_get .here) hps,roundIn_of_wpIn trivial ?_⟩;refine wpIn_mono (h1 _ W hf hC) fun e a w he=>?_;cases e with
 | normal=>
  obtain ⟨x,hfr,hc⟩:=he;exact ⟨_,run_beginRound (hc.obj_get .here) rfl,h2 x _ _ hfr (hc.putObj .here _)⟩
 | ret=>obtain ⟨v,w',_,hx⟩:=he;exact hx
 | exit id=>obtain ⟨v,w',_,hx⟩:=he;exact hx
 | goto t=>obtain ⟨v,w',_,hx⟩:=he;exact hx
 | panic ch=>exact he
 | outgrown=>exact he
def Qli (id : Nat) : Obj → Obj
 | .loop r=>.loop { r with state:=.done,pending:=some (.exit id) }
 | o=>o
inductive RunY {S α : Type} (st : S → α → S → Prop) (co : S → Bool) : S → List α → S → Bool → Prop
 | nil (s : S) : RunY st co s [] s true
 | go {s s' s'' : S} {x : α} {l : List α} {b : Bool} (h : st s x s') (hc : co s' = true) (hr : RunY st co s' l s'' b) : RunY st co s (x :: l) s'' b
 | stop {s s' : S} {x : α} {l : List α} (h : st s x s') (hc : co s' = false) : RunY st co s (x :: l) s' false
section
variable {S α : Type} {st : S → α → S → Prop} {co : S → Bool} {s s1 s2 : S} {A B : List α} {b : Bool}
theorem RunY.app (h : RunY st co s A s1 true) (h2 : RunY st co s1 B s2 b) : RunY st co s (A ++ B) s2 b:=by
 generalize hb : true = c at h
 induction h with
 | nil s=>exact h2
 | go h hc _ ih=>exact .go h hc (ih h2 hb)
 | stop h hc=>cases hb
theorem RunY.off (h : RunY st co s A s1 false) (B : List α) : RunY st co s (A ++ B) s1 false:=by
 generalize hb : false = c at h
 induction h with
 | nil s=>cases hb
 | go h hc _ ih=>exact .go h hc (ih hb)
 | stop h hc=>exact .stop h hc
theorem RunY.one {x : α} (h : st s x s1) : RunY st co s [x] s1 (co s1):=by
 cases hc : co s1 with
 | true=>exact .go h hc (.nil s1)
 | false=>exact .stop h hc
end
end Gx
namespace Gx
open Go Go.RowKit
section
variable {es : List TEnt} {ks : List BT} {k : Nat}
def YI (es : List TEnt) (ks : List BT) : Nat → List TEnt
 | 0=>[]
 | k + 1=>(YI es ks k ++ if 0 < ks.length then (nth ks k).flat else []) ++ if k < es.length then [nth es k] else []
def ZX (es : List TEnt) (ks : List BT) (k : Nat) : List TEnt:=YI es ks k ++ if 0 < ks.length then (nth ks k).flat else []
theorem Qae : YI es ks (k + 1) = ZX es ks k ++ if k < es.length then [nth es k] else []:=rfl
theorem Y9 (h : k < es.length) : YI es ks (k + 1) = ZX es ks k ++ [nth es k]:=by rw [Qae,if_pos h]
theorem QbK (h : ¬ k < es.length) : YI es ks (k + 1) = ZX es ks k:=by rw [Qae,if_neg h,List.append_nil]
theorem Yp (h : 0 < ks.length) : ZX es ks k = YI es ks k ++ (nth ks k).flat:=by rw [ZX,if_pos h]
theorem QbI (h : ¬ 0 < ks.length) : ZX es ks k = YI es ks k:=by rw [ZX,if_neg h,List.append_nil]
theorem QcH {α : Type} [Inhabited α] {l : List α} {i : Nat} (h : i < l.length) : l.drop i = nth l i :: l.drop (i + 1):=by
 rw [List.drop_eq_getElem_cons h,show nth l i = l[i] from Q3 (List.getElem?_eq_getElem h)]
theorem Qe4 : ∀ {k : Nat},k ≤ es.length → YI es [] k = es.take k
 | 0,_=>by rw [YI,List.take_zero]
 | k + 1,h=>by
  rw [Y9 (by omega),QbI (by simp),Qe4 (by omega),List.take_add_one,Q6 (by omega)];rfl
theorem QeY (h : ks.length = es.length + 1) : ∀ {k : Nat},k ≤ es.length → YI es ks k ++ QF (es.drop k) (ks.drop k) = QF es ks
 | 0,_=>by rw [YI,List.drop_zero,List.drop_zero,List.nil_append]
 | k + 1,hk=>by
  have h1:=QeY (k:=k) h (by omega);rw [QcH (l:=es) (i:=k) (by omega),QcH (l:=ks) (i:=k) (by omega),QF] at h1;rw [Y9 (by omega),Yp (by omega),← h1];simp
theorem Qai (h : ks = [] ∨ ks.length = es.length + 1) : YI es ks (es.length + 1) = QF es ks:=by
 rcases h with h | h
 ·subst h;rw [QbK (by omega),QbI (by simp),Qe4 (Nat.le_refl _),List.take_length,Q2]
 ·have h1:=QeY (k:=es.length) h (Nat.le_refl _);rw [QcH (l:=ks) (i:=es.length) (by omega),List.drop_length,QF,List.drop_of_length_le (by omega),QF] at h1;rw [QbK (by omega),Yp (by omega),← h1,List.append_nil]
theorem QgI : (YI es ks k).length ≤ (ZX es ks k).length:=by
 unfold ZX;rw [List.length_append];omega
theorem QdU : (ZX es ks k).length ≤ (YI es ks (k + 1)).length:=by
 rw [Qae,List.length_append];omega
theorem Qn8 {m : Nat} (h : k ≤ m) : (YI es ks k).length ≤ (YI es ks m).length:=by
 obtain ⟨d,rfl⟩:=Nat.exists_eq_add_of_le h
 clear h
 induction d with
 | zero=>exact Nat.le_refl _
 | succ d ih=>exact Nat.le_trans ih (Nat.le_trans QgI QdU)
theorem Qbq (h : ks = [] ∨ ks.length = es.length + 1) (hk : k ≤ es.length + 1) : (YI es ks k).length ≤ (QF es ks).length:=by
 rw [← Qai h];exact Qn8 hk
theorem Qet (h : ks = [] ∨ ks.length = es.length + 1) (hk : k ≤ es.length) : (ZX es ks k).length ≤ (QF es ks).length:=Nat.le_trans QdU (Qbq h (by omega))
theorem Qf3 (h : ks = [] ∨ ks.length = es.length + 1) {k : Nat} (hk : k ≤ es.length + 1) : ∃ B,QF es ks = YI es ks k ++ B:=by
 rw [← Qai h];obtain ⟨d,hd⟩:=Nat.exists_eq_add_of_le hk;rw [hd]
 clear hd hk h
 induction d with
 | zero=>exact ⟨[],by rw [List.append_nil];rfl⟩
 | succ d ih=>
  obtain ⟨B,hB⟩:=ih;rw [show k + (d + 1) = (k + d) + 1 from rfl,Qae,ZX,hB,List.append_assoc,List.append_assoc];exact ⟨_,rfl⟩
theorem QdJ (h : ks = [] ∨ ks.length = es.length + 1) {k : Nat} (hk : k ≤ es.length) : ∃ B,QF es ks = ZX es ks k ++ B:=by
 obtain ⟨B,hB⟩:=Qf3 h (k:=k + 1) (by omega);rw [hB,Qae,List.append_assoc];exact ⟨_,rfl⟩
theorem Qqb (h : ks = [] ∨ ks.length = es.length + 1) {k : Nat} (hk : k < es.length) : nth es k ∈ QF es ks:=(Qa1 es ks).subset (Q1 hk)
theorem Qjd (h : ks.length = es.length + 1) {k : Nat} (hk : k < ks.length) {x : TEnt} (hx : x ∈ (nth ks k).flat) : x ∈ QF es ks:=by
 obtain ⟨B,hB⟩:=QdJ (.inr h) (k:=k) (by omega);rw [hB,Yp (by omega)];exact List.mem_append_left _ (List.mem_append_right _ hx)
def NIn (ns : List Nd) (T : BT) : Prop:=∀ p ∈ T.nodes,p.1 < ns.length ∧ nth ns p.1 = p.2
theorem QS.nin {ns : List Nd} {T : BT} (h : QS ns T) : NIn ns T:=fun p hp=>RepN.at_ (i:=p.1) (x:=p.2) h hp
theorem NIn.root {ns : List Nd} {i : Nat} (h : NIn ns (.nd i es ks)) : i < ns.length ∧ nth ns i = ⟨true,es,QL ks⟩:=by
 refine h (i,⟨true,es,QL ks⟩) ?_;rw [BT.nodes];exact List.mem_cons_self ..
theorem Qce {k : BT} {p : Nat × Nd} : ∀ {ks : List BT},k ∈ ks → p ∈ k.nodes → p ∈ Qz ks
 | [],h,_=>(nomatch h)
 | x :: ks,h,hp=>by
  rw [Qz];rcases List.mem_cons.1 h with rfl | h
  ·exact List.mem_append_left _ hp
  ·exact List.mem_append_right _ (Qce h hp)
theorem Qm3 {ks : List BT} {k : Nat} (h : k < ks.length) : nth ks k ∈ ks:=Q1 h
theorem NIn.kid {ns : List Nd} {i : Nat} (h : NIn ns (.nd i es ks)) (hk : k < ks.length) : NIn ns (nth ks k):=fun p hp=>h p (by
 rw [BT.nodes];exact List.mem_cons_of_mem _ (Qce (Qm3 hk) hp))
theorem QcE (hk : k < ks.length) : (QL ks).getD k 0 = ((nth ks k).idx : Int):=by
 unfold QL;rw [List.getD_eq_getElem?_getD,List.getElem?_map,Q6 hk];rfl
theorem Qby {lo hi d i : Nat} (h : Bel lo hi (d + 1) (.nd i es ks)) (hk : k < ks.length) : Bel lo hi d (nth ks k):=(Xu.1 (h.2 _ (Qm3 hk))).1
theorem Qfx {lo hi i : Nat} (h : Bel lo hi 0 (.nd i es ks)) : ks = []:=h
end
mutual
theorem Qb5 (m : Nat) : ∀ T : BT,(∀ p ∈ T.nodes,p.2.es.length ≤ m) → T.flat.length ≤ T.nodes.length * m
 | .nd i es ks,h=>by
  rw [BT.nodes] at h ⊢;have h1:=Qa8 m es ks fun p hp=>h p (List.mem_cons_of_mem _ hp);have h2:=h (i,⟨true,es,QL ks⟩) (List.mem_cons_self ..);simp only at h2;rw [BT.flat,List.length_cons,Nat.succ_mul];omega
theorem Qa8 (m : Nat) : ∀ (es : List TEnt) (ks : List BT),(∀ p ∈ Qz ks,p.2.es.length ≤ m) → (QF es ks).length ≤ (Qz ks).length * m + es.length
 | es,[],_=>by
  rw [Q2];omega
 | [],k :: ks,h=>by
  rw [Qz] at h ⊢;have h1:=Qb5 m k fun p hp=>h p (List.mem_append_left _ hp);have h2:=Qa8 m [] ks fun p hp=>h p (List.mem_append_right _ hp);rw [QF,List.length_append,List.length_append,Nat.add_mul];omega
 | e :: es,k :: ks,h=>by
  rw [Qz] at h ⊢;have h1:=Qb5 m k fun p hp=>h p (List.mem_append_left _ hp);have h2:=Qa8 m es ks fun p hp=>h p (List.mem_append_right _ hp);rw [QF,List.length_append,List.length_append,Nat.add_mul,List.length_cons,List.length_cons];omega
end
theorem QS.flat_len {ns : List Nd} {T : BT} {m : Nat} (h : QS ns T) (hm : ∀ i,i < ns.length → (nth ns i).es.length ≤ m) : T.flat.length ≤ ns.length * m:=by
 refine Nat.le_trans (Qb5 m T fun p hp=>?_) (Nat.mul_le_mul_right m h.nlen);have h1:=h.nin p hp;rw [← h1.2];exact hm _ h1.1
theorem Qi7 {es : List TEnt} {ks : List BT} {k : Nat} (h : ks.length = es.length + 1) (hk : k < ks.length) : (nth ks k).flat.length ≤ (QF es ks).length:=by
 have h1:=congrArg List.length (Yp (es:=es) (ks:=ks) (k:=k) (by omega));rw [List.length_append] at h1;have h2:=Qet (es:=es) (ks:=ks) (k:=k) (.inr h) (by omega);omega
def X6 (p : TEnt → Bool) (most : Nat) (l : List TEnt) : List TEnt:=(l.filter p).take most
section
variable {p : TEnt → Bool} {l : List TEnt} {k m : Nat}
def outN (p : TEnt → Bool) (l : List TEnt) (k : Nat) : List TEnt:=(l.take k).filter p
end
def Xj (co : Int) (key : List UInt8) (x : TEnt) : Bool:=decide (key = []) || decide (0 < QO co x.key key)
def Qee (p : TEnt → Bool) (m : Nat) (s : ((Option Addr × Nat) × List TEnt) × Bool) (x : TEnt) (s1 : ((Option Addr × Nat) × List TEnt) × Bool) : Prop:=
 if s.1.2.length = m then s1.1.2 = s.1.2 ∧ s1.2 = false else s1.1.2 = s.1.2 ++ (if p x = true then [x] else []) ∧ s1.2 = true
theorem Qov {p : TEnt → Bool} {m : Nat} {l : List TEnt} {s s1 : ((Option Addr × Nat) × List TEnt) × Bool} {b : Bool} (h : RunY (Qee p m) (fun s=>s.2) s l s1 b) : s.1.2.length ≤ m → s1.1.2 = (s.1.2 ++ l.filter p).take m:=by
 induction h with
 | nil s=>
  intro hl;rw [List.filter_nil,List.append_nil,List.take_of_length_le hl]
 | @go s s' s'' x l b h hc _ ih=>
  intro hl;unfold Qee at h
  by_cases h1 : s.1.2.length = m
  ·rw [if_pos h1] at h;rw [h.2] at hc;cases hc
  ·rw [if_neg h1] at h;rw [ih (by rw [h.1];split <;> simp <;> omega),h.1,List.append_assoc];congr 2;cases hp : p x <;> simp [hp]
 | @stop s s' x l h hc=>
  intro hl;unfold Qee at h
  by_cases h1 : s.1.2.length = m
  ·rw [if_pos h1] at h;rw [h.1,← h1,List.take_left]
  ·rw [if_neg h1] at h;rw [h.2] at hc;cases hc
end Gx
namespace Go.Proofs
open Go Go.RowKit Gx
attribute [local irreducible] Go.Calls Gx.S Gx.O Gx.D Gx.OpP Gx.OpQ Gx.OpH
set_option maxRecDepth 20000
theorem Qm6 : tki Tryz.prog 5 = some .u8:=by kernel_rfl
theorem Qd3 : tki Tryz.prog 3 = some .i64:=by kernel_rfl
theorem Qk5 : QT Tryz.prog 50 = true:=by kernel_rfl
theorem QmJ (a b : Int) : Value.int .i64 (IntKind.i64.wrap ((if decide (b < a) = true then 1 else 0) - (if decide (a < b) = true then 1 else 0))) = Value.int .i64 (XZ a b):=by
  unfold XZ
  by_cases h1 : a < b
  · have h2 : ¬ b < a:=by omega
    simp only [h1,h2,decide_true,decide_false,Bool.false_eq_true,if_true,if_false];rfl
  · by_cases h2 : b < a
    · simp only [h1,h2,decide_true,decide_false,Bool.false_eq_true,if_true,if_false];rfl
    · simp only [h1,h2,decide_true,decide_false,Bool.false_eq_true,if_true,if_false];rfl
def QeS (c : Int) : Int:=if 97 ≤ c ∧ c ≤ 122 then c - 32 else c
theorem Qd6 (u : UInt8) : QeS (u.toNat : Int) = ((Qa2 u).toNat : Int):=by
  have hu:=u.toNat_lt;unfold QeS Qa2
  by_cases h : 97 ≤ u ∧ u ≤ 122
  · have h2:=h;rw [UInt8.le_iff_toNat_le,UInt8.le_iff_toNat_le] at h2;have e97 : (97 : UInt8).toNat = 97:=rfl;have e122 : (122 : UInt8).toNat = 122:=rfl;rw [e97,e122] at h2;rw [if_pos h,if_pos (by omega),UInt8.toNat_sub_of_le _ _ (by rw [UInt8.le_iff_toNat_le];show 32 ≤ _;omega)];show (u.toNat : Int) - 32 = ((u.toNat - 32 : Nat) : Int);omega
  · have h2:=h;rw [UInt8.le_iff_toNat_le,UInt8.le_iff_toNat_le] at h2;have e97 : (97 : UInt8).toNat = 97:=rfl;have e122 : (122 : UInt8).toNat = 122:=rfl;rw [e97,e122] at h2;rw [if_neg h,if_neg (by omega)]
theorem c71 (w : World) (s : List UInt8) (at' c : Nat) (hm : s.length ≤ 1000000000) (hc : c ≤ 7) (hac : at' + c ≤ s.length) : Calls Tryz.prog 71 #[.string (bs s),.int .i64 (at' : Int),.int .i64 (c : Int)] w fun en w'=>en = .returned (.int .i64 (Qcf s at' c)) ∧ Below w.heap.size w w':=by
 refine enter (args:=[_,_,_]) Tryz.func71 Tryz.ntmps71 rfl rfl (HS.refl w []) ?_
 iterate 13 refine aS ?_
 try refine oWr ?_
 refine aS3 ?_
 refine QN (α:=Nat) [7,8,11,12,13,14,15,16,17,18,19,20,21,22,23] (fun j=>[(8,.int .i64 ((j : Int) - 1)),(7,.int .i64 (Qcf s (at' + j) (c - j)))]) (fun _=>_) (fun j=>j ≤ c) (fun j=>j) c (Nat.le_refl _) (by rw [Nat.sub_self];exact aSx) (fun w h=>h) (fun j hj=>?_)
 refine aS6 ?_
 refine Qd rfl (fun h1=>?_) fun h1=>?_
 ·try simp only [dT] at h1
  obtain ⟨i,rfl⟩ : ∃ i,j = i + 1:=⟨j - 1,by omega⟩
  have hst : Qcf s (at' + i) (c - i) = at1 s (at' + i) + 256 * Qcf s (at' + (i + 1)) (c - (i + 1)):=by rw [show c - i = (c - (i + 1)) + 1 by omega,Qcf];rfl
  have hb1:=Qgb s (at' + i)
  have hn6:=QpE s (at' + (i + 1)) (k:=c - (i + 1)) (by omega)
  have hb9:=(s.getD (at' + i) 0).toNat_lt
  refine aS6 ?_
  try refine oWr ?_
  refine aS4 ?_
  try refine oWr ?_
  refine Qm (show _ = Value.int .i64 ((at' + i : Nat) : Int) from by congr 1;omega) ?_
  refine o_p (Qbf rfl rfl rfl Tryz.underlying9 (at' + i) (by omega) (by omega)) rfl ?_
  refine o_p (Yk rfl rfl Qm6 Qd3) rfl ?_
  try refine oWr ?_
  refine aS ?_
  try refine oWr ?_
  refine Qm (show _ = Value.int .i64 (Qcf s (at' + i) (c - i)) from by rw [hst];congr 1;show _ * 256 + at1 s (at' + i) = _;omega) ?_
  refine aS6 ?_
  try refine oWr ?_
  refine aS2 ?_
  exact QD i (by omega) (by omega) (by rw [show ((i : Int) - 1) = ((i + 1 : Nat) : Int) - 1 - 1 from by omega];exact aSx) (fun w h=>h)
 try simp only [dN] at h1
 obtain rfl : j = 0:=by omega
 rw [Nat.add_zero,Nat.sub_zero]
 refine Qu rfl ?_
 refine aS5 ?_
 exact rT rfl rfl (fun w' h'=>⟨by rfl,h'.below⟩)
theorem c50 (w : World) (b : Bool) : Calls Tryz.prog 50 #[.bool b] w fun en w'=>en = .returned (.int .i64 (if b then 1 else 0)) ∧ Below w.heap.size w w':=by
 refine enter (args:=[_]) Tryz.func50 Tryz.ntmps50 rfl rfl (HS.refl w []) ?_
 refine aS9 ?_
 refine Qd rfl (fun h1=>?_) fun h1=>?_
 ·skip
  refine aS4 ?_
  exact rT rfl rfl (fun w' h'=>⟨by simp_all [Xw],h'.below⟩)
 skip
 refine aS5 ?_
 exact rT rfl rfl (fun w' h'=>⟨by simp_all [Xw],h'.below⟩)
theorem c70 (w : World) (n : Int) : Calls Tryz.prog 70 #[.int .i64 n] w fun en w'=>en = .returned (.bool (decide (0 ≤ n) && decide (n ≤ 2147483647))) ∧ Below w.heap.size w w':=by
 refine enter (args:=[_]) Tryz.func70 Tryz.ntmps70 rfl rfl (HS.refl w []) ?_
 refine aS7 ?_
 refine o_q (Qi rfl Qb0 rfl (fun w1 h1=>c46 w1 _ _ _)) rfl ?_
 refine aS2 ?_
 exact rT rfl rfl (fun w' h'=>⟨rfl,h'.below⟩)
theorem c79 (w : World) (a b : Int) : Calls Tryz.prog 79 #[.int .i64 a,.int .i64 b] w fun en w'=>en = .returned (.int .i64 (XZ a b)) ∧ Below w.heap.size w w':=by
 refine enter (args:=[_,_]) Tryz.func79 Tryz.ntmps79 rfl rfl (HS.refl w []) ?_
 refine aS9 ?_
 refine o_q (Qi rfl Qk5 rfl (fun w1 h1=>c50 w1 _)) rfl ?_
 refine aS3 ?_
 refine o_q (Qi rfl Qk5 rfl (fun w1 h1=>c50 w1 _)) rfl ?_
 refine aS ?_
 refine Qm (show _ = Value.int .i64 (XZ a b) from QmJ a b) ?_
 refine aS2 ?_
 exact rT rfl rfl (fun w' h'=>⟨by rfl,h'.below⟩)
theorem c80 (w : World) (c : Int) (h0 : 0 ≤ c ∧ c ≤ 255) : Calls Tryz.prog 80 #[.int .i64 c] w fun en w'=>en = .returned (.int .i64 (QeS c)) ∧ Below w.heap.size w w':=by
 refine enter (args:=[_]) Tryz.func80 Tryz.ntmps80 rfl rfl (HS.refl w []) ?_
 refine aS8 ?_
 refine o_q (Qi rfl Qb0 rfl (fun w1 h1=>c46 w1 _ _ _)) rfl ?_
 refine aS ?_
 refine Qd rfl (fun h1=>?_) fun h1=>?_
 ·try simp only [Bool.and_eq_true,decide_eq_true_eq] at h1
  have hz : QeS c = c - 97 + 65:=by have hq:=h1;unfold QeS;rw [if_pos (by first | exact hq | (simp at hq;omega))];omega
  refine aS4 ?_
  try refine oWr ?_
  refine aS ?_
  try refine oWr ?_
  refine aS2 ?_
  exact rT rfl rfl (fun w' h'=>⟨by rw [hz];rfl,h'.below⟩)
 try simp only [Bool.and_eq_false_iff,decide_eq_false_iff_not] at h1
 have hz : QeS c = c:=by have hq:=h1;unfold QeS;rw [if_neg (by intro h9;first | exact hq h9 | (simp at hq;omega))]
 refine aS6 ?_
 exact rT rfl rfl (fun w' h'=>⟨by rw [hz];rfl,h'.below⟩)
theorem Qc9 : tsl Tryz.prog 150 = some (5,1,1):=by kernel_rfl
theorem Qol : tsz Tryz.prog 5 = some (1,false):=by kernel_rfl
theorem QfX : tki Tryz.prog 201 = some .u16:=by kernel_rfl
theorem QH : Tryz.prog.follows .mixedOrders = true:=by kernel_rfl
theorem QlP : QT Tryz.prog 165 = true:=by kernel_rfl
theorem Qmq : tki Tryz.prog 186 = some .u32:=by kernel_rfl
theorem QqQ : QT Tryz.prog 156 = true:=by kernel_rfl
theorem Qlu : QT Tryz.prog 157 = true:=by kernel_rfl
theorem QpB : isCS Tryz.prog 155:=⟨_,Tryz.func155,rfl,rfl,by kernel_rfl,by kernel_rfl⟩
theorem QqI : QT Tryz.prog 145 = true:=by kernel_rfl
theorem c165 (w : World) (a : Option Addr) (m cap : Nat) (x : List UInt8) (hs : Vl w a (x.map bv)) (hm : x.length = m) (h2 : 2 ≤ m) (hc : m ≤ cap) (hc9 : cap ≤ 9223372036854775807) : Calls Tryz.prog 165 #[.slice a m cap] w fun en w'=>en = .returned (.int .u16 (at2 x 0)) ∧ Below w.heap.size w w':=by
 refine enter (args:=[_]) Tryz.func165 Tryz.ntmps165 rfl rfl (HS.refl w []) ?_
 refine aS5 ?_
 refine QE [] QH ?_
 refine dP 0 ?_
 refine dV 1 rfl (Qa rfl rfl rfl Qc9 0 rfl (by omega) (hs.some (by rw [List.length_map];omega))) ?_
 refine dQ 2 [] rfl (Qe rfl rfl Qol ((hs.rd (i:=0) (Qip (l:=x) (k:=0) (by omega))))) ?_
 refine dV 3 rfl (Yk rfl rfl Qm6 QfX) ?_
 refine dP 4 ?_
 refine dV 5 rfl (Qa rfl rfl rfl Qc9 1 rfl (by omega) (hs.some (by rw [List.length_map];omega))) ?_
 refine dQ 6 [] rfl (Qe rfl rfl Qol ((hs.rd (i:=1) (Qip (l:=x) (k:=1) (by omega))))) ?_
 refine dV 7 rfl (Yk rfl rfl Qm6 QfX) ?_
 refine dV 8 rfl (Qpm rfl rfl rfl (by decide) 8 rfl) ?_
 refine dP 9 ?_
 refine dP 10 ?_
 refine dNi ?_
 exact rT rfl rfl (fun w' h'=>⟨by rw [← Qlz];rfl,h'.below⟩)
theorem c156 (w : World) (a : Option Addr) (m cap : Nat) (x : List UInt8) (hs : Vl w a (x.map bv)) (hm : x.length = m) (h2 : 4 ≤ m) (hc : m ≤ cap) (hc9 : cap ≤ 9223372036854775807) : Calls Tryz.prog 156 #[.slice a m cap] w fun en w'=>en = .returned (.int .u32 (at4 x 0)) ∧ Below w.heap.size w w':=by
 have hx2:=Qc7 x 0
 have hx3:=Qc7 x 2
 refine enter (args:=[_]) Tryz.func156 Tryz.ntmps156 rfl rfl (HS.refl w []) ?_
 refine aS5 ?_
 refine QE [] QH ?_
 refine dP 0 ?_
 refine dQ 1 [] rfl (Qi rfl QlP rfl (fun w1 h1=>c165 w1 a m cap x (hs.later h1) hm (by omega) hc hc9)) ?_
 refine dV 2 rfl (Yk rfl rfl QfX Qmq) ?_
 refine dP 3 ?_
 refine dV 4 rfl (QX _ _ 2 m rfl rfl Qc9 ⟨_,_,rfl,rfl⟩ rfl (by omega) (by omega)) ?_
 refine dQ 5 [] rfl (Qi rfl QlP rfl (fun w1 h1=>c165 w1 (ZS a cap 2 1) (m - 2) (cap - 2) (x.drop 2) (by rw [List.map_drop];exact (hs.later h1).drop (by rw [List.length_map];omega) (by omega)) (by rw [List.length_drop];omega) (by omega) (by omega) (by omega))) ?_
 refine dV 6 rfl (Yk rfl rfl QfX Qmq) ?_
 refine dV 7 rfl (Qpm rfl rfl rfl (by decide) 16 rfl) ?_
 refine dP 8 ?_
 refine dP 9 ?_
 refine dNi ?_
 exact rT rfl rfl (fun w' h'=>⟨by have h9:=Qm0 (at2 x 0) (at2 (x.drop 2) 0) (Qc7 _ _) (Qc7 _ _);rw [Qeo] at h9 ⊢;exact (congrArg Ending.returned h9),h'.below⟩)
theorem QpW (w : World) (s : List UInt8) (p : Nat) (hm : s.length ≤ 1000000) (hp : p + 4 ≤ s.length) : Calls Tryz.prog 146 #[.string (bs s),.int .i64 (p : Int)] w fun en w'=>en = .returned (.int .u32 (at4 s p)) ∧ Below w.heap.size w w':=by
 have h4:=Qgd s p
 have hdl : (s.drop p).length = s.length - p:=List.length_drop
 refine enter (args:=[_,_]) Tryz.func146 Tryz.ntmps146 rfl rfl (HS.refl w []) ?_
 refine aS8 ?_
 refine o_p (Qc8 p rfl rfl rfl Tryz.underlying9 rfl (by omega)) rfl ?_
 refine o_h (Qjr rfl rfl Tryz.underlying9 Tryz.underlying150 Tryz.underlying5 rfl (by simp only [maxLen];omega)) rfl (fun ⟨b1,c2⟩ ⟨h3,k4⟩=>?_)
 refine o_q (Qi rfl QqQ rfl (fun w1 h1=>by have h9:=c156 w1 (some ⟨b1,0,none⟩) (s.drop p).length c2 (s.drop p) (h1.vl_blk aPk) rfl (by omega) (by assumption) (by have hq9 : c2 ≤ maxLen:=(by assumption);simp only [maxLen] at hq9;omega);rw [Qmw,Nat.add_zero] at h9;exact h9)) rfl ?_
 refine aS2 ?_
 exact rT rfl rfl (fun w' h'=>⟨by rfl,h'.below⟩)
theorem c157 (w : World) (x : Int) : Calls Tryz.prog 157 #[.int .u32 x] w fun en w'=>en = .returned (.bool false) ∧ Below w.heap.size w w':=by
 refine enter (args:=[_]) Tryz.func157 Tryz.ntmps157 rfl rfl (HS.refl w []) ?_
 refine QaU ?_
 exact rT rfl rfl (fun w' h'=>⟨by simp [Xw],h'.below⟩)
theorem c147 (w : World) (x y : Int) : Calls Tryz.prog 147 #[.int .u32 x,.int .u32 y] w fun en w'=>en = .returned (.int .i64 (XZ x y)) ∧ Below w.heap.size w w':=by
 refine enter (args:=[_,_]) Tryz.func147 Tryz.ntmps147 rfl rfl (HS.refl w []) ?_
 refine aS7 ?_
 refine o_q (Qi rfl Qlu rfl (fun w1 h1=>c157 w1 _)) rfl ?_
 refine aS5 ?_
 refine o_q (Qi rfl Qlu rfl (fun w1 h1=>c157 w1 _)) rfl ?_
 refine aS7 ?_
 refine Qd rfl (fun h1=>?_) fun h1=>?_
 ·skip
  exfalso;simp at h1
 skip
 refine aS6 ?_
 refine Qd rfl (fun h2=>?_) fun h2=>?_
 ·skip
  exfalso;simp at h2
 skip
 refine aS8 ?_
 refine Qd rfl (fun h3=>?_) fun h3=>?_
 ·try simp only [dT] at h3
  have hz : XZ x y = -1:=by have hq:=h3;unfold XZ;rw [if_pos hq]
  refine aS4 ?_
  exact rT rfl rfl (fun w' h'=>⟨by rw [hz];rfl,h'.below⟩)
 try simp only [dN] at h3
 refine aS8 ?_
 refine Qd rfl (fun h4=>?_) fun h4=>?_
 ·try simp only [dT] at h4
  have hz : XZ x y = 1:=by have hq:=h4;unfold XZ;rw [if_neg (by omega),if_pos hq]
  refine aS4 ?_
  exact rT rfl rfl (fun w' h'=>⟨by rw [hz];rfl,h'.below⟩)
 try simp only [dN] at h4
 have hz : XZ x y = 0:=by have hq:=h4;unfold XZ;rw [if_neg (by omega),if_neg hq]
 refine aS5 ?_
 exact rT rfl rfl (fun w' h'=>⟨by rw [hz];rfl,h'.below⟩)
theorem c145 (w : World) (a b : List UInt8) : Calls Tryz.prog 145 #[.string (bs a),.string (bs b)] w fun en w'=>en = .returned (.int .i64 (X2 a b)) ∧ Below w.heap.size w w':=by
 refine enter (args:=[_,_]) Tryz.func145 Tryz.ntmps145 rfl rfl (HS.refl w []) ?_
 refine aS8 ?_
 refine o_q (QhI rfl rfl rfl QpB) rfl ?_
 refine aS2 ?_
 exact rT rfl rfl (fun w' h'=>⟨by rfl,h'.below⟩)
theorem c110 (w : World) (a b : List UInt8) : Calls Tryz.prog 110 #[.string (bs a),.string (bs b)] w fun en w'=>en = .returned (.int .i64 (X2 a b)) ∧ Below w.heap.size w w':=by
 refine enter (args:=[_,_]) Tryz.func110 Tryz.ntmps110 rfl rfl (HS.refl w []) ?_
 refine aS8 ?_
 refine o_q (Qi rfl QqI rfl (fun w1 h1=>c145 w1 _ _)) rfl ?_
 refine aS2 ?_
 exact rT rfl rfl (fun w' h'=>⟨by rfl,h'.below⟩)
theorem Qiw : QT Tryz.prog 146 = true:=by kernel_rfl
theorem QpQ : QT Tryz.prog 147 = true:=by kernel_rfl
theorem QmH : QT Tryz.prog 115 = true:=by kernel_rfl
def QaD (s : List UInt8) (q : Nat) : Bool:=(List.range q).all fun i=>Qdf s (4 * i)
theorem Qky {s : List UInt8} {q k : Nat} (hk : k < q) (h : 2147483647 < at4 s (4 * k)) : QaD s q = false:=by
  unfold QaD;rw [List.all_eq_false];exact ⟨k,List.mem_range.2 hk,by unfold Qdf;simp;omega⟩
theorem Qg9 {s : List UInt8} {k : Nat} (h : QaD s k = true) (h2 : ¬ 2147483647 < at4 s (4 * k)) : QaD s (k + 1) = true:=by
  unfold QaD at h ⊢;rw [List.range_succ,List.all_append,h];unfold Qdf;simp;omega
def QaV (a b : List UInt8) : Nat → Nat → Int
  | 0,_=>0
  | f + 1,k=>if XZ (at4 a (4 * k)) (at4 b (4 * k)) ≠ 0 then XZ (at4 a (4 * k)) (at4 b (4 * k)) else QaV a b f (k + 1)
theorem c115 (w : World) (s : List UInt8) (q : Nat) (hm : s.length ≤ 1000000) (hq : q ≤ 1000) : Calls Tryz.prog 115 #[.string (bs s),.int .i64 ((4 * q : Nat) : Int)] w fun en w'=>en = .returned (.bool (decide (s.length = 4 * q) && QaD s q)) ∧ Below w.heap.size w w':=by
 refine enter (args:=[_,_]) Tryz.func115 Tryz.ntmps115 rfl rfl (HS.refl w []) ?_
 refine aS8 ?_
 refine o_p (XB rfl rfl Tryz.underlying9) rfl ?_
 refine aS3 ?_
 refine Qd rfl (fun h1=>?_) fun h1=>?_
 ·try simp only [Bool.not_eq_true',decide_eq_false_iff_not] at h1
  have hne : ¬ s.length = 4 * q:=by have hq9:=h1;omega
  refine aS4 ?_
  exact rT rfl rfl (fun w' h'=>⟨by simp [Xw,hne],h'.below⟩)
 try simp only [Bool.not_eq_false',decide_eq_true_eq] at h1
 have heq : s.length = 4 * q:=by have hq9:=h1;omega
 refine aS7 ?_
 refine QN (α:=Nat) [4,5,10,11,12,13,14,15,16,17,18] (fun k=>[(5,.int .i64 ((4 * k : Nat) : Int))]) (fun _=>_) (fun k=>k ≤ q ∧ QaD s k = true) (fun k=>q - k) 0 ⟨Nat.zero_le _,rfl⟩ aSx (fun w h=>h) (fun k hx=>?_)
 obtain ⟨hk1,hok⟩:=hx
 refine aS7 ?_
 refine Qd rfl (fun h2=>?_) fun h2=>?_
 ·try simp only [dT] at h2
  have hk : k < q:=by omega
  refine aS7 ?_
  refine o_q (Qi rfl Qiw rfl (fun w1 h1=>QpW w1 s (4 * k) (by omega) (by omega))) rfl ?_
  refine aS2 ?_
  refine Qd rfl (fun h3=>?_) fun h3=>?_
  ·try simp only [dT] at h3
   have hz:=Qky hk h3
   refine aS4 ?_
   exact rT rfl rfl (fun w' h'=>⟨by simp [Xw,hz],h'.below⟩)
  try simp only [dN] at h3
  have hz:=Qg9 hok h3
  refine aS5 ?_
  try refine oWr ?_
  refine aS2 ?_
  exact QD (k + 1) (by omega) ⟨by omega,hz⟩ (by rw [show (((4 * k : Nat)) : Int) + 4 = ((4 * (k + 1) : Nat) : Int) from by omega];exact aSx) (fun w h=>h)
 try simp only [dN] at h2
 obtain rfl : k = q:=by omega
 refine Qu rfl ?_
 refine aS4 ?_
 exact rT rfl rfl (fun w' h'=>⟨by simp [Xw,heq,hok],h'.below⟩)
theorem c116 (w : World) (a b : List UInt8) (q : Nat) (ha : a.length = 4 * q) (hb : b.length = 4 * q) (hq : q ≤ 1000) : Calls Tryz.prog 116 #[.string (bs a),.string (bs b)] w fun en w'=>en = .returned (.int .i64 (QaV a b q 0)) ∧ Below w.heap.size w w':=by
 refine enter (args:=[_,_]) Tryz.func116 Tryz.ntmps116 rfl rfl (HS.refl w []) ?_
 refine Zf ?_
 refine QN (α:=Nat) [4,5,6,7,8,9,10,11,12,13,14,15,16,17,18,19,20,21,22] (fun k=>[(5,.int .i64 ((4 * k : Nat) : Int))]) (fun _=>_) (fun k=>k ≤ q ∧ QaV a b q 0 = QaV a b (q - k) k) (fun k=>q - k) 0 ⟨Nat.zero_le _,rfl⟩ aSx (fun w h=>h) (fun k hx=>?_)
 obtain ⟨hk1,hx2⟩:=hx
 refine aS5 ?_
 refine o_p (XB rfl rfl Tryz.underlying9) rfl ?_
 refine aS2 ?_
 refine Qd rfl (fun h1=>?_) fun h1=>?_
 ·try simp only [dT] at h1
  have hk : k < q:=by omega
  have hst : QaV a b (q - k) k = if XZ (at4 a (4 * k)) (at4 b (4 * k)) ≠ 0 then XZ (at4 a (4 * k)) (at4 b (4 * k)) else QaV a b (q - (k + 1)) (k + 1):=by rw [show q - k = (q - (k + 1)) + 1 by omega,QaV]
  refine aS7 ?_
  refine o_q (Qi rfl Qiw rfl (fun w1 h1=>QpW w1 a (4 * k) (by omega) (by omega))) rfl ?_
  refine aS2 ?_
  refine o_q (Qi rfl Qiw rfl (fun w1 h1=>QpW w1 b (4 * k) (by omega) (by omega))) rfl ?_
  refine o_q (Qi rfl QpQ rfl (fun w1 h1=>c147 w1 _ _)) rfl ?_
  refine aS7 ?_
  refine Qd rfl (fun h2=>?_) fun h2=>?_
  ·try simp only [Bool.not_eq_true',decide_eq_false_iff_not] at h2
   have hq9 : XZ (at4 a (4 * k)) (at4 b (4 * k)) ≠ 0:=h2
   rw [hst,if_pos hq9] at hx2
   refine aS5 ?_
   exact rT rfl rfl (fun w' h'=>⟨by rw [hx2];rfl,h'.below⟩)
  try simp only [Bool.not_eq_false',decide_eq_true_eq] at h2
  have hq9 : ¬ XZ (at4 a (4 * k)) (at4 b (4 * k)) ≠ 0:=by have hq8:=h2;simpa using hq8
  rw [hst,if_neg hq9] at hx2
  refine aS5 ?_
  try refine oWr ?_
  refine aS2 ?_
  exact QD (k + 1) (by omega) ⟨by omega,hx2⟩ (by rw [show (((4 * k : Nat)) : Int) + 4 = ((4 * (k + 1) : Nat) : Int) from by omega];exact aSx) (fun w h=>h)
 try simp only [dN] at h1
 obtain rfl : k = q:=by omega
 rw [Nat.sub_self,QaV] at hx2
 refine Qu rfl ?_
 refine aS4 ?_
 exact rT rfl rfl (fun w' h'=>⟨by rw [hx2];rfl,h'.below⟩)
theorem c114 (w : World) (s : List UInt8) (hm : s.length ≤ 1000000) : Calls Tryz.prog 114 #[.string (bs s)] w fun en w'=>en = .returned (.bool (QW 2 s)) ∧ Below w.heap.size w w':=by
 refine enter (args:=[_]) Tryz.func114 Tryz.ntmps114 rfl rfl (HS.refl w []) ?_
 refine aS7 ?_
 refine o_q (Qi rfl QmH rfl (fun w1 h1=>c115 w1 s 1 hm (by decide))) rfl ?_
 refine aS2 ?_
 exact rT rfl rfl (fun w' h'=>⟨by simp [Xw,QW,QaD,List.range_succ,List.range_zero],h'.below⟩)
theorem c117 (w : World) (s : List UInt8) (hm : s.length ≤ 1000000) : Calls Tryz.prog 117 #[.string (bs s)] w fun en w'=>en = .returned (.bool (QW 3 s)) ∧ Below w.heap.size w w':=by
 refine enter (args:=[_]) Tryz.func117 Tryz.ntmps117 rfl rfl (HS.refl w []) ?_
 refine aS7 ?_
 refine o_q (Qi rfl QmH rfl (fun w1 h1=>c115 w1 s 2 hm (by decide))) rfl ?_
 refine aS2 ?_
 exact rT rfl rfl (fun w' h'=>⟨by simp [Xw,QW,QaD,List.range_succ,List.range_zero],h'.below⟩)
theorem c109 (w : World) (s : List UInt8) : Calls Tryz.prog 109 #[.string (bs s)] w fun en w'=>en = .returned (.bool (QW 0 s)) ∧ Below w.heap.size w w':=by
 refine enter (args:=[_]) Tryz.func109 Tryz.ntmps109 rfl rfl (HS.refl w []) ?_
 refine aS7 ?_
 refine o_p (XB rfl rfl Tryz.underlying9) rfl ?_
 refine o_q (Qi rfl Qdm rfl (fun w1 h1=>c93 w1 _ _ _)) rfl ?_
 refine aS2 ?_
 exact rT rfl rfl (fun w' h'=>⟨by simp [Xw,QW,Bool.decide_and];first | done | (congr 1 <;> simp <;> omega) | grind,h'.below⟩)
theorem c111 (w : World) (s : List UInt8) : Calls Tryz.prog 111 #[.string (bs s)] w fun en w'=>en = .returned (.bool (QW 1 s)) ∧ Below w.heap.size w w':=by
 refine enter (args:=[_]) Tryz.func111 Tryz.ntmps111 rfl rfl (HS.refl w []) ?_
 refine aS7 ?_
 refine o_p (XB rfl rfl Tryz.underlying9) rfl ?_
 refine o_q (Qi rfl Qdm rfl (fun w1 h1=>c93 w1 _ _ _)) rfl ?_
 refine aS2 ?_
 exact rT rfl rfl (fun w' h'=>⟨by simp [Xw,QW,Bool.decide_and];first | done | (congr 1 <;> simp <;> omega) | grind,h'.below⟩)
theorem Ql3 : X5 Tryz.prog 132 = some [.nilFunc,.nilFunc,.nilFunc,.nilFunc,.nilFunc,.nilFunc,.nilFunc,.nilFunc]:=by kernel_rfl
theorem QfC : Qaw Tryz.prog 110 = some [(0,1),(1,1)]:=by kernel_rfl
theorem QfI : X5 Tryz.prog 110 = some [.nilFunc,.nilFunc]:=by kernel_rfl
theorem Qer : tar Tryz.prog 132 = some (4,110,2):=by kernel_rfl
theorem Qma : tsz Tryz.prog 132 = some (8,true):=by kernel_rfl
instance : TSz Tryz.prog 132 8 true:=⟨Qma⟩
theorem Qj0 : QT Tryz.prog 77 = true:=by kernel_rfl
theorem QeH : tsz Tryz.prog 110 = some (2,true):=by kernel_rfl
instance : TSz Tryz.prog 110 2 true:=⟨QeH⟩
theorem QlD : tfd Tryz.prog 110 0 = some (0,107):=by kernel_rfl
theorem Qq0 : tsz Tryz.prog 107 = some (1,false):=by kernel_rfl
def Qdd (co : Int) : Nat:=if co = 0 then 109 else if co = 1 then 111 else if co = 2 then 114 else 117
def Qc2 (co : Int) : Nat:=if co = 0 then 110 else if co = 1 then 112 else 116
def Qag (f : Nat) : Value:=.func (.func f) #[] #[]
def ordV (co : Int) : Value:=.agg #[Qag (Qdd co),Qag (Qc2 co)]
theorem c77 (w : World)  : Calls Tryz.prog 77 #[] w fun en w'=>en = .returned (.agg #[Qag (Qdd 0),Qag (Qc2 0),Qag (Qdd 1),Qag (Qc2 1),Qag (Qdd 2),Qag (Qc2 2),Qag (Qdd 3),Qag (Qc2 3)]) ∧ Below w.heap.size w w':=by
 refine enter (args:=[]) Tryz.func77 Tryz.ntmps77 rfl rfl (HS.refl w []) ?_
 refine aS2 ?_
 refine oAl (fun b1 _=>?_) Ql3
 refine aS3 ?_
 refine o_p (Xr (cs:=[_,_]) rfl rfl QfC QfI rfl) rfl ?_
 refine o_p (Xr (cs:=[_,_]) rfl rfl QfC QfI rfl) rfl ?_
 refine o_p (Xr (cs:=[_,_]) rfl rfl QfC QfI rfl) rfl ?_
 refine o_p (Xr (cs:=[_,_]) rfl rfl QfC QfI rfl) rfl ?_
 refine o_p (QgJ (cs:=[_,_,_,_,_,_,_,_]) rfl rfl Qer Ql3 rfl) rfl ?_
 refine oSt ?_
 refine aS ?_
 exact QM (rs:=[.cell 0 132]) rfl (.cell rfl Qma aPk rfl (.nil)) (fun w' h'=>⟨by rfl,h'.below⟩)
theorem QpT (co : Int) : QT Tryz.prog (Qdd co) = true:=by
  unfold Qdd;split
  · kernel_rfl
  · split
    · kernel_rfl
    · split <;> kernel_rfl
theorem Qkc (w : World) (j : Nat) (s : List UInt8) (hj : j ≤ 3) (hm : s.length ≤ 1000000) : Calls Tryz.prog (Qdd (j : Int)) #[.string (bs s)] w fun en w'=>en = .returned (.bool (QW (j : Int) s)) ∧ Below w.heap.size w w':=by
  match j,hj with
  | 0,_=>exact c109 w s
  | 1,_=>exact c111 w s
  | 2,_=>exact c114 w s hm
  | 3,_=>exact c117 w s hm
theorem QcP (j : Nat) (hj : j ≤ 3) : Value.agg (cut [Qag (Qdd 0),Qag (Qc2 0),Qag (Qdd 1),Qag (Qc2 1),Qag (Qdd 2),Qag (Qc2 2),Qag (Qdd 3),Qag (Qc2 3)] (j * 2) 2).toArray = ordV (j : Int):=by
  match j,hj with
  | 0,_=>rfl
  | 1,_=>rfl
  | 2,_=>rfl
  | 3,_=>rfl
theorem c76 (w : World) (j : Nat) (s : List UInt8) (hj : j ≤ 3) (hm : s.length ≤ 1000000) : Calls Tryz.prog 76 #[.int .i64 (j : Int),.string (bs s)] w fun en w'=>en = .returned (.int .i64 (XM (j : Int) s)) ∧ Below w.heap.size w w':=by
 refine enter (args:=[_,_]) Tryz.func76 Tryz.ntmps76 rfl rfl (HS.refl w []) ?_
 refine aS6 ?_
 refine o_q (Qi rfl Qj0 rfl (fun w1 h1=>c77 w1)) rfl ?_
 refine aS ?_
 refine o_p (QcS rfl rfl rfl Qer QeH j rfl (by omega)) rfl ?_
 refine Qm (QcP j hj) ?_
 refine o_p (Qgq rfl rfl QlD Qq0 rfl) rfl ?_
 refine aS ?_
 refine o_q (Yb rfl rfl (QpT _) rfl (fun w1 h1=>Qkc w1 j s hj hm)) rfl ?_
 refine o_q (Qi rfl Zt rfl (fun w1 h1=>c81 w1 _ _)) rfl ?_
 refine aS2 ?_
 exact rT rfl rfl (fun w' h'=>⟨by simp only [Xw,XM,cond_eq_ite],h'.below⟩)
theorem Ql6 : QT Tryz.prog 113 = true:=by kernel_rfl
theorem QqP : QT Tryz.prog 110 = true:=by kernel_rfl
theorem bset {L : List UInt8} {k : Nat} {x : UInt8} {v : Value} (h : k < L.length) (hv : v = bv x) : Qy (L.map bv) (k * 1) [v] = (L.set k x).map bv:=by
  subst hv;have h9:=ZC (vals:=byV) (sz:=1) (fun _=>rfl) L k 0 [bv x] (L.getD k 0) x (by rw [List.getElem?_eq_getElem h,List.getD_eq_getElem?_getD,List.getElem?_eq_getElem h];rfl) rfl (by simp);rw [Nat.add_zero] at h9;have e : ∀ M : List UInt8,M.flatMap byV = M.map bv:=fun M=>Qlc bv M;rw [e,e] at h9;exact h9
def QbW (s : List UInt8) (k : Nat) : List UInt8:=(s.map Qa2).take k ++ s.drop k
theorem Qbr {s : List UInt8} {k : Nat} (h : k ≤ s.length) : (QbW s k).length = s.length:=by simp [QbW];omega
theorem Qhb {s : List UInt8} {k : Nat} (h : k < s.length) : (QbW s k).getD k 0 = s.getD k 0:=by
  unfold QbW;rw [List.getD_eq_getElem?_getD,List.getElem?_append_right (by simp;omega),List.getElem?_drop,List.getD_eq_getElem?_getD];congr 2;simp;omega
theorem Qhv {s : List UInt8} {k : Nat} (h : k < s.length) : (QbW s k).set k (Qa2 (s.getD k 0)) = QbW s (k + 1):=by
  unfold QbW;apply List.ext_getElem?;intro j;simp only [List.getElem?_set,List.getElem?_append,List.getElem?_take,List.getElem?_drop,List.length_append,List.length_take,List.length_map,List.length_drop,List.getElem?_map,List.getD_eq_getElem?_getD];have hk:=List.getElem?_eq_getElem h
  grind
theorem QpC (s : List UInt8) : QbW s 0 = s:=by simp [QbW]
theorem Qna (s : List UInt8) : QbW s s.length = s.map Qa2:=by
  unfold QbW;rw [List.drop_length,List.append_nil,List.take_of_length_le (by simp)]
theorem Qj7 {s : List UInt8} {k : Nat} (h : k < s.length) (hc : Qa2 (s.getD k 0) = s.getD k 0) : QbW s k = QbW s (k + 1):=by
  rw [← Qhv h,hc];apply List.ext_getElem?;intro j;rw [List.getElem?_set];split
  · rename_i e;subst e;rw [← Qhb h,List.getD_eq_getElem?_getD];rw [if_pos (by rw [Qbr (by omega)];exact h),List.getElem?_eq_getElem (by rw [Qbr (by omega)];exact h)];rfl
  · rfl
theorem Qno {x : UInt8} (h : 97 ≤ x.toNat ∧ x.toNat ≤ 122) : Value.int .u8 (IntKind.u8.wrap (IntKind.u8.wrap ((x.toNat : Int) - 97) + 65)) = bv (Qa2 x):=by
  have h2:=Qd6 x;unfold QeS at h2;rw [if_pos (by omega)] at h2;rw [show (x.toNat : Int) - 97 = ((x.toNat - 97 : Nat) : Int) by omega,QiO _ (by omega),show ((x.toNat - 97 : Nat) : Int) + 65 = ((x.toNat - 32 : Nat) : Int) by omega,QiO _ (by omega)];unfold bv;exact congrArg (Value.int .u8) (by omega)
theorem Qqx {x : UInt8} (h : ¬ (97 ≤ x.toNat ∧ x.toNat ≤ 122)) : Qa2 x = x:=by
  have h2:=Qd6 x;unfold QeS at h2;rw [if_neg (by omega)] at h2;exact UInt8.toNat_inj.1 (by omega)
theorem c113 (w : World) (s : List UInt8) (hm : s.length ≤ 1000000) : Calls Tryz.prog 113 #[.string (bs s)] w fun en w'=>en = .returned (.string (bs (s.map Qa2))) ∧ Below w.heap.size w w':=by
 refine enter (args:=[_]) Tryz.func113 Tryz.ntmps113 rfl rfl (HS.refl w []) ?_
 refine aS7 ?_
 refine o_h (Qjr rfl rfl Tryz.underlying9 Tryz.underlying150 Tryz.underlying5 rfl (by simp only [maxLen];omega)) rfl (fun ⟨b1,c2⟩ ⟨h3,k4⟩=>?_)
 refine Zf ?_
 refine QN (α:=Nat) [4,5,10,11,12,13,14,15,16,17,18,19,20,21,22,23,24,25,26,27] (fun k=>[(10,.int .i64 (k : Int))]) (fun k=>HS w [] [.blk b1 5 c2 ((QbW s k).map bv)]) (fun k=>k ≤ s.length) (fun k=>s.length - k) 0 (Nat.zero_le _) aSx (fun w h=>by rw [QpC];exact h.ent aEt) (fun k hk1=>?_)
 refine aS5 ?_
 refine Qd rfl (fun h5=>?_) fun h5=>?_
 ·try simp only [dT] at h5
  have hk : k < s.length:=by omega
  have hb9:=(s.getD k 0).toNat_lt
  refine aS6 ?_
  refine o_p (Qa rfl rfl rfl Qc9 (k) (by omega) (by omega) rfl) rfl ?_
  refine o_q (Qg rfl rfl Qol (fun w h=>by rw [Nat.zero_add];exact h.rd_blk (Mc:=[]) aPk (by rw [Nat.mul_one,Qip (by rw [Qbr hk1];exact hk),Qhb hk]) (by simp))) rfl ?_
  refine aS8 ?_
  refine XD 3 17 20 _ _ rfl
   (by
    intro hg6
    have hs7:=hg6;try simp only [dT] at hs7
    refine oOn 17 hg6 ?_
    refine aS ?_
    refine oOn 17 hg6 ?_
    refine aS ?_
    refine o_p (Qw rfl rfl hg6 rfl) rfl ?_
    refine aS ?_
    exact oJn 3 20)
   (by
    intro hg8
    have hs9:=hg8;try simp only [dN] at hs9
    refine oOf 17 hg8 ?_
    refine oOf 17 hg8 ?_
    refine o_p (Qs rfl rfl hg8 rfl) rfl ?_
    refine aS ?_
    exact oJn 3 20) ?_
  refine aS ?_
  refine Xn (α:=Unit) [21,22,23,24,25,26] (fun _=>[]) (fun _=>HS w [] [.blk b1 5 c2 ((QbW s (k + 1)).map bv)]) (fun _=>True) ?_ ?_
  ·skip
   refine Qd rfl (fun h10=>?_) fun h10=>?_
   ·try simp only [Bool.and_eq_true,decide_eq_true_eq] at h10
    have hcc : 97 ≤ (s.getD k 0).toNat ∧ (s.getD k 0).toNat ≤ 122:=by have hq:=h10;omega
    refine aS6 ?_
    try (refine Qm (u8add _ _) ?_)
    refine Qm (Qno hcc) ?_
    refine o_p (Qa rfl rfl rfl Qc9 (k) (by omega) (by omega) rfl) rfl ?_
    refine Qm (show _ = Value.pointer (some ⟨b1,k * 1,none⟩) from by rw [Nat.zero_add]) ?_
    refine YE (Q9 rfl rfl rfl Qol rfl aPt (by rw [List.length_map,Qbr hk1];omega) rfl) (fun _ _=>?_)
    refine aS ?_
    exact Qn () trivial aSx (fun w h=>by have h2:=HS.blk_to (b:=b1) h aPk (bset (L:=QbW s k) (x:=Qa2 (s.getD k 0)) (by rw [Qbr hk1];exact hk) rfl);rw [Qhv hk] at h2;exact h2.ent aEt)
   try simp only [Bool.and_eq_false_iff,decide_eq_false_iff_not] at h10
   have hno : Qa2 (s.getD k 0) = s.getD k 0:=Qqx (by have hq:=h10;omega)
   refine aS ?_
   exact Qn () trivial aSx (fun w h=>by rw [← Qj7 hk hno];exact h.ent aEt)
  intro _ _
  refine aS3 ?_
  try refine oWr ?_
  refine aS2 ?_
  exact QD (k + 1) (by omega) (by omega) aSx (fun w h=>h.ent aEt)
 try simp only [dN] at h5
 obtain rfl : k = s.length:=by omega
 rw [Qna]
 refine Qu rfl ?_
 refine aS3 ?_
 refine o_q (QcG rfl rfl Tryz.underlying150 Tryz.underlying9 Tryz.underlying5 aPk (by simp [List.length_map]) (Qn4 _)) rfl ?_
 refine aS2 ?_
 exact rT rfl rfl (fun w' h'=>⟨by simp only [QlM];rfl,h'.below⟩)
theorem c112 (w : World) (a b : List UInt8) (ha : a.length ≤ 1000000) (hb : b.length ≤ 1000000) : Calls Tryz.prog 112 #[.string (bs a),.string (bs b)] w fun en w'=>en = .returned (.int .i64 (X2 (a.map Qa2) (b.map Qa2))) ∧ Below w.heap.size w w':=by
 refine enter (args:=[_,_]) Tryz.func112 Tryz.ntmps112 rfl rfl (HS.refl w []) ?_
 refine aS7 ?_
 refine o_q (Qi rfl Ql6 rfl (fun w1 h1=>c113 w1 a ha)) rfl ?_
 refine aS ?_
 refine o_q (Qi rfl Ql6 rfl (fun w1 h1=>c113 w1 b hb)) rfl ?_
 refine o_q (Qi rfl QqP rfl (fun w1 h1=>c110 w1 _ _)) rfl ?_
 refine aS2 ?_
 exact rT rfl rfl (fun w' h'=>⟨by rfl,h'.below⟩)
theorem QhM : QT Tryz.prog 76 = true:=by kernel_rfl
theorem Qhr : tfd Tryz.prog 110 1 = some (1,108):=by kernel_rfl
instance : TFd Tryz.prog 110 1 1 108:=⟨Qhr⟩
theorem Qa5 : tsz Tryz.prog 108 = some (1,false):=by kernel_rfl
instance : TSz Tryz.prog 108 1 false:=⟨Qa5⟩
theorem QoJ (a b : List UInt8) : QaV a b 1 0 = QO 2 a b:=by
  simp only [QaV,QO,Nat.mul_zero];split
  · rfl
  · rename_i h;simp only [ne_eq,Decidable.not_not] at h;rw [h];rfl
theorem QnL (a b : List UInt8) : QaV a b 2 0 = QO 3 a b:=by
  have e : QO 3 a b = if XZ (at4 a 0) (at4 b 0) ≠ 0 then XZ (at4 a 0) (at4 b 0) else XZ (at4 a 4) (at4 b 4):=rfl
  rw [e];show (if XZ (at4 a 0) (at4 b 0) ≠ 0 then XZ (at4 a 0) (at4 b 0) else if XZ (at4 a 4) (at4 b 4) ≠ 0 then XZ (at4 a 4) (at4 b 4) else 0) = _
  by_cases h : XZ (at4 a 0) (at4 b 0) ≠ 0
  · rw [if_pos h,if_pos h]
  · rw [if_neg h,if_neg h];split
    · rfl
    · rename_i h2;simp only [ne_eq,Decidable.not_not] at h2;exact h2.symm
theorem QdB {s : List UInt8} (h : QW 2 s = true) : s.length = 4:=by
  unfold QW at h;simp at h;exact h.1
theorem QdI {s : List UInt8} (h : QW 3 s = true) : s.length = 8:=by
  unfold QW at h;simp at h;exact h.1
theorem Qb4 (co : Int) : QT Tryz.prog (Qc2 co) = true:=by
  unfold Qc2;split
  · kernel_rfl
  · split <;> kernel_rfl
theorem Ze (w : World) (j : Nat) (a b : List UInt8) (hj : j ≤ 3) (hka : QW (j : Int) a = true) (hkb : QW (j : Int) b = true) (ha : a.length ≤ 1000000) (hb : b.length ≤ 1000000) : Calls Tryz.prog (Qc2 (j : Int)) #[.string (bs a),.string (bs b)] w fun en w'=>en = .returned (.int .i64 (QO (j : Int) a b)) ∧ Below w.heap.size w w':=by
  match j,hj with
  | 0,_=>exact c110 w a b
  | 1,_=>exact c112 w a b ha hb
  | 2,_=>
    have h:=c116 w a b 1 (QdB hka) (QdB hkb) (by decide);rw [QoJ] at h;exact h
  | 3,_=>
    have h:=c116 w a b 2 (QdI hka) (QdI hkb) (by decide);rw [QnL] at h;exact h
theorem keyE_ok {co : Int} {k : List UInt8} (h : XM co k = 0) : QW co k = true:=by
  unfold XM at h;split at h
  · assumption
  · cases h
def Qj3 (co : Int) (a b : List UInt8) : Int:=if Q5 co = 0 then if XM co a = 0 then XM co b else XM co a else Q5 co
theorem YF {co : Int} (h : Q5 co = 0) : ∃ j : Nat,co = (j : Int) ∧ j ≤ 3:=by
  unfold Q5 at h;split at h
  · exact ⟨co.toNat,by omega,by omega⟩
  · cases h
theorem c28 (w : World) (co : Int) (a b : List UInt8) (ha : a.length ≤ 1000000) (hb : b.length ≤ 1000000) : Calls Tryz.prog 28 #[.int .i64 co,.string (bs a),.string (bs b)] w fun en w'=>en = .returned (.tuple #[.int .i64 (if Qj3 co a b = 0 then QO co a b else 0),.int .i64 (Qj3 co a b)]) ∧ Below w.heap.size w w':=by
 refine enter (args:=[_,_,_]) Tryz.func28 Tryz.ntmps28 rfl rfl (HS.refl w []) ?_
 refine aS9 ?_
 refine o_q (Qi rfl Qpi rfl (fun w1 h1=>c74 w1 _)) rfl ?_
 refine aS7 ?_
 refine Qd rfl (fun h1=>?_) fun h1=>?_
 ·try simp only [Bool.not_eq_true',decide_eq_false_iff_not] at h1
  have h0 : ¬ Q5 co = 0:=h1
  have hz : Qj3 co a b = Q5 co:=by unfold Qj3;rw [if_neg h0]
  refine aS6 ?_
  exact QM (rs:=[.tmp 6,.tmp 7]) rfl (.tmp rfl (.tmp rfl (.nil))) (fun w' h'=>⟨by rw [hz,if_neg h0];rfl,h'.below⟩)
 try simp only [Bool.not_eq_false',decide_eq_true_eq] at h1
 have h0 : Q5 co = 0:=h1
 obtain ⟨j,rfl,hj⟩:=YF h0
 have hz : Qj3 (j : Int) a b = ZH [.int .i64 (XM (j : Int) a),.int .i64 (XM (j : Int) b)]:=by rw [Qay];unfold Qj3;rw [if_pos h0]
 refine aS6 ?_
 refine o_q (Qi rfl QhM rfl (fun w1 h1=>c76 w1 j a hj ha)) rfl ?_
 refine aS2 ?_
 refine o_q (Qi rfl QhM rfl (fun w1 h1=>c76 w1 j b hj hb)) rfl ?_
 refine o_h (Qr (cs:=[_,_]) rfl rfl Qbn QdV rfl rfl rfl) rfl (fun b2 _=>?_)
 refine o_q (Qi rfl Qez rfl (fun w1 h1=>f75 h1 aPk (by rfl) (by rfl) (by decide))) rfl ?_
 refine aS7 ?_
 refine Qd rfl (fun h3=>?_) fun h3=>?_
 ·try simp only [Bool.not_eq_true',decide_eq_false_iff_not] at h3
  have h1 : ¬ ZH [.int .i64 (XM (j : Int) a),.int .i64 (XM (j : Int) b)] = 0:=h3
  refine aS6 ?_
  exact QM (rs:=[.tmp 6,.tmp 7]) rfl (.tmp rfl (.tmp rfl (.nil))) (fun w' h'=>⟨by rw [hz,if_neg h1];rfl,h'.below⟩)
 try simp only [Bool.not_eq_false',decide_eq_true_eq] at h3
 have h1 : ZH [.int .i64 (XM (j : Int) a),.int .i64 (XM (j : Int) b)] = 0:=h3
 obtain ⟨hka,hkb⟩ : XM (j : Int) a = 0 ∧ XM (j : Int) b = 0:=by rw [Qay] at h1;split at h1;exact ⟨by assumption,h1⟩;rename_i h9;exact absurd h1 h9
 refine aS3 ?_
 refine o_q (Qi rfl Qj0 rfl (fun w1 h1=>c77 w1)) rfl ?_
 refine aS ?_
 refine o_p (QcS rfl rfl rfl Qer QeH j rfl (by omega)) rfl ?_
 refine Qm (QcP j hj) ?_
 refine o_p (Qgq rfl rfl Qhr Qa5 rfl) rfl ?_
 refine aS2 ?_
 refine o_q (Yb rfl rfl (Qb4 _) rfl (fun w1 h1=>Ze w1 j a b hj (keyE_ok hka) (keyE_ok hkb) ha hb)) rfl ?_
 refine aS3 ?_
 exact QM (rs:=[.tmp 6,.tmp 7]) rfl (.tmp rfl (.tmp rfl (.nil))) (fun w' h'=>⟨by rw [hz,if_pos h1,h1];rfl,h'.below⟩)
instance : TFd Tryz.prog 26 0 0 9:=⟨by kernel_rfl⟩
theorem Zb : tsz Tryz.prog 9 = some (1,false):=by kernel_rfl
instance : TSz Tryz.prog 9 1 false:=⟨Zb⟩
instance : TFd Tryz.prog 26 1 1 9:=⟨by kernel_rfl⟩
theorem QgU (co : Int) (x : TEnt) : Ending.returned (Value.int .i64 (if XM co x.key = 0 then cond (decide ((x.val.length : Int) ≤ 64)) 0 8 else XM co x.key)) = Ending.returned (Value.int .i64 (X7 co x)):=by
  unfold X7
  by_cases h : XM co x.key = 0
  · rw [if_pos h,if_pos h]
    by_cases h2 : x.val.length ≤ 64
    · rw [if_pos h2,decide_eq_true (by omega)];rfl
    · rw [if_neg h2,decide_eq_false (by omega)];rfl
  · rw [if_neg h,if_neg h];unfold XM at h ⊢;split at h
    · exact absurd rfl h
    · rename_i h3;rw [if_neg h3]
theorem c91 (w : World) (j : Nat) (x : TEnt) (hj : j ≤ 3) (hm : x.key.length ≤ 1000000) : Calls Tryz.prog 91 #[.int .i64 (j : Int),.agg #[.string (bs x.key),.string (bs x.val)]] w fun en w'=>en = .returned (.int .i64 (X7 (j : Int) x)) ∧ Below w.heap.size w w':=by
 refine enter (args:=[_,_]) Tryz.func91 Tryz.ntmps91 rfl rfl (HS.refl w []) ?_
 refine aS2 ?_
 refine oBx fun b1 _=>?_
 refine aS3 ?_
 refine QE [] QH ?_
 refine dP 0 ?_
 refine dFa 1 ?_
 refine dLd 2 [] ?_
 refine dQ 3 [] rfl (Qi rfl QhM rfl (fun w1 h1=>c76 w1 j x.key hj hm)) ?_
 refine dFa 4 ?_
 refine dLd 5 [] ?_
 refine dV 6 rfl (XB rfl rfl Tryz.underlying9) ?_
 refine dP 7 ?_
 refine dQ 8 [] rfl (Qi rfl Zt rfl (fun w1 h1=>c81 w1 _ _)) ?_
 refine dH 9 rfl (Qr (cs:=[_,_]) rfl rfl Qbn QdV rfl rfl rfl) (fun b2 _=>?_)
 refine dBa ?_
 refine dQ 10 [] rfl (Qi rfl Qez rfl (fun w1 h1=>f75 h1 aPk (by rfl) (by rfl) (by decide))) ?_
 refine dP 11 ?_
 refine dNi ?_
 exact rT rfl rfl (fun w' h'=>⟨by simp only [Xw];rw [Qay];exact QgU _ _,h'.below⟩)
theorem Qcq : QT Tryz.prog 71 = true:=by kernel_rfl
theorem QmV : QT Tryz.prog 70 = true:=by kernel_rfl
theorem kok0 (s : List UInt8) : QW ((0 : Nat) : Int) s = (decide ((1 : Int) ≤ (s.length : Int)) && decide ((s.length : Int) ≤ 40)):=by
  rw [Bool.eq_iff_iff];simp [QW];omega
theorem kok1 (s : List UInt8) : QW ((1 : Nat) : Int) s = (decide ((1 : Int) ≤ (s.length : Int)) && decide ((s.length : Int) ≤ 32)):=by
  rw [Bool.eq_iff_iff];simp [QW];omega
theorem kok2 (s : List UInt8) : QW ((2 : Nat) : Int) s = (decide ((s.length : Int) = 4) && (decide (0 ≤ at4 s 0) && decide (at4 s 0 ≤ 2147483647))):=by
  have:=Qgd s 0;rw [Bool.eq_iff_iff];simp [QW,Qdf];omega
theorem kok3 (s : List UInt8) : QW ((3 : Nat) : Int) s = (decide ((s.length : Int) = 8) && (decide (0 ≤ at4 s 0) && decide (at4 s 0 ≤ 2147483647)) && (decide (0 ≤ at4 s 4) && decide (at4 s 4 ≤ 2147483647))):=by
  have:=Qgd s 0;have:=Qgd s 4;rw [Bool.eq_iff_iff];simp [QW,Qdf];omega
theorem c26 (w : World) (j : Nat) (s : List UInt8) (hj : j ≤ 3) (hm : s.length ≤ 1000000) : Calls Tryz.prog 26 #[.int .i64 (j : Int),.string (bs s)] w fun en w'=>en = .returned (.int .i64 (XM (j : Int) s)) ∧ Below w.heap.size w w':=by
 refine enter (args:=[_,_]) Tryz.func26 Tryz.ntmps26 rfl rfl (HS.refl w []) ?_
 refine aS7 ?_
 refine o_p (XB rfl rfl Tryz.underlying9) rfl ?_
 refine o_q (Qi rfl Qb0 rfl (fun w1 h1=>c46 w1 _ _ _)) rfl ?_
 iterate 13 refine aS ?_
 refine Xn (α:=Unit) [5,12,13,14,15,16,17,18,19,20,21,22,23,24,25,26,27,28,29,30,31,32,33,34,35,36,37,38,39] (fun _=>[(5,.bool (QW (j : Int) s))]) (fun _=>HS w [] []) (fun _=>True) ?_ ?_
 ·skip
  refine Qd rfl (fun h1=>?_) fun h1=>?_
  ·try simp only [dT] at h1
   obtain rfl : j = 1:=by have hq:=h1;omega
   refine aS2 ?_
   refine o_p (XB rfl rfl Tryz.underlying9) rfl ?_
   refine o_q (Qi rfl Qb0 rfl (fun w1 h1=>c46 w1 _ _ _)) rfl ?_
   refine aS2 ?_
   exact Qn () trivial (by rw [kok1];exact aSx) (fun w h=>h.ent aEt)
  try simp only [dN] at h1
  have hn1 : ¬ (j : Int) = 1:=h1
  refine aS5 ?_
  refine Qd rfl (fun h2=>?_) fun h2=>?_
  ·try simp only [dT] at h2
   obtain rfl : j = 2:=by have hq:=h2;omega
   refine aS2 ?_
   refine o_p (XB rfl rfl Tryz.underlying9) rfl ?_
   refine aS2 ?_
   refine XD 4 20 24 _ _ rfl
    (by
     intro hg3
     have hs4:=hg3;try simp only [dT] at hs4
     refine oOn 20 hg3 ?_
     refine aS ?_
     refine oOn 20 hg3 ?_
     refine o_q (Qi rfl Qcq rfl (fun w1 h1=>by have h9:=c71 w1 s 0 4 (by omega) (by omega) (by have hq:=hg3;first | omega | (simp at hq;omega));rw [QaC] at h9;exact h9)) rfl ?_
     refine oOn 20 hg3 ?_
     refine o_q (Qi rfl QmV rfl (fun w1 h1=>c70 w1 _)) rfl ?_
     refine o_p (Qw rfl rfl hg3 rfl) rfl ?_
     refine aS ?_
     exact oJn 4 24)
    (by
     intro hg5
     have hs6:=hg5;try simp only [dN] at hs6
     refine oOf 20 hg5 ?_
     refine oOf 20 hg5 ?_
     refine oOf 20 hg5 ?_
     refine o_p (Qs rfl rfl hg5 rfl) rfl ?_
     refine aS ?_
     exact oJn 4 24) ?_
   refine aS2 ?_
   exact Qn () trivial (by rw [kok2];exact aSx) (fun w h=>h.ent aEt)
  try simp only [dN] at h2
  have hn2 : ¬ (j : Int) = 2:=h2
  refine aS5 ?_
  refine Qd rfl (fun h7=>?_) fun h7=>?_
  ·try simp only [dT] at h7
   obtain rfl : j = 3:=by have hq:=h7;omega
   refine aS2 ?_
   refine o_p (XB rfl rfl Tryz.underlying9) rfl ?_
   refine aS2 ?_
   refine XD 4 30 34 _ _ rfl
    (by
     intro hg8
     have hs9:=hg8;try simp only [dT] at hs9
     refine oOn 30 hg8 ?_
     refine aS ?_
     refine oOn 30 hg8 ?_
     refine o_q (Qi rfl Qcq rfl (fun w1 h1=>by have h9:=c71 w1 s 0 4 (by omega) (by omega) (by have hq:=hg8;first | omega | (simp at hq;omega));rw [QaC] at h9;exact h9)) rfl ?_
     refine oOn 30 hg8 ?_
     refine o_q (Qi rfl QmV rfl (fun w1 h1=>c70 w1 _)) rfl ?_
     refine o_p (Qw rfl rfl hg8 rfl) rfl ?_
     refine aS ?_
     exact oJn 4 34)
    (by
     intro hg10
     have hs11:=hg10;try simp only [dN] at hs11
     refine oOf 30 hg10 ?_
     refine oOf 30 hg10 ?_
     refine oOf 30 hg10 ?_
     refine o_p (Qs rfl rfl hg10 rfl) rfl ?_
     refine aS ?_
     exact oJn 4 34) ?_
   refine aS ?_
   refine XD 4 35 39 _ _ rfl
    (by
     intro hg12
     have hs13:=hg12;try simp only [Bool.and_eq_true,decide_eq_true_eq] at hs13
     refine oOn 35 hg12 ?_
     refine aS ?_
     refine oOn 35 hg12 ?_
     refine o_q (Qi rfl Qcq rfl (fun w1 h1=>by have h9:=c71 w1 s 4 4 (by omega) (by omega) (by have hq:=hg12;first | omega | (simp at hq;omega));rw [QaC] at h9;exact h9)) rfl ?_
     refine oOn 35 hg12 ?_
     refine o_q (Qi rfl QmV rfl (fun w1 h1=>c70 w1 _)) rfl ?_
     refine o_p (Qw rfl rfl hg12 rfl) rfl ?_
     refine aS ?_
     exact oJn 4 39)
    (by
     intro hg14
     have hs15:=hg14;try simp only [Bool.and_eq_false_iff,decide_eq_false_iff_not] at hs15
     refine oOf 35 hg14 ?_
     refine oOf 35 hg14 ?_
     refine oOf 35 hg14 ?_
     refine o_p (Qs rfl rfl hg14 rfl) rfl ?_
     refine aS ?_
     exact oJn 4 39) ?_
   refine aS2 ?_
   exact Qn () trivial (by rw [kok3];exact aSx) (fun w h=>h.ent aEt)
  try simp only [dN] at h7
  have hn3 : ¬ (j : Int) = 3:=h7
  obtain rfl : j = 0:=by omega
  refine aS ?_
  exact Qn () trivial (by rw [kok0];exact aSx) (fun w h=>h.ent aEt)
 intro _ _
 refine aS7 ?_
 refine Qd rfl (fun h16=>?_) fun h16=>?_
 ·try simp only [Bool.not_eq_true'] at h16
  have hz : XM (j : Int) s = 3:=by have hq:=h16;unfold XM;rw [if_neg (by simpa using hq)]
  refine aS4 ?_
  exact rT rfl rfl (fun w' h'=>⟨by rw [hz];rfl,h'.below⟩)
 try simp only [Bool.not_eq_false'] at h16
 have hz : XM (j : Int) s = 0:=by have hq:=h16;unfold XM;rw [if_pos (by simpa using hq)]
 refine aS5 ?_
 exact rT rfl rfl (fun w' h'=>⟨by rw [hz];rfl,h'.below⟩)
theorem Qq9 : QT Tryz.prog 26 = true:=by kernel_rfl
theorem c19 (w : World) (j : Nat) (x : TEnt) (hj : j ≤ 3) (hm : x.key.length ≤ 1000000) : Calls Tryz.prog 19 #[.int .i64 (j : Int),.agg #[.string (bs x.key),.string (bs x.val)]] w fun en w'=>en = .returned (.int .i64 (X7 (j : Int) x)) ∧ Below w.heap.size w w':=by
 refine enter (args:=[_,_]) Tryz.func19 Tryz.ntmps19 rfl rfl (HS.refl w []) ?_
 refine aS2 ?_
 refine oBx fun b1 _=>?_
 refine aS8 ?_
 refine o_q (Qi rfl Qq9 rfl (fun w1 h1=>c26 w1 j x.key hj hm)) rfl ?_
 refine aS7 ?_
 refine Qd rfl (fun h2=>?_) fun h2=>?_
 ·try simp only [Bool.not_eq_true',decide_eq_false_iff_not] at h2
  have h0 : ¬ XM (j : Int) x.key = 0:=h2
  have hz : X7 (j : Int) x = XM (j : Int) x.key:=by have h9:=QgU (j : Int) x;rw [if_neg h0] at h9;injection h9 with h9;injection h9 with _ h9;exact h9.symm
  refine aS5 ?_
  exact rT rfl rfl (fun w' h'=>⟨by rw [hz];rfl,h'.below⟩)
 try simp only [Bool.not_eq_false',decide_eq_true_eq] at h2
 have h0 : XM (j : Int) x.key = 0:=h2
 refine aS6 ?_
 refine o_p (XB rfl rfl Tryz.underlying9) rfl ?_
 refine aS2 ?_
 refine Qd rfl (fun h3=>?_) fun h3=>?_
 ·try simp only [dT] at h3
  have hz : X7 (j : Int) x = 8:=by have hq:=h3;unfold X7;rw [if_pos h0,if_neg (by omega)]
  refine aS4 ?_
  exact rT rfl rfl (fun w' h'=>⟨by rw [hz];rfl,h'.below⟩)
 try simp only [dN] at h3
 have hz : X7 (j : Int) x = 0:=by have hq:=h3;unfold X7;rw [if_pos h0,if_pos (by omega)]
 refine aS5 ?_
 exact rT rfl rfl (fun w' h'=>⟨by rw [hz];rfl,h'.below⟩)
theorem QhJ : QT Tryz.prog 79 = true:=by kernel_rfl
theorem Qo3 : QT Tryz.prog 80 = true:=by kernel_rfl
def mpK (j : Int) (l : List UInt8) : List UInt8:=if j = 1 then l.map Qa2 else l
theorem ZY (j : Int) (l : List UInt8) : (mpK j l).length = l.length:=by unfold mpK;split <;> simp
theorem Qot {j : Nat} (h2 : ¬ (j : Int) = 2) (h3 : ¬ (j : Int) = 3) (a b : List UInt8) : QO (j : Int) a b = X2 (mpK (j : Int) a) (mpK (j : Int) b):=by
  unfold QO mpK;rw [if_neg h2,if_neg h3];split <;> rfl
theorem Qj6 {x y : List UInt8} {k : Nat} (hx : k < x.length) (hy : k < y.length) : X2 (x.drop k) (y.drop k) = if XZ ((x.getD k 0).toNat : Int) ((y.getD k 0).toNat : Int) ≠ 0 then XZ ((x.getD k 0).toNat : Int) ((y.getD k 0).toNat : Int) else X2 (x.drop (k + 1)) (y.drop (k + 1)):=by
  rw [List.drop_eq_getElem_cons hx,List.drop_eq_getElem_cons hy,List.getD_eq_getElem?_getD,List.getD_eq_getElem?_getD,List.getElem?_eq_getElem hx,List.getElem?_eq_getElem hy];simp only [X2,Option.getD_some,XZ,UInt8.lt_iff_toNat_lt];split
  · rename_i h;rw [if_pos (by omega),if_pos (by omega)]
  · rename_i h;rw [if_neg (show ¬ ((x[k].toNat : Int) < y[k].toNat) by omega)];split
    · rename_i h2;rw [if_pos (by omega),if_pos (by omega)]
    · rename_i h2;rw [if_neg (by omega)]
theorem Ql4 {x y : List UInt8} {k : Nat} (hx : k ≤ x.length) (hy : k ≤ y.length) (h : ¬ (k < x.length ∧ k < y.length)) : X2 (x.drop k) (y.drop k) = XZ (x.length : Int) (y.length : Int):=by
  unfold XZ;rcases Nat.lt_or_ge k x.length with h1 | h1
  · have e : y.drop k = []:=List.drop_of_length_le (by omega);rw [e,List.drop_eq_getElem_cons h1,if_neg (by omega),if_pos (by omega)];rfl
  · have e : x.drop k = []:=List.drop_of_length_le h1;rw [e];rcases Nat.lt_or_ge k y.length with h2 | h2
    · rw [List.drop_eq_getElem_cons h2,if_pos (by omega)];rfl
    · have e2 : y.drop k = []:=List.drop_of_length_le h2;rw [e2,if_neg (by omega),if_neg (by omega)];rfl
theorem QjI {a : List UInt8} {k : Nat} (h : k < a.length) : (((mpK 1 a).getD k 0).toNat : Int) = QeS ((a.getD k 0).toNat : Int):=by
  unfold mpK;rw [if_pos rfl,Qd6,List.getD_eq_getElem?_getD,List.getElem?_map,List.getElem?_eq_getElem h,List.getD_eq_getElem?_getD,List.getElem?_eq_getElem h];rfl
theorem Qm7 {j : Int} (hj : ¬ j = 1) (a : List UInt8) : mpK j a = a:=by unfold mpK;rw [if_neg hj]
theorem c33 (w : World) (j : Nat) (a b : List UInt8) (hj : j ≤ 3) (hka : QW (j : Int) a = true) (hkb : QW (j : Int) b = true) (ha : a.length ≤ 1000000) (hb : b.length ≤ 1000000) : Calls Tryz.prog 33 #[.int .i64 (j : Int),.string (bs a),.string (bs b)] w fun en w'=>en = .returned (.int .i64 (QO (j : Int) a b)) ∧ Below w.heap.size w w':=by
 refine enter (args:=[_,_,_]) Tryz.func33 Tryz.ntmps33 rfl rfl (HS.refl w []) ?_
 iterate 15 refine aS ?_
 refine Qd rfl (fun h1=>?_) fun h1=>?_
 ·try simp only [dT] at h1
  obtain rfl : j = 2:=by have hq:=h1;omega
  have hl1:=QdB hka
  have hl2:=QdB hkb
  have hz : QO ((2 : Nat) : Int) a b = XZ (at4 a 0) (at4 b 0):=rfl
  refine aS3 ?_
  refine o_q (Qi rfl Qcq rfl (fun w1 h1=>by have h9:=c71 w1 a 0 4 (by omega) (by omega) (by omega);rw [QaC] at h9;exact h9)) rfl ?_
  refine aS ?_
  refine o_q (Qi rfl Qcq rfl (fun w1 h1=>by have h9:=c71 w1 b 0 4 (by omega) (by omega) (by omega);rw [QaC] at h9;exact h9)) rfl ?_
  refine o_q (Qi rfl QhJ rfl (fun w1 h1=>c79 w1 _ _)) rfl ?_
  refine aS2 ?_
  exact rT rfl rfl (fun w' h'=>⟨by rw [hz];rfl,h'.below⟩)
 try simp only [dN] at h1
 have hn2 : ¬ (j : Int) = 2:=h1
 refine aS5 ?_
 refine Qd rfl (fun h2=>?_) fun h2=>?_
 ·try simp only [dT] at h2
  obtain rfl : j = 3:=by have hq:=h2;omega
  have hl1:=QdI hka
  have hl2:=QdI hkb
  have hz : QO ((3 : Nat) : Int) a b = if XZ (at4 a 0) (at4 b 0) ≠ 0 then XZ (at4 a 0) (at4 b 0) else XZ (at4 a 4) (at4 b 4):=rfl
  refine aS4 ?_
  refine o_q (Qi rfl Qcq rfl (fun w1 h1=>by have h9:=c71 w1 a 0 4 (by omega) (by omega) (by omega);rw [QaC] at h9;exact h9)) rfl ?_
  refine aS ?_
  refine o_q (Qi rfl Qcq rfl (fun w1 h1=>by have h9:=c71 w1 b 0 4 (by omega) (by omega) (by omega);rw [QaC] at h9;exact h9)) rfl ?_
  refine o_q (Qi rfl QhJ rfl (fun w1 h1=>c79 w1 _ _)) rfl ?_
  refine aS7 ?_
  refine Qd rfl (fun h3=>?_) fun h3=>?_
  ·try simp only [Bool.not_eq_true',decide_eq_false_iff_not] at h3
   have hq9 : XZ (at4 a 0) (at4 b 0) ≠ 0:=h3
   rw [if_pos hq9] at hz
   refine aS5 ?_
   exact rT rfl rfl (fun w' h'=>⟨by rw [hz];rfl,h'.below⟩)
  try simp only [Bool.not_eq_false',decide_eq_true_eq] at h3
  have hq9 : ¬ XZ (at4 a 0) (at4 b 0) ≠ 0:=by have hq8:=h3;simpa using hq8
  rw [if_neg hq9] at hz
  refine aS4 ?_
  refine o_q (Qi rfl Qcq rfl (fun w1 h1=>by have h9:=c71 w1 a 4 4 (by omega) (by omega) (by omega);rw [QaC] at h9;exact h9)) rfl ?_
  refine aS ?_
  refine o_q (Qi rfl Qcq rfl (fun w1 h1=>by have h9:=c71 w1 b 4 4 (by omega) (by omega) (by omega);rw [QaC] at h9;exact h9)) rfl ?_
  refine o_q (Qi rfl QhJ rfl (fun w1 h1=>c79 w1 _ _)) rfl ?_
  refine aS2 ?_
  exact rT rfl rfl (fun w' h'=>⟨by rw [hz];rfl,h'.below⟩)
 try simp only [dN] at h2
 have hn3 : ¬ (j : Int) = 3:=h2
 have hmp:=Qot hn2 hn3 a b
 refine aS8 ?_
 refine QN (α:=Nat) [6,8,9,10,11,35,36,37,38,39,40,41,42,43,44,45,46,47,48,49,50,51,52,53,54,55,56,57,58,59,60,61,62,63,64,65,66] (fun k=>[(8,.int .i64 (k : Int))]) (fun _=>_) (fun k=>k ≤ a.length ∧ k ≤ b.length ∧ X2 (mpK (j : Int) a) (mpK (j : Int) b) = X2 ((mpK (j : Int) a).drop k) ((mpK (j : Int) b).drop k)) (fun k=>a.length - k) 0 ⟨Nat.zero_le _,Nat.zero_le _,rfl⟩ aSx (fun w h=>h) (fun k hx=>?_)
 obtain ⟨hk1,hk2,hk3⟩:=hx
 refine aS5 ?_
 refine o_p (XB rfl rfl Tryz.underlying9) rfl ?_
 refine aS2 ?_
 refine XD 5 39 44 _ _ rfl
  (by
   intro hg4
   have hs5:=hg4;try simp only [dT] at hs5
   refine oOn 39 hg4 ?_
   refine aS ?_
   refine oOn 39 hg4 ?_
   refine aS ?_
   refine oOn 39 hg4 ?_
   refine o_p (XB rfl rfl Tryz.underlying9) rfl ?_
   refine oOn 39 hg4 ?_
   refine aS ?_
   refine o_p (Qw rfl rfl hg4 rfl) rfl ?_
   refine aS ?_
   exact oJn 5 44)
  (by
   intro hg6
   have hs7:=hg6;try simp only [dN] at hs7
   refine oOf 39 hg6 ?_
   refine oOf 39 hg6 ?_
   refine oOf 39 hg6 ?_
   refine oOf 39 hg6 ?_
   refine o_p (Qs rfl rfl hg6 rfl) rfl ?_
   refine aS ?_
   exact oJn 5 44) ?_
 refine aS ?_
 refine Qd rfl (fun h8=>?_) fun h8=>?_
 ·try simp only [Bool.and_eq_true,decide_eq_true_eq] at h8
  obtain ⟨hka1,hkb1⟩ : k < a.length ∧ k < b.length:=by have hq:=h8;omega
  have hb1:=(a.getD k 0).toNat_lt
  have hb2:=(b.getD k 0).toNat_lt
  have hst:=Qj6 (x:=mpK (j : Int) a) (y:=mpK (j : Int) b) (k:=k) (by rw [ZY];exact hka1) (by rw [ZY];exact hkb1)
  refine aS4 ?_
  refine QE [] QH ?_
  refine dP 0 ?_
  refine dP 1 ?_
  refine dV 2 rfl (Qbf rfl rfl rfl Tryz.underlying9 (k) (by omega) (by omega)) ?_
  refine dV 3 rfl (Yk rfl rfl Qm6 Qd3) ?_
  try refine dWr ?_
  refine dP 4 ?_
  refine dP 5 ?_
  refine dV 6 rfl (Qbf rfl rfl rfl Tryz.underlying9 (k) (by omega) (by omega)) ?_
  refine dV 7 rfl (Yk rfl rfl Qm6 Qd3) ?_
  try refine dWr ?_
  refine dP 8 ?_
  refine dP 9 ?_
  refine dNi ?_
  refine aS6 ?_
  refine Qj (L':=[(0,_),(1,_),(2,_),(8,_),(9,_),(10,_),(12,_),(13,_),(14,_),(20,_),(21,_),(56,_)]) aSx (fun _ h=>h) ?_
  refine Xn (α:=Unit) [9,10,57,58,59,60] (fun _=>[(9,.int .i64 (((mpK (j : Int) a).getD k 0).toNat : Int)),(10,.int .i64 (((mpK (j : Int) b).getD k 0).toNat : Int))]) (fun _=>HS w [] []) (fun _=>True) ?_ ?_
  ·skip
   refine Qd rfl (fun h9=>?_) fun h9=>?_
   ·try simp only [dT] at h9
    obtain rfl : j = 1:=by have hq:=h9;omega
    refine aS2 ?_
    refine o_q (Qi rfl Qo3 rfl (fun w1 h1=>c80 w1 _ (by omega))) rfl ?_
    refine aS ?_
    refine o_q (Qi rfl Qo3 rfl (fun w1 h1=>c80 w1 _ (by omega))) rfl ?_
    refine aS3 ?_
    exact Qn () trivial (by rw [show (((1 : Nat) : Int)) = 1 from rfl,QjI hka1,QjI hkb1];exact aSx) (fun w h=>h.ent aEt)
   try simp only [dN] at h9
   have hn1 : ¬ (j : Int) = 1:=h9
   refine aS ?_
   exact Qn () trivial (by rw [Qm7 hn1,Qm7 hn1];exact aSx) (fun w h=>h.ent aEt)
  intro _ _
  refine aS4 ?_
  refine o_q (Qi rfl QhJ rfl (fun w1 h1=>c79 w1 _ _)) rfl ?_
  refine aS7 ?_
  refine Qd rfl (fun h10=>?_) fun h10=>?_
  ·try simp only [Bool.not_eq_true',decide_eq_false_iff_not] at h10
   have hq9 : XZ (((mpK (j : Int) a).getD k 0).toNat : Int) (((mpK (j : Int) b).getD k 0).toNat : Int) ≠ 0:=h10
   have hz:=hmp.trans (hk3.trans (hst.trans (if_pos hq9)))
   refine aS5 ?_
   exact rT rfl rfl (fun w' h'=>⟨by rw [hz];rfl,h'.below⟩)
  try simp only [Bool.not_eq_false',decide_eq_true_eq] at h10
  have hq9 : ¬ XZ (((mpK (j : Int) a).getD k 0).toNat : Int) (((mpK (j : Int) b).getD k 0).toNat : Int) ≠ 0:=by have hq8:=h10;simpa using hq8
  have hz:=hk3.trans (hst.trans (if_neg hq9))
  refine aS5 ?_
  try refine oWr ?_
  refine aS2 ?_
  exact QD (k + 1) (by omega) ⟨by omega,by omega,hz⟩ aSx (fun w h=>h)
 try simp only [Bool.and_eq_false_iff,decide_eq_false_iff_not] at h8
 have hz:=Ql4 (x:=mpK (j : Int) a) (y:=mpK (j : Int) b) (k:=k) (by rw [ZY];exact hk1) (by rw [ZY];exact hk2) (by rw [ZY,ZY];have hq:=h8;omega)
 rw [← hk3,← hmp,ZY,ZY] at hz
 refine Qu rfl ?_
 refine aS3 ?_
 refine o_p (XB rfl rfl Tryz.underlying9) rfl ?_
 refine aS ?_
 refine o_p (XB rfl rfl Tryz.underlying9) rfl ?_
 refine o_q (Qi rfl QhJ rfl (fun w1 h1=>c79 w1 _ _)) rfl ?_
 refine aS2 ?_
 exact rT rfl rfl (fun w' h'=>⟨by rw [hz];rfl,h'.below⟩)
theorem Yq : X5 Tryz.prog 24 = some [.int .i64 0,.int .i64 0,.int .i64 0,.slice none 0 0]:=by kernel_rfl
theorem Z8 : Qaw Tryz.prog 102 = some [(0,1),(1,1),(2,1)]:=by kernel_rfl
theorem Xa : X5 Tryz.prog 102 = some [.bool false,.slice none 0 0,.slice none 0 0]:=by kernel_rfl
theorem Qp : tsl Tryz.prog 22 = some (102,3,56):=by kernel_rfl
theorem QdT : Qaw Tryz.prog 24 = some [(0,1),(1,1),(2,1),(3,1)]:=by kernel_rfl
theorem Zk : tsz Tryz.prog 24 = some (4,true):=by kernel_rfl
instance : TSz Tryz.prog 24 4 true:=⟨Zk⟩
theorem c32 (w : World) (co mo rm : Int) : Calls Tryz.prog 32 #[.int .i64 co,.int .i64 mo,.int .i64 rm] w fun en w'=>∃ g : Option Addr × Nat,en = .returned (.agg #[.int .i64 co,.int .i64 mo,.int .i64 rm,.slice g.1 1 g.2]) ∧ True ∧ HS w [] [.own (.slice g.1 1 g.2) 102 3 1 [.bool true,.slice none 0 0,.slice none 0 0]] w':=by
 refine enter (args:=[_,_,_]) Tryz.func32 Tryz.ntmps32 rfl rfl (HS.refl w []) ?_
 refine aS2 ?_
 refine oAl (fun b1 _=>?_) Yq
 refine aS6 ?_
 refine o_p (Xr (cs:=[_,_,_]) rfl rfl Z8 Xa rfl) rfl ?_
 refine o_h (Qr (cs:=[_,_,_]) rfl rfl Qp Xa rfl rfl rfl) rfl (fun b2 _=>?_)
 refine o_p (Xr (cs:=[_,_,_,_]) rfl rfl QdT Yq rfl) rfl ?_
 refine oSt ?_
 refine aS ?_
 exact QM (rs:=[.cell 6 24]) rfl (.cell rfl Zk aPk rfl (.nil)) (fun w' h'=>⟨(some ⟨b2,0,none⟩,1),rfl,trivial,(HS.own_shut (n:=1) (cap:=1) (sz:=3) h' rfl (by decide) (by decide)).ent aEt⟩)
theorem QoP : QT Tryz.prog 78 = true:=by kernel_rfl
theorem QB : tsl Tryz.prog 77 = some (26,2,32):=by kernel_rfl
theorem XC : tsz Tryz.prog 26 = some (2,true):=by kernel_rfl
instance : TSz Tryz.prog 26 2 true:=⟨XC⟩
theorem Xm : X5 Tryz.prog 26 = some [.string (bs []),.string (bs [])]:=by kernel_rfl
instance : TFd Tryz.prog 112 0 0 24:=⟨by kernel_rfl⟩
instance : TFd Tryz.prog 24 1 1 3:=⟨by kernel_rfl⟩
theorem Xq : tsz Tryz.prog 3 = some (1,false):=by kernel_rfl
instance : TSz Tryz.prog 3 1 false:=⟨Xq⟩
instance : TFd Tryz.prog 24 2 2 3:=⟨by kernel_rfl⟩
theorem Yd : tsz Tryz.prog 103 = some (1,false):=by kernel_rfl
instance : TSz Tryz.prog 103 1 false:=⟨Yd⟩
instance : TFd Tryz.prog 24 0 0 3:=⟨by kernel_rfl⟩
theorem Qpe : QT Tryz.prog 91 = true:=by kernel_rfl
instance : TFd Tryz.prog 112 1 4 110:=⟨by kernel_rfl⟩
instance : TFd Tryz.prog 102 1 1 77:=⟨by kernel_rfl⟩
theorem Xb : tsz Tryz.prog 77 = some (1,false):=by kernel_rfl
instance : TSz Tryz.prog 77 1 false:=⟨Xb⟩
def tbV (co mo rm : Int) (a : Option Addr) (n cap : Nat) : List Value:=[.int .i64 co,.int .i64 mo,.int .i64 rm,.slice a n cap,Qag (Qdd co),Qag (Qc2 co)]
def TbR (w : World) (M : List Nat) (bt : Nat) (co mo rm : Int) (a : Option Addr) (n cap : Nat) : Prop:=∀ k v,(tbV co mo rm a n cap)[k]? = some v → Rd w M bt k v
section
variable {w w' : World} {M M' : List Nat} {As As' : List HA} {bt : Nat} {co mo rm : Int} {a : Option Addr} {n cap : Nat}
theorem TbR.next (h : TbR w M bt co mo rm a n cap) (hs : HS w M As w') : TbR w' [] bt co mo rm a n cap:=fun k v hv=>(h k v hv).next hs
theorem TbR.keep (h : TbR w M bt co mo rm a n cap) (hs : HS w M As w') : TbR w' (fps As) bt co mo rm a n cap:=fun k v hv=>hs.keep (h k v hv)
theorem TbR.mono (h : TbR w M bt co mo rm a n cap) (hM : ∀ b ∈ M',b ∈ M) : TbR w M' bt co mo rm a n cap:=fun k v hv=>(h k v hv).mono hM
theorem HS.tbr {w0 : World} {tot t : Nat} (h : HS w0 M As w) (hp : QG As (.blk bt t tot (tbV co mo rm a n cap)) As') : TbR w [] bt co mo rm a n cap:=fun k v hv=>h.rd_blk (Mc:=[]) hp hv (by simp)
end
def Qgo (co mo rm : Int) : Tre:=if (if Q5 co = 0 then Yl mo rm else Q5 co) = 0 then ⟨co,mo,rm,[⟨true,[],[]⟩]⟩ else ⟨0,0,0,[]⟩
theorem Qkv {w0 w : World} {M : List Nat} {As : List HA} (et nt : Nat) (h : HS w0 M As w) : HS w0 M (.nodes et nt none 0 [] :: As) w:=by
  have h1 : HS w0 M (.own (.slice none 0 0) nt 3 0 [] :: .star [] :: As) w:=(h.star_nil).own_nil nt 3;exact HS.row_shut (l:=([] : List LNd)) h1 rfl rfl
theorem Qj9 {w0 w : World} {M : List Nat} {As : List HA} {a : Option Addr} {cap nt : Nat} (et : Nat) (h : HS w0 M (.own (.slice a 1 cap) nt 3 1 [.bool true,.slice none 0 0,.slice none 0 0] :: As) w) : HS w0 M (.nodes et nt a cap [⟨true,none,0,[],none,0,[]⟩] :: As) w:=by
  have h1 : HS w0 M (.star ([(⟨true,none,0,[],none,0,[]⟩ : LNd)].map (Qk et)) :: As) w:=HS.star_close (Bs:=[_]) (HS.star_close (Bs:=[_,_]) ((h.tail.own_nil 3 1).own_nil et 2));have h2 : HS w0 M (.star [] :: .own (.slice a 1 cap) nt 3 1 [.bool true,.slice none 0 0,.slice none 0 0] :: As) w:=h.star_nil
  have h3 : HS w0 M (.own (.slice a 1 cap) nt 3 1 [.bool true,.slice none 0 0,.slice none 0 0] :: .star ([(⟨true,none,0,[],none,0,[]⟩ : LNd)].map (Qk et)) :: As) w:=
    HS.perm (HS.star_close (Bs:=[_]) (HS.star_close (Bs:=[_,_]) ((h.own_nil 3 1).own_nil et 2))) (List.Perm.swap ..)
  exact HS.row_shut (l:=[(⟨true,none,0,[],none,0,[]⟩ : LNd)]) h3 rfl rfl
theorem c29 (w : World) (co mo rm : Int) : Calls Tryz.prog 29 #[.int .i64 co,.int .i64 mo,.int .i64 rm] w fun en w'=>∃ g : (Option Addr × Nat) × List LNd,en = .returned (.tuple #[.agg #[.int .i64 (Qgo co mo rm).co,.int .i64 (Qgo co mo rm).mo,.int .i64 (Qgo co mo rm).rm,.slice g.1.1 g.2.length g.1.2],.int .i64 (if Q5 co = 0 then Yl mo rm else Q5 co)]) ∧ pln g.2 = (Qgo co mo rm).ns ∧ HS w [] [.nodes 26 102 g.1.1 g.1.2 g.2] w':=by
 refine enter (args:=[_,_,_]) Tryz.func29 Tryz.ntmps29 rfl rfl (HS.refl w []) ?_
 refine aS2 ?_
 refine oAl (fun b1 _=>?_) Yq
 refine aS8 ?_
 refine o_q (Qi rfl QoP rfl (fun w1 h1=>c78 w1 _ _ _)) rfl ?_
 refine aS7 ?_
 refine Qd rfl (fun h2=>?_) fun h2=>?_
 ·try simp only [Bool.not_eq_true',decide_eq_false_iff_not] at h2
  have hz : Qgo co mo rm = ⟨0,0,0,[]⟩:=by unfold Qgo;rw [if_neg h2]
  refine aS2 ?_
  refine o_p (Xr (cs:=[_,_,_,_]) rfl rfl QdT Yq rfl) rfl ?_
  refine aS ?_
  refine oSt ?_
  refine aS2 ?_
  exact QM (rs:=[.cell 6 24,.tmp 7]) rfl (.cell rfl Zk aPk rfl (.tmp rfl (.nil))) (fun w' h'=>⟨((none,0),[]),by rw [hz];rfl,by rw [hz];rfl,(Qkv 26 102 h'.nil).ent aEt⟩)
 try simp only [Bool.not_eq_false',decide_eq_true_eq] at h2
 have hz : Qgo co mo rm = ⟨co,mo,rm,[⟨true,[],[]⟩]⟩:=by unfold Qgo;rw [if_pos h2]
 refine aS6 ?_
 refine o_p (Xr (cs:=[_,_,_]) rfl rfl Z8 Xa rfl) rfl ?_
 refine o_h (Qr (cs:=[_,_,_]) rfl rfl Qp Xa rfl rfl rfl) rfl (fun b3 _=>?_)
 refine o_p (Xr (cs:=[_,_,_,_]) rfl rfl QdT Yq rfl) rfl ?_
 refine oSt ?_
 refine aS2 ?_
 exact QM (rs:=[.cell 6 24,.tmp 7]) rfl (.cell rfl Zk aPk rfl (.tmp rfl (.nil))) (fun w' h'=>⟨((some ⟨b3,0,none⟩,1),[⟨true,none,0,[],none,0,[]⟩]),by rw [hz,h2];rfl,by rw [hz];rfl,(Qj9 26 (HS.own_shut (n:=1) (cap:=1) (sz:=3) (h'.ent (Bs:=[.blk b3 102 (1 * 3) [.bool true,.slice none 0 0,.slice none 0 0]]) aEt) rfl (by decide) (by decide))).ent aEt⟩)
theorem c89 (w : World) (a : Option Addr) (cap : Nat) (l : List TEnt) (q : Nat) (cv : Array Value) (es : List Int) (hs : Rw TEnt.vals 2 w [] a l) (hm : l.length ≤ 1000000) (hq : QT Tryz.prog q = true) (he : es.length = l.length) (hc : ∀ k w1,k < l.length → (∀ j,j < k → es.getD j 0 = 0) → HS w [] [] w1 → Calls Tryz.prog q (#[] ++ [.int .i64 (k : Int),.agg (TEnt.vals (nth l k)).toArray].toArray ++ cv) w1 fun en w2=>en = .returned (.int .i64 (es.getD k 0)) ∧ Below w1.heap.size w1 w2) : Calls Tryz.prog 89 #[.slice a l.length cap,.func (.func q) #[] cv] w fun en w'=>en = .returned (.tuple #[.int .i64 (XQ es 0).1,.int .i64 (XQ es 0).2]) ∧ Below w.heap.size w w':=by
 refine enter (args:=[_,_]) Tryz.func89 Tryz.ntmps89 rfl rfl (HS.refl w []) ?_
 iterate 13 refine aS ?_
 refine QN (α:=Nat) [4,5,6,7,8,11,12,13,14,15,16,17,18,19,20,21,22,23,24] (fun k=>[(11,.int .i64 (k : Int))]) (fun _=>HS w [] []) (fun k=>k ≤ l.length ∧ XQ es 0 = XQ (es.drop k) k ∧ ∀ j,j < k → es.getD j 0 = 0) (fun k=>l.length - k) 0 ⟨by omega,rfl,fun i h=>absurd h (Nat.not_lt_zero i)⟩ aSx (fun w h=>h.ent aEt) (fun k hk=>?_)
 obtain ⟨hk1,hk2,hk3⟩:=hk
 refine aS5 ?_
 refine Qd rfl (fun h1=>?_) fun h1=>?_
 ·try simp only [dT] at h1
  refine aS6 ?_
  refine o_p (Qa rfl rfl rfl QB (k) (by omega) (by omega) (Rw.some hs (by omega))) rfl ?_
  refine o_q (QY _ rfl rfl XC rfl (Rw.rd hs (by omega))) rfl ?_
  refine oAl (fun b2 _=>?_) Xm
  refine aS ?_
  refine oSt ?_
  refine aS6 ?_
  refine o_q (Yb rfl rfl hq rfl (fun w1 h1=>hc k w1 (by omega) hk3 (h1.ent aEt))) rfl ?_
  refine aS7 ?_
  refine Qd rfl (fun h3=>?_) fun h3=>?_
  ·try simp only [Bool.not_eq_true',decide_eq_false_iff_not] at h3
   refine aS7 ?_
   exact QM (rs:=[.tmp 4,.tmp 5]) rfl (.tmp rfl (.tmp rfl (.nil))) (fun w' h'=>⟨by simp only [Xw];rw [hk2,ZO (by omega),if_neg (by assumption)],h'.below⟩)
  try simp only [Bool.not_eq_false',decide_eq_true_eq] at h3
  refine aS4 ?_
  try refine oWr ?_
  refine aS2 ?_
  exact QD (k+1) (by omega) ⟨by omega,by rw [hk2,ZO (by omega),if_pos (by assumption)],fun j hj=>(Nat.lt_or_ge j k).elim (hk3 j) (fun h=>by obtain rfl : j = k:=(by omega);assumption)⟩ aSx (fun w h=>h.ent aEt)
 try simp only [dN] at h1
 refine Qu rfl ?_
 refine aS5 ?_
 exact QM (rs:=[.tmp 4,.tmp 5]) rfl (.tmp rfl (.tmp rfl (.nil))) (fun w' h'=>⟨by simp only [Xw];rw [hk2,Qj4 (by omega)],h'.below⟩)
theorem Qqr (w : World) (bt : Nat) (j : Nat) (mo rm : Int) (a : Option Addr) (n cap : Nat) (hmo : 0 ≤ mo ∧ mo ≤ 1000) (ht : TbR w [] bt (j : Int) mo rm a n cap) : Calls Tryz.prog 105 #[.pointer (some ⟨bt,0,none⟩)] w fun en w'=>en = .returned (.int .i64 (mo / 2)) ∧ Below w.heap.size w w':=by
 refine enter (args:=[_]) Tryz.func105 Tryz.ntmps105 rfl rfl (HS.refl w []) ?_
 refine Zf ?_
 refine o_q (Qe rfl rfl Xq (ht 1 _ rfl)) rfl ?_
 refine o_p (YA rfl rfl rfl (by omega) (by omega) (by omega)) rfl ?_
 refine aS2 ?_
 exact rT rfl rfl (fun w' h'=>⟨rfl,h'.below⟩)
theorem c118 (w : World) (bt : Nat) (j : Nat) (mo rm : Int) (a : Option Addr) (n cap : Nat) (i : Nat) (ht : TbR w [] bt (j : Int) mo rm a n cap) : Calls Tryz.prog 118 #[.pointer (some ⟨bt,0,none⟩),.int .i64 (i : Int)] w fun en w'=>en = .returned (.int .i64 (Yh mo rm i)) ∧ Below w.heap.size w w':=by
 refine enter (args:=[_,_]) Tryz.func118 Tryz.ntmps118 rfl rfl (HS.refl w []) ?_
 refine Zf ?_
 refine Qd rfl (fun h1=>?_) fun h1=>?_
 ·try simp only [dT] at h1
  obtain rfl : i = 0:=by have hq:=h1;omega
  refine aS6 ?_
  refine o_q (Qe rfl rfl Xq (ht 2 _ rfl)) rfl ?_
  refine aS2 ?_
  exact rT rfl rfl (fun w' h'=>⟨by rfl,h'.below⟩)
 try simp only [dN] at h1
 have hn0 : ¬ i = 0:=by have hq:=h1;omega
 refine aS7 ?_
 refine o_q (Qe rfl rfl Xq (ht 1 _ rfl)) rfl ?_
 refine aS2 ?_
 exact rT rfl rfl (fun w' h'=>⟨by simp only [Xw,Yh];rw [if_neg hn0],h'.below⟩)
theorem c119 (w : World) (c0 : Nat) (k : Int) (x : TEnt) (bt : Nat) (j : Nat) (mo rm : Int) (a : Option Addr) (n cap : Nat) (hj : j ≤ 3) (hx : x.key.length ≤ 1000000) (hc0 : Rd w [] c0 0 (.pointer (some ⟨bt,0,none⟩))) (ht : TbR w [] bt (j : Int) mo rm a n cap) : Calls Tryz.prog 119 #[.int .i64 k,.agg #[.string (bs x.key),.string (bs x.val)],.pointer (some ⟨c0,0,none⟩)] w fun en w'=>en = .returned (.int .i64 (X7 (j : Int) x)) ∧ Below w.heap.size w w':=by
 refine enter (args:=[_,_,_]) Tryz.func119 Tryz.ntmps119 rfl rfl (HS.refl w []) ?_
 refine aS2 ?_
 refine oBx fun b1 _=>?_
 refine aS3 ?_
 refine QE [] QH ?_
 refine dQ 0 [] rfl (Qe rfl rfl Yd (hc0)) ?_
 refine dP 1 ?_
 refine dFa 2 ?_
 refine dFa 3 ?_
 refine dQ 4 [] rfl (Qe rfl rfl Xq (ht 0 _ rfl)) ?_
 refine dLn 5 [] ?_
 refine dQ 6 [] rfl (Qi rfl Qpe rfl (fun w1 h1=>c91 w1 j x hj hx)) ?_
 refine dP 7 ?_
 refine dNi ?_
 exact rT rfl rfl (fun w' h'=>⟨rfl,h'.below⟩)
theorem c122 (w : World) (c0 c7 : Nat) (k : Nat) (us : Bool) (ea : Option Addr) (ec : Nat) (es : List TEnt) (kids : Value) (bt : Nat) (j : Nat) (mo rm : Int) (a : Option Addr) (n cap : Nat) (hj : j ≤ 3) (hk : k < es.length) (hl : es.length ≤ 1000000) (hx : ∀ x ∈ es,QW (j : Int) x.key = true ∧ x.key.length ≤ 1000000) (hc0 : Rd w [] c0 0 (.pointer (some ⟨bt,0,none⟩))) (hc7 : Rd w [] c7 1 (.slice ea es.length ec)) (hes : Rw TEnt.vals 2 w [] ea es) (ht : TbR w [] bt (j : Int) mo rm a n cap) : Calls Tryz.prog 122 #[.int .i64 (k : Int),.agg #[.string (bs (nth es k).key),.string (bs (nth es k).val)],.pointer (some ⟨c0,0,none⟩),.pointer (some ⟨c7,0,none⟩)] w fun en w'=>en = .returned (.int .i64 (Qaa (j : Int) es k)) ∧ Below w.heap.size w w':=by
 refine enter (args:=[_,_,_,_]) Tryz.func122 Tryz.ntmps122 rfl rfl (HS.refl w []) ?_
 refine aS2 ?_
 refine oBx fun b1 _=>?_
 refine aS3 ?_
 refine QE [] QH ?_
 refine dP 0 ?_
 refine dP 1 ?_
 refine dP 2 ?_
 apply Xy 9
 ·exact rfl
 ·intro hg2
  have hs3:=hg2;try simp only [dT] at hs3
  refine dOf 3 9 hg2 ?_
  refine dOf 4 9 hg2 ?_
  refine dOf 5 9 hg2 ?_
  refine dOf 6 9 hg2 ?_
  refine dOf 7 9 hg2 ?_
  refine dOf 8 9 hg2 ?_
  refine dOf 9 9 hg2 ?_
  refine dOf 10 9 hg2 ?_
  refine dOf 11 9 hg2 ?_
  refine dOf 12 9 hg2 ?_
  refine dOf 13 9 hg2 ?_
  refine dOf 14 9 hg2 ?_
  refine dOf 15 9 hg2 ?_
  refine dOf 16 9 hg2 ?_
  refine dOf 17 9 hg2 ?_
  refine dOf 18 9 hg2 ?_
  refine dOf 19 9 hg2 ?_
  refine dV 20 rfl (Qw rfl rfl hg2 rfl) ?_
  refine dQ 21 [] rfl (Qi rfl Zt rfl (fun w1 h1=>c81 w1 _ _)) ?_
  refine dP 22 ?_
  refine dNi ?_
  exact rT rfl rfl (fun w' h'=>⟨by simp only [Xw,Qaa];first | (split <;> simp_all <;> done) | (simp_all;done) | (grind),h'.below⟩)
 intro hg4
 have hs5:=hg4;try simp only [dN] at hs5
 refine dQo 3 9 [] hg4 rfl rfl rfl (Qe rfl rfl Yd (hc0)) ?_
 refine dPo 4 9 hg4 ?_
 refine dFo 5 9 hg4 ?_
 refine dFo 6 9 hg4 ?_
 refine dQo 7 9 [] hg4 rfl rfl rfl (Qe rfl rfl Qa5 (ht 5 _ rfl)) ?_
 refine dFo 8 9 hg4 ?_
 refine dQo 9 9 [] hg4 rfl rfl rfl (Qe rfl rfl Xb (hc7)) ?_
 refine dPo 10 9 hg4 ?_
 refine dPo 11 9 hg4 ?_
 try refine dWr ?_
 refine dVo 12 9 hg4 rfl rfl rfl (Qnn rfl rfl rfl ) ?_
 refine dVo 13 9 hg4 rfl rfl rfl (Qa rfl rfl rfl QB (k - 1) (by omega) (by omega) (Rw.some hes (by omega))) ?_
 refine dFo 14 9 hg4 ?_
 refine dQo 15 9 [] hg4 rfl rfl rfl (Qe rfl rfl Zb ((hes.rdj (i:=k - 1) 0 (by omega) rfl))) ?_
 refine dFo 16 9 hg4 ?_
 refine dQo 17 9 [] hg4 rfl rfl rfl (XW rfl rfl Zb aPk rfl) ?_
 refine dQo 18 9 [] hg4 rfl rfl rfl (Yb rfl rfl (Qb4 _) rfl (fun w1 h1=>Ze w1 j (nth es (k - 1)).key (nth es k).key hj (hx _ (Q1 (by omega))).1 (hx _ (Q1 hk)).1 (hx _ (Q1 (by omega))).2 (hx _ (Q1 hk)).2)) ?_
 refine dPo 19 9 hg4 ?_
 refine dV 20 rfl (Qs rfl rfl hg4 rfl) ?_
 refine dQ 21 [] rfl (Qi rfl Zt rfl (fun w1 h1=>c81 w1 _ _)) ?_
 refine dP 22 ?_
 refine dNi ?_
 exact rT rfl rfl (fun w' h'=>⟨by simp only [Xw,Qaa];first | (split <;> simp_all <;> done) | (simp_all;done) | (grind),h'.below⟩)
theorem Qnl : tki Tryz.prog 191 = some .u64:=by kernel_rfl
instance : TFd Tryz.prog 24 3 3 22:=⟨by kernel_rfl⟩
theorem YD : tsz Tryz.prog 22 = some (1,false):=by kernel_rfl
instance : TSz Tryz.prog 22 1 false:=⟨YD⟩
theorem Qpy : QT Tryz.prog 138 = true:=by kernel_rfl
theorem Qv : tsl Tryz.prog 30 = some (3,1,8):=by kernel_rfl
theorem X8 : X5 Tryz.prog 3 = some [.int .i64 0]:=by kernel_rfl
theorem QqK : QT Tryz.prog 102 = true:=by kernel_rfl
instance : TFd Tryz.prog 102 2 2 30:=⟨by kernel_rfl⟩
theorem Q8 : tsz Tryz.prog 30 = some (1,false):=by kernel_rfl
instance : TSz Tryz.prog 30 1 false:=⟨Q8⟩
theorem c138 (w : World) (a : Option Addr) (cap : Nat) (l : List TEnt) (q : Nat) (cv : Array Value) (cs : List Int) (key : List UInt8) (hs : Rw TEnt.vals 2 w [] a l) (hm : l.length ≤ 1000000) (hq : QT Tryz.prog q = true) (hb : cs.length = l.length) (hc : ∀ k w1,k < l.length → HS w [] [] w1 → Calls Tryz.prog q (#[] ++ [.agg (TEnt.vals (nth l k)).toArray,.string (bs key)].toArray ++ cv) w1 fun en w2=>en = .returned (.int .i64 (cs.getD k 0)) ∧ Below w1.heap.size w1 w2) : Calls Tryz.prog 138 #[.slice a l.length cap,.string (bs key),.func (.func q) #[] cv] w fun en w'=>en = .returned (.tuple #[.int .i64 (bsL cs : Int),.bool (Qoe cs)]) ∧ Below w.heap.size w w':=by
 refine enter (args:=[_,_,_]) Tryz.func138 Tryz.ntmps138 rfl rfl (HS.refl w []) ?_
 iterate 19 refine aS ?_
 refine QN (α:=Nat × Nat × Nat) [9,10,11,15,16,17,18,19,20,21,22,23,24,25,26,27,28,29,30,31,32,33,34] (fun x=>[(9,.int .i64 (x.2.1 : Int)),(10,.int .i64 (x.2.2 : Int))]) (fun _=>_) (fun x=>x.2.1 ≤ x.2.2 ∧ x.2.2 ≤ l.length ∧ x.2.2 - x.2.1 ≤ x.1 ∧ bsC cs x.1 x.2.1 x.2.2 = bsL cs) (fun x=>x.1) (l.length,0,l.length) ⟨by simp,by simp,by simp,by rw [← hb];rfl⟩ aSx (fun w h=>h.ent aEt) (fun ⟨m,lo,hi⟩ hx=>?_)
 dsimp only
 obtain ⟨hx1,hx2,hx3,hx4⟩:=hx
 simp only [] at hx1 hx2 hx3 hx4
 refine aS7 ?_
 refine Qd rfl (fun h1=>?_) fun h1=>?_
 ·try simp only [dT] at h1
  refine aS7 ?_
  try refine oWr ?_
  refine o_p (Yk rfl rfl Qd3 Qnl) rfl ?_
  rw [show IntKind.u64.wrap ((lo : Int) + (hi : Int)) = ((lo + hi : Nat) : Int) from QpL _ (by omega)]
  refine o_p (Qr4 rfl rfl rfl (by decide) 1 rfl) rfl ?_
  refine o_p (Yk rfl rfl Qnl Qd3) rfl ?_
  try refine oWr ?_
  refine Qm (show _ = Value.int .i64 (((lo + hi) / 2 : Nat) : Int) from by congr 1) ?_
  obtain ⟨q2,hq1,hq2⟩:=Qmt (cs:=cs) (show lo < hi by omega) hx3
  refine aS7 ?_
  refine o_p (Qa rfl rfl rfl QB ((lo + hi) / 2) (by omega) (by omega) (Rw.some hs (by omega))) rfl ?_
  refine o_q (QY _ rfl rfl XC rfl (Rw.rd hs (i:=(lo + hi) / 2) (by omega))) rfl ?_
  refine aS ?_
  refine o_q (Yb rfl rfl hq rfl (fun w1 h1=>hc ((lo + hi) / 2) w1 (by omega) (h1.ent aEt))) rfl ?_
  refine aS2 ?_
  refine Qd rfl (fun h2=>?_) fun h2=>?_
  ·try simp only [dT] at h2
   refine aS3 ?_
   try refine oWr ?_
   refine aS3 ?_
   exact QD (q2,(lo + hi) / 2 + 1,hi) (by (try simp only []);omega) ⟨by (try simp only []);omega,hx2,by (try simp only []);omega,by simp only [];rw [← hx4,hq2,if_pos h2]⟩ (by refine Qcl (congrArg (fun e=>some (Value.int .i64 e)) (show (((lo + hi) / 2 : Nat) : Int) + 1 = (((lo + hi) / 2 + 1 : Nat) : Int) by omega)) ?_;repeat (first | exact Qgl | refine Qcl rfl ?_)) (fun w h=>h.ent aEt)
  try simp only [dN] at h2
  refine aS5 ?_
  exact QD (q2,lo,(lo + hi) / 2) (by (try simp only []);omega) ⟨by (try simp only []);omega,by (try simp only []);omega,by (try simp only []);omega,by simp only [];rw [← hx4,hq2,if_neg h2]⟩ aSx (fun w h=>h.ent aEt)
 try simp only [dN] at h1
 refine Qu rfl ?_
 refine aS3 ?_
 have hlo : bsL cs = lo:=by rw [← hx4,Qnv _ _ _ _ (by omega)]
 refine aS4 ?_
 refine XD 9 39 48 _ _ rfl
  (by
   intro hg3
   have hs4:=hg3;try simp only [dT] at hs4
   refine oOn 39 hg3 ?_
   refine aS ?_
   refine oOn 39 hg3 ?_
   refine aS ?_
   refine oOn 39 hg3 ?_
   refine aS ?_
   refine oOn 39 hg3 ?_
   refine o_p (Qa rfl rfl rfl QB (lo) (by omega) (by omega) (Rw.some hs (by omega))) rfl ?_
   refine oOn 39 hg3 ?_
   refine o_q (QY _ rfl rfl XC rfl (Rw.rd hs (i:=lo) (by omega))) rfl ?_
   refine oOn 39 hg3 ?_
   refine aS ?_
   refine oOn 39 hg3 ?_
   refine o_q (Yb rfl rfl hq rfl (fun w1 h1=>hc lo w1 (by omega) (h1.ent aEt))) rfl ?_
   refine oOn 39 hg3 ?_
   refine aS ?_
   refine o_p (Qw rfl rfl hg3 rfl) rfl ?_
   refine aS ?_
   exact oJn 9 48)
  (by
   intro hg5
   have hs6:=hg5;try simp only [dN] at hs6
   refine oOf 39 hg5 ?_
   refine oOf 39 hg5 ?_
   refine oOf 39 hg5 ?_
   refine oOf 39 hg5 ?_
   refine oOf 39 hg5 ?_
   refine oOf 39 hg5 ?_
   refine oOf 39 hg5 ?_
   refine oOf 39 hg5 ?_
   refine o_p (Qs rfl rfl hg5 rfl) rfl ?_
   refine aS ?_
   exact oJn 9 48) ?_
 refine aS3 ?_
 exact QM (rs:=[.tmp 6,.tmp 7]) rfl (.tmp rfl (.tmp rfl (.nil))) (fun w' h'=>⟨by simp only [Xw,Qoe,hlo];first | (rw [hb];simp;done) | (have : ¬ lo < cs.length:=(by omega);simp [this];done) | (have : lo < cs.length:=(by omega);simp [this];done) | (have : lo < cs.length:=(by omega);have hl9 : lo < l.length:=(by omega);simp only [this,hl9,decide_true,Bool.true_and,Bool.and_true];rfl) | (have : lo < cs.length:=(by omega);have hl9 : lo < l.length:=(by omega);simp [this,hl9]),h'.below⟩)
theorem c139 (w : World) (c0 : Nat) (x : TEnt) (key : List UInt8) (bt : Nat) (j : Nat) (mo rm : Int) (a : Option Addr) (n cap : Nat) (hj : j ≤ 3) (hx : QW (j : Int) x.key = true) (hk : QW (j : Int) key = true) (hxl : x.key.length ≤ 1000000) (hkl : key.length ≤ 1000000) (hc0 : Rd w [] c0 0 (.pointer (some ⟨bt,0,none⟩))) (ht : TbR w [] bt (j : Int) mo rm a n cap) : Calls Tryz.prog 139 #[.agg #[.string (bs x.key),.string (bs x.val)],.string (bs key),.pointer (some ⟨c0,0,none⟩)] w fun en w'=>en = .returned (.int .i64 (QO (j : Int) x.key key)) ∧ Below w.heap.size w w':=by
 refine enter (args:=[_,_,_]) Tryz.func139 Tryz.ntmps139 rfl rfl (HS.refl w []) ?_
 refine aS2 ?_
 refine oBx fun b1 _=>?_
 refine aS3 ?_
 refine QE [] QH ?_
 refine dQ 0 [] rfl (Qe rfl rfl Yd (hc0)) ?_
 refine dP 1 ?_
 refine dFa 2 ?_
 refine dFa 3 ?_
 refine dQ 4 [] rfl (Qe rfl rfl Qa5 (ht 5 _ rfl)) ?_
 refine dFa 5 ?_
 refine dLd 6 [] ?_
 refine dP 7 ?_
 refine dQ 8 [] rfl (Yb rfl rfl (Qb4 _) rfl (fun w1 h1=>Ze w1 j x.key key hj hx hk hxl hkl)) ?_
 refine dP 9 ?_
 refine dNi ?_
 exact rT rfl rfl (fun w' h'=>⟨rfl,h'.below⟩)
theorem c102 (w : World) (bt : Nat) (j : Nat) (mo rm : Int) (a : Option Addr) (cap : Nat) (L : List LNd) (key : List UInt8) (i : Nat) (hj : j ≤ 3) (hi : i < L.length) (hl : L.length ≤ 1000) (hel : (nth L i).es.length ≤ 1000) (hK : ∀ i,i < L.length → ∀ x ∈ (nth L i).es,QW (j : Int) x.key = true ∧ x.key.length ≤ 1000000) (hk : QW (j : Int) key = true) (hkl : key.length ≤ 1000000) (hasc : Asc (j : Int) (nth L i).es) (hs : Nt w [] a L) (ht : TbR w [] bt (j : Int) mo rm a L.length cap) : Calls Tryz.prog 102 #[.pointer (some ⟨bt,0,none⟩),.int .i64 (i : Int),.string (bs key)] w fun en w'=>en = .returned (.tuple #[.int .i64 (plc (j : Int) (nth L i).es key : Int),.bool (fnd (j : Int) (nth L i).es key)]) ∧ Below w.heap.size w w':=by
 refine enter (args:=[_,_,_]) Tryz.func102 Tryz.ntmps102 rfl rfl (HS.refl w []) ?_
 refine aS2 ?_
 refine oBx fun b1 _=>?_
 refine aS9 ?_
 refine o_q (Qe rfl rfl YD (ht 3 _ rfl)) rfl ?_
 refine aS ?_
 refine o_p (Qa rfl rfl rfl Qp (i) (by omega) (by omega) (Rw.some hs.1 (by omega))) rfl ?_
 refine aS ?_
 refine o_q (Qe rfl rfl Xb ((hs.1.rdj 1 hi rfl))) rfl ?_
 refine aS2 ?_
 refine o_q (Qi rfl Qpy rfl (fun w1 h1=>by have h9:=c138 w1 (nth L i).ea (nth L i).ec (nth L i).es 139 #[.pointer (some ⟨b1,0,none⟩)] (QeO (j : Int) (nth L i).es key) key ((hs.es hi).later h1) (by omega) (by kernel_rfl) (QbF _ _ _) (fun k w2 hk9 h2=>by rw [QbH hk9];exact c139 w2 b1 (nth (nth L i).es k) key bt j mo rm a L.length cap hj (hK i hi _ (Q1 hk9)).1 hk (hK i hi _ (Q1 hk9)).2 hkl ((h1.rd_blk (Mc:=[]) aPk rfl (by simp)).next h2) ((ht.next h1).next h2));rw [Qnp hasc,QqW hasc] at h9;exact h9)) rfl ?_
 refine aS5 ?_
 exact QM (rs:=[.tmp 6,.tmp 7]) rfl (.tmp rfl (.tmp rfl (.nil))) (fun w' h'=>⟨rfl,h'.below⟩)
theorem Qe6 {co : Int} {ns : List Nd} {key : List UInt8} {f i : Nat} (h : ¬ (fnd co (nth ns i).es key = true ∨ (nth ns i).cs.length = 0)) : Zo co ns key (f + 1) i = (i :: (Zo co ns key f ((nth ns i).cs.getD (plc co (nth ns i).es key) 0).toNat).1,(Zo co ns key f ((nth ns i).cs.getD (plc co (nth ns i).es key) 0).toNat).2):=by
  rw [Zo,if_neg h]
theorem Qbz {co : Int} {ns : List Nd} {key : List UInt8} {f i : Nat} (h : fnd co (nth ns i).es key = true ∨ (nth ns i).cs.length = 0) : Zo co ns key (f + 1) i = ([i],plc co (nth ns i).es key,fnd co (nth ns i).es key):=by
  rw [Zo,if_pos h]
theorem QnY (l : List Nat) : (l.map fun i : Nat=>(i : Int)).flatMap inV = l.map fun i : Nat=>Value.int .i64 (i : Int):=by
  induction l with
  | nil=>rfl
  | cons x l ih=>
    rw [List.map_cons,List.flatMap_cons,List.map_cons,ih];rfl
theorem c68 (w : World) (bt : Nat) (j : Nat) (mo rm : Int) (a : Option Addr) (cap : Nat) (L : List LNd) (key : List UInt8) (hj : j ≤ 3) (h0 : 0 < L.length) (hB : Bd (pln L)) (hT : TOk (j : Int) (pln L)) (hK : ∀ i,i < L.length → ∀ x ∈ (nth L i).es,QW (j : Int) x.key = true ∧ x.key.length ≤ 1000000) (hk : QW (j : Int) key = true) (hkl : key.length ≤ 1000000) (hs : Nt w [] a L) (ht : TbR w [] bt (j : Int) mo rm a L.length cap) : Calls Tryz.prog 68 #[.pointer (some ⟨bt,0,none⟩),.string (bs key)] w fun en w'=>∃ g : Option Addr × Nat,en = .returned (.tuple #[.slice g.1 (Qb (j : Int) (pln L) key).1.length g.2,.int .i64 ((Qb (j : Int) (pln L) key).2.1 : Int),.bool (Qb (j : Int) (pln L) key).2.2]) ∧ True ∧ HS w [] [.kids g.1 g.2 ((Qb (j : Int) (pln L) key).1.map fun i : Nat=>(i : Int))] w':=by
 refine enter (args:=[_,_]) Tryz.func68 Tryz.ntmps68 rfl rfl (HS.refl w []) ?_
 refine QaU ?_
 refine QN (α:=(Option Addr × Nat) × List Nat × Nat × Nat) [4,5,6,7,8,9,10,11,12,13,14,15,16,17,18,19,20,21,22,23,24,25,26,27,28,29,30,31,32,33,34,35,36,37,38,39,40,41,42,43,44,45,46,47] (fun x=>[(4,.slice x.1.1 x.2.1.length x.1.2),(7,.int .i64 (x.2.2.1 : Int))]) (fun x=>HS w [] [.own (.slice x.1.1 x.2.1.length x.1.2) 3 1 x.2.1.length (x.2.1.map fun i : Nat=>Value.int .i64 (i : Int))]) (fun x=>x.2.2.1 < L.length ∧ x.2.1.length + x.2.2.2 = L.length ∧ Gx.Way (pln L) (x.2.2.1 :: x.2.1.reverse) ∧ (Qb (j : Int) (pln L) key) = (x.2.1 ++ (Zo (j : Int) (pln L) key x.2.2.2 x.2.2.1).1,(Zo (j : Int) (pln L) key x.2.2.2 x.2.2.1).2)) (fun x=>x.2.2.2) ((none,0),[],0,L.length) ⟨h0,by simp,rfl,by rw [Qb,Qc];rfl⟩ aSx (fun w h=>(h.own_nil 3 1).ent aEt) (fun ⟨⟨ga,gc⟩,P,i,f⟩ hx=>?_)
 dsimp only
 obtain ⟨hi,hlen,hway,hpath⟩:=hx
 simp only [] at hi hlen hway hpath
 have hwl:=X9 hT (by rw [Qc];exact h0) hway
 simp only [List.length_cons,List.length_reverse,Qc] at hwl
 obtain ⟨f,rfl⟩ : ∃ f9,f = f9 + 1:=⟨f - 1,by omega⟩
 have hni:=Qh hi
 have hle:=hB.len
 rw [Qc] at hle
 have hes9:=hB.es i (by rw [Qc];exact hi)
 have hcs9:=hB.cs i (by rw [Qc];exact hi)
 rw [hni] at hes9 hcs9
 have hasc:=hT.asc i (by rw [Qc];exact hi)
 rw [hni] at hasc
 refine aS5 ?_
 refine o_h (Qr (cs:=[_]) rfl rfl Qv X8 rfl rfl rfl) rfl (fun b1 _=>?_)
 refine o_h (QJ [_] rfl rfl rfl Qv Tryz.underlying30 X8 rfl aPk (Xv aPk) rfl (by intro u hu;simp only [List.mem_cons,List.mem_nil_iff,or_false] at hu;subst hu;rfl) (by omega) (by simp only [maxLen];omega)) rfl (fun b2 _=>?_)
 refine aS7 ?_
 refine o_q (Qi rfl QqK rfl (fun w1 h1=>c102 w1 bt j mo rm a cap L key i hj hi (by omega) hes9 hK hk hkl hasc (hs.later h1.nil) (ht.next h1.nil))) rfl ?_
 refine QaU ?_
 refine QaT 12 20 32 _ _ rfl
  (by
   intro hg3
   have hs4:=hg3;skip
   refine oOn 20 hg3 ?_
   refine aS ?_
   refine oOn 20 hg3 ?_
   refine aS ?_
   refine oOn 20 hg3 ?_
   refine aS ?_
   refine oOn 20 hg3 ?_
   refine aS ?_
   refine oOn 20 hg3 ?_
   refine o_q (Qe rfl rfl YD (ht 3 _ rfl)) rfl ?_
   refine oOn 20 hg3 ?_
   refine aS ?_
   refine oOn 20 hg3 ?_
   refine o_p (Qa rfl rfl rfl Qp (i) (by omega) (by omega) (Rw.some hs.1 (by omega))) rfl ?_
   refine oOn 20 hg3 ?_
   refine aS ?_
   refine oOn 20 hg3 ?_
   refine o_q (Qe rfl rfl Q8 ((hs.1.rdj 2 hi rfl))) rfl ?_
   refine oOn 20 hg3 ?_
   refine aS ?_
   refine oOn 20 hg3 ?_
   refine aS ?_
   refine o_p (Qs rfl rfl hg3 rfl) rfl ?_
   refine aS ?_
   exact oJn 12 32)
  (by
   intro hg5
   have hs6:=hg5;skip
   refine oOf 20 hg5 ?_
   refine oOf 20 hg5 ?_
   refine oOf 20 hg5 ?_
   refine oOf 20 hg5 ?_
   refine oOf 20 hg5 ?_
   refine oOf 20 hg5 ?_
   refine oOf 20 hg5 ?_
   refine oOf 20 hg5 ?_
   refine oOf 20 hg5 ?_
   refine oOf 20 hg5 ?_
   refine oOf 20 hg5 ?_
   refine o_p (Qw rfl rfl hg5 rfl) rfl ?_
   refine aS ?_
   exact oJn 12 32) ?_
 refine aS ?_
 refine Qd rfl (fun h7=>?_) fun h7=>?_
 ·try simp only [Bool.or_eq_true,decide_eq_true_eq] at h7
  have hst : fnd (j : Int) (nth (pln L) i).es key = true ∨ (nth (pln L) i).cs.length = 0:=by rw [hni];have hq:=h7;first | exact hq | (simp at hq;simpa [LNd.pl] using hq)
  refine aS9 ?_
  exact QM (rs:=[.tmp 4,.tmp 5,.tmp 6]) rfl (.tmp rfl (.tmp rfl (.tmp rfl (.nil)))) (fun w' h'=>⟨(b2.1,b2.2),by rw [hpath,Qbz hst,hni];simp [Xw,LNd.pl],trivial,by rw [hpath,Qbz hst];have h2:=h';unfold HA.kids;rw [QnY];simp only [List.length_map,List.length_append,List.length_singleton,List.map_append,List.map_cons,List.map_nil];exact h2.ent aEt⟩)
 try simp only [Bool.or_eq_false_iff,decide_eq_false_iff_not] at h7
 have hst : ¬ (fnd (j : Int) (nth (pln L) i).es key = true ∨ (nth (pln L) i).cs.length = 0):=by rw [hni];have hq:=h7;first | exact hq | (simp at hq;simpa [LNd.pl] using hq)
 have hcl : (nth L i).cs.length = (nth L i).es.length + 1:=by rcases hT.shape i (by rw [Qc];exact hi) with h9 | h9;exact absurd (.inr h9) hst;rw [hni] at h9;exact h9
 have hple:=Qac (j : Int) key (nth L i).es
 have hpk : plc (j : Int) (nth L i).es key < (nth L i).cs.length:=by omega
 have hkid:=Qa7 hT (by rw [Qc];exact hi) (i:=i) (k:=plc (j : Int) (nth L i).es key) (by rw [hni];exact hpk)
 rw [hni,Qc] at hkid
 simp only [LNd.pl] at hkid
 have hway2:=Z4 hway (by rw [Qc];exact hi) (k:=plc (j : Int) (nth L i).es key) (by rw [hni];exact hpk) (by rw [hni];simp only [LNd.pl];omega)
 rw [hni] at hway2
 simp only [LNd.pl] at hway2
 refine aS6 ?_
 refine o_q (Qe rfl rfl YD (ht 3 _ rfl)) rfl ?_
 refine aS ?_
 refine o_p (Qa rfl rfl rfl Qp (i) (by omega) (by omega) (Rw.some hs.1 (by omega))) rfl ?_
 refine aS ?_
 refine o_q (Qe rfl rfl Q8 ((hs.1.rdj 2 hi rfl))) rfl ?_
 refine aS ?_
 refine o_p (Qa rfl rfl rfl Qv (plc (j : Int) (nth L i).es key) (by omega) (by omega) (Rw.some (hs.cs hi) (by omega))) rfl ?_
 refine o_q (Qe rfl rfl Xq (((hs.cs hi).rdj 0 (i:=plc (j : Int) (nth L i).es key) hpk rfl))) rfl ?_
 refine aS3 ?_
 exact QD ((b2.1,b2.2),P ++ [i],((nth L i).cs.getD (plc (j : Int) (nth L i).es key) 0).toNat,f) (by (try simp only []);omega) ⟨by simp only [];omega,by simp only [List.length_append,List.length_singleton];omega,by simp only [List.reverse_append,List.reverse_singleton,List.singleton_append];exact hway2,by simp only [];rw [hpath,Qe6 hst];simp [hni,LNd.pl]⟩ (by simp only [List.length_append,List.length_singleton];rw [Int.toNat_of_nonneg (by omega)];exact aSx) (fun w h=>by have h2:=h;simp only [List.length_append,List.length_singleton,List.map_append,List.map_cons,List.map_nil];exact h2.ent aEt)
theorem QpS : QT Tryz.prog 121 = true:=by kernel_rfl
instance : TFd Tryz.prog 102 0 0 4:=⟨by kernel_rfl⟩
theorem QcQ : tsz Tryz.prog 4 = some (1,false):=by kernel_rfl
instance : TSz Tryz.prog 4 1 false:=⟨QcQ⟩
theorem QmB : tsz Tryz.prog 136 = some (1,false):=by kernel_rfl
theorem zv_4 : tzv Tryz.prog 4 = some (.bool false):=by kernel_rfl
abbrev KI : Int → Value:=fun n=>Value.int .i64 n
theorem QkN {ks : List Int} {c x : Int} : x ∈ Qdl ks c ↔ x = c ∨ x ∈ ks:=by
  unfold Qdl;split
  · rename_i h;constructor
    · exact fun h1=>.inr h1
    · rintro (rfl | h1)
      · exact h
      · exact h1
  · rw [List.mem_append,List.mem_singleton];exact Or.comm
theorem c121 (w : World) (i c : Int) (c0 c5 r : Nat) (ks seen : List Int) (bt : Nat) (j : Nat) (mo rm : Int) (a : Option Addr) (cap : Nat) (L : List LNd) (hw : HS w (fps [.mp r KI ks]) [.mp r KI ks] w) (hst : ∀ x,x ∈ ks ↔ x ∈ seen) (hc0 : Rd w (fps [.mp r KI ks]) c0 0 (.pointer (some ⟨bt,0,none⟩))) (hc5 : Rd w (fps [.mp r KI ks]) c5 0 (.map (some r))) (ht : TbR w (fps [.mp r KI ks]) bt (j : Int) mo rm a L.length cap) (hs : Nt w (fps [.mp r KI ks]) a L) (hl : L.length ≤ 1000) : Calls Tryz.prog 121 #[.int .i64 i,.int .i64 c,.pointer (some ⟨c0,0,none⟩),.pointer (some ⟨c5,0,none⟩)] w fun en w'=>∃ g : List Int,en = .returned (.int .i64 (Qba (pln L) c seen)) ∧ (∀ x,x ∈ g ↔ x ∈ (QcK (pln L) c seen)) ∧ HS w (fps [.mp r KI ks]) [.mp r KI g] w':=by
 refine enter (args:=[_,_,_,_]) Tryz.func121 Tryz.ntmps121 rfl rfl hw ?_
 refine aS8 ?_
 refine o_q (Qe rfl rfl Yd (hc0)) rfl ?_
 refine aS3 ?_
 refine o_q (Qe rfl rfl YD (ht 3 _ rfl)) rfl ?_
 refine aS2 ?_
 try refine oWr ?_
 refine o_q (Qi rfl Qdm rfl (fun w1 h1=>c93 w1 _ _ _)) rfl ?_
 refine aS2 ?_
 refine QaT 11 18 29 _ _ rfl
  (by
   intro hg1
   have hs2:=hg1;try simp only [Bool.not_eq_false',Bool.and_eq_true,decide_eq_true_eq] at hs2
   refine oOn 18 hg1 ?_
   refine o_q (Qe rfl rfl Yd (hc0)) rfl ?_
   refine oOn 18 hg1 ?_
   refine aS ?_
   refine oOn 18 hg1 ?_
   refine aS ?_
   refine oOn 18 hg1 ?_
   refine aS ?_
   refine oOn 18 hg1 ?_
   refine o_q (Qe rfl rfl YD (ht 3 _ rfl)) rfl ?_
   refine oOn 18 hg1 ?_
   refine aS ?_
   refine oOn 18 hg1 ?_
   refine o_p (Qa rfl rfl rfl Qp c.toNat (by omega) (by omega) (Rw.some hs.1 (by omega))) rfl ?_
   refine oOn 18 hg1 ?_
   refine aS ?_
   refine oOn 18 hg1 ?_
   refine o_q (Qe rfl rfl QcQ ((hs.1.rdj 0 (i:=c.toNat) (by omega) rfl))) rfl ?_
   refine oOn 18 hg1 ?_
   refine aS ?_
   refine o_p (Qs rfl rfl hg1 rfl) rfl ?_
   refine aS ?_
   exact oJn 11 29)
  (by
   intro hg3
   have hs4:=hg3;try simp only [Bool.not_eq_true',Bool.and_eq_false_iff,decide_eq_false_iff_not] at hs4
   refine oOf 18 hg3 ?_
   refine oOf 18 hg3 ?_
   refine oOf 18 hg3 ?_
   refine oOf 18 hg3 ?_
   refine oOf 18 hg3 ?_
   refine oOf 18 hg3 ?_
   refine oOf 18 hg3 ?_
   refine oOf 18 hg3 ?_
   refine oOf 18 hg3 ?_
   refine oOf 18 hg3 ?_
   refine o_p (Qw rfl rfl hg3 rfl) rfl ?_
   refine aS ?_
   exact oJn 11 29) ?_
 refine aS ?_
 refine Qd rfl (fun h5=>?_) fun h5=>?_
 ·try simp only [Bool.or_eq_true,Bool.not_eq_true',Bool.and_eq_false_iff,decide_eq_false_iff_not] at h5
  have hz : ¬ Qb1 (pln L) c:=by unfold Qb1;rw [Qc];intro h9;rw [Qh (by omega)] at h9;have hq:=h5;simp [LNd.pl] at h9;rcases hq with hq | hq <;> simp_all <;> omega
  refine aS4 ?_
  exact rT rfl rfl (fun w' h'=>⟨ks,by unfold Qba;rw [if_neg hz];rfl,by unfold QcK;rw [if_neg hz];exact hst,h'.ent aEt⟩)
 try simp only [Bool.or_eq_false_iff,Bool.not_eq_false',Bool.and_eq_true,decide_eq_true_eq] at h5
 have hz : Qb1 (pln L) c:=by have hq:=h5;have hq1 : 1 ≤ c ∧ c ≤ (L.length : Int) - 1:=(by first | omega | (simp at hq;omega));unfold Qb1;rw [Qc,Qh (by omega)];exact ⟨hq1,by simp only [LNd.pl];first | exact hq.2 | exact hq.2.2 | (simp at hq;first | exact hq.2 | exact hq.2.2)⟩
 refine aS3 ?_
 refine o_q (Qe rfl rfl QmB (hc5)) rfl ?_
 refine aS ?_
 refine o_q (Qmh rfl rfl rfl Tryz.underlying136 zv_4 (Qjk Qd3) aPk) rfl ?_
 refine aS ?_
 refine o_q (Qi rfl Zt rfl (fun w1 h1=>c81 w1 _ _)) rfl ?_
 refine aS4 ?_
 refine o_q (Qe rfl rfl QmB (hc5)) rfl ?_
 refine aS ?_
 refine YE (Qg4 (.inl rfl) rfl rfl rfl Tryz.underlying136 (Qjk Qd3) aPt) (fun _ _=>?_)
 refine aS6 ?_
 exact rT rfl rfl (fun w' h'=>⟨Qdl ks c,by unfold Qba;rw [if_pos hz];simp only [Xw];by_cases h9 : c ∈ seen <;> simp [h9,(hst c)],by unfold QcK;rw [if_pos hz];intro x;rw [QkN,List.mem_cons,hst],h'.ent aEt⟩)
theorem c120 (w : World) (ca : Option Addr) (cc : Nat) (cs : List Int) (c0 c5 r : Nat) (ks seen : List Int) (bt : Nat) (j : Nat) (mo rm : Int) (a : Option Addr) (cap : Nat) (L : List LNd) (hw : HS w (fps [.mp r KI ks]) [.mp r KI ks] w) (hst : ∀ x,x ∈ ks ↔ x ∈ seen) (hc0 : Rd w (fps [.mp r KI ks]) c0 0 (.pointer (some ⟨bt,0,none⟩))) (hc5 : Rd w (fps [.mp r KI ks]) c5 0 (.map (some r))) (ht : TbR w (fps [.mp r KI ks]) bt (j : Int) mo rm a L.length cap) (hs : Nt w (fps [.mp r KI ks]) a L) (hl : L.length ≤ 1000) (hcs : Rw inV 1 w (fps [.mp r KI ks]) ca cs) (hcl : cs.length ≤ 1000) : Calls Tryz.prog 120 #[.slice ca cs.length cc,.func (.func 121) #[] #[.pointer (some ⟨c0,0,none⟩),.pointer (some ⟨c5,0,none⟩)]] w fun en w'=>∃ g : Int × List Int,en = .returned (.tuple #[.int .i64 g.1,.int .i64 (XT (pln L) cs seen).1]) ∧ (∀ x,x ∈ g.2 ↔ x ∈ (XT (pln L) cs seen).2) ∧ HS w (fps [.mp r KI ks]) [.mp r KI g.2] w':=by
 refine enter (args:=[_,_]) Tryz.func120 Tryz.ntmps120 rfl rfl hw ?_
 iterate 13 refine aS ?_
 refine QN (α:=Nat × List Int × List Int) [4,5,6,7,8,11,12,13,14,15,16,17,18,19,20,21,22,23,24] (fun x=>[(11,.int .i64 (x.1 : Int))]) (fun x=>HS w (fps [.mp r KI ks]) [.mp r KI x.2.1]) (fun x=>x.1 ≤ cs.length ∧ (∀ y,y ∈ x.2.1 ↔ y ∈ x.2.2) ∧ (XT (pln L) cs seen) = XT (pln L) (cs.drop x.1) x.2.2) (fun x=>cs.length - x.1) (0,ks,seen) ⟨Nat.zero_le _,hst,rfl⟩ aSx (fun w h=>h.ent aEt) (fun ⟨k,K,S9⟩ hx=>?_)
 dsimp only
 obtain ⟨hk1,hk2,hk3⟩:=hx
 simp only [] at hk1 hk2 hk3
 refine aS5 ?_
 refine Qd rfl (fun h1=>?_) fun h1=>?_
 ·try simp only [dT] at h1
  have hkl : k < cs.length:=by omega
  refine aS6 ?_
  refine o_p (Qa rfl rfl rfl Qv (k) (by omega) (by omega) (Rw.some hcs (by omega))) rfl ?_
  refine o_q (Qe rfl rfl Xq ((hcs.rdj 0 (i:=k) (by omega) rfl))) rfl ?_
  refine aS8 ?_
  refine o_h (QgY (Cs:=[.mp r KI K]) rfl rfl QpS rfl aPs (fun w1 h1 hf=>c121 w1 (k : Int) (cs.getD k 0) c0 c5 r K S9 bt j mo rm a cap L hf hk2 (h1.keep hc0) (h1.keep hc5) (ht.keep h1) (hs.keep h1) hl)) rfl (fun b2 hkG=>?_)
  have hkg:=hkG
  refine aS7 ?_
  refine Qd rfl (fun h3=>?_) fun h3=>?_
  ·try simp only [Bool.not_eq_true',decide_eq_false_iff_not] at h3
   refine aS7 ?_
   exact QM (rs:=[.tmp 4,.tmp 5]) rfl (.tmp rfl (.tmp rfl (.nil))) (fun w' h'=>⟨((k : Int),b2),by rw [hk3,QbP hkl,QaG,if_neg h3];rfl,by rw [hk3,QbP hkl,QaG,if_neg h3];exact hkG,h'.ent aEt⟩)
  try simp only [Bool.not_eq_false',decide_eq_true_eq] at h3
  refine aS4 ?_
  try refine oWr ?_
  refine aS2 ?_
  exact QD (k + 1,b2,QcK (pln L) (cs.getD k 0) S9) (by (try simp only []);omega) ⟨by (try simp only []);omega,hkg,by simp only [];rw [hk3,QbP hkl,QaG,if_pos h3]⟩ aSx (fun w h=>h.ent aEt)
 try simp only [dN] at h1
 refine Qu rfl ?_
 refine aS5 ?_
 exact QM (rs:=[.tmp 4,.tmp 5]) rfl (.tmp rfl (.tmp rfl (.nil))) (fun w' h'=>⟨(0,K),by rw [hk3,List.drop_of_length_le (by omega)];rfl,by rw [hk3,List.drop_of_length_le (by omega)];exact hk2,h'.ent aEt⟩)
theorem Xh : tsz Tryz.prog 102 = some (3,true):=by kernel_rfl
instance : TSz Tryz.prog 102 3 true:=⟨Xh⟩
theorem QpH : QT Tryz.prog 118 = true:=by kernel_rfl
theorem QoZ : QT Tryz.prog 89 = true:=by kernel_rfl
theorem Qqe : QT Tryz.prog 120 = true:=by kernel_rfl
theorem Qo5 {t : Tre} {i : Nat} {es : List TEnt} {cs : List Int} (h : nth t.ns i = ⟨true,es,cs⟩) (b : Bool) (hb : b = true ↔ (cs.length = 0 ∨ cs.length = es.length + 1)) : (if (bif decide ((es.length : Int) ≤ Yh t.mo t.rm i) then (0 : Int) else 16) = 0 then (bif b then (0 : Int) else 10) else (bif decide ((es.length : Int) ≤ Yh t.mo t.rm i) then (0 : Int) else 16)) = nE1 t i:=by
  unfold nE1;rw [h]
  by_cases h1 : (es.length : Int) ≤ Yh t.mo t.rm i
  · rw [decide_eq_true h1,if_pos h1]
    by_cases h2 : cs.length = 0 ∨ cs.length = es.length + 1
    · rw [if_pos h2,hb.2 h2];rfl
    · rw [if_neg h2,show b = false by cases b;rfl;exact absurd (hb.1 rfl) h2];rfl
  · rw [decide_eq_false h1,if_neg h1];rfl
theorem c82 (w : World) (i r : Nat) (ks seen : List Int) (bt : Nat) (j : Nat) (mo rm : Int) (a : Option Addr) (cap : Nat) (L : List LNd) (hw : HS w (fps [.mp r KI ks]) [.mp r KI ks] w) (hst : ∀ x,x ∈ ks ↔ x ∈ seen) (ht : TbR w (fps [.mp r KI ks]) bt (j : Int) mo rm a L.length cap) (hs : Nt w (fps [.mp r KI ks]) a L) (hl : L.length ≤ 1000) (hj : j ≤ 3) (hi : i < L.length) (hel : (nth L i).es.length ≤ 1000) (hcl : (nth L i).cs.length ≤ 1000) (hkl : ∀ x ∈ (nth L i).es,x.key.length ≤ 1000000) : Calls Tryz.prog 82 #[.pointer (some ⟨bt,0,none⟩),.int .i64 (i : Int),.map (some r)] w fun en w'=>∃ g : List Int,en = .returned (.int .i64 (XV (⟨(j : Int),mo,rm,pln L⟩ : Tre) i seen).1) ∧ (∀ x,x ∈ g ↔ x ∈ (XV (⟨(j : Int),mo,rm,pln L⟩ : Tre) i seen).2) ∧ HS w (fps [.mp r KI ks]) [.mp r KI g] w':=by
 have hn : nth (pln L) i = (nth L i).pl:=Qh hi
 have hE2 : nE2 (⟨(j : Int),mo,rm,pln L⟩ : Tre) i = if nE1 (⟨(j : Int),mo,rm,pln L⟩ : Tre) i = 0 then (XQ ((nth L i).es.map (X7 (j : Int))) 0).2 else nE1 (⟨(j : Int),mo,rm,pln L⟩ : Tre) i:=by unfold nE2 Y0;rw [hn];rfl
 have hE3 : nE3 (⟨(j : Int),mo,rm,pln L⟩ : Tre) i seen = if nE2 (⟨(j : Int),mo,rm,pln L⟩ : Tre) i = 0 then XT (pln L) (nth L i).cs seen else (nE2 (⟨(j : Int),mo,rm,pln L⟩ : Tre) i,seen):=by unfold nE3;rw [hn];rfl
 have hE4 : nE4 (⟨(j : Int),mo,rm,pln L⟩ : Tre) i seen = if (nE3 (⟨(j : Int),mo,rm,pln L⟩ : Tre) i seen).1 = 0 then (XQ ((List.range (nth L i).es.length).map (Qaa (j : Int) (nth L i).es)) 0).2 else (nE3 (⟨(j : Int),mo,rm,pln L⟩ : Tre) i seen).1:=by unfold nE4 ZE;rw [hn];rfl
 refine enter (args:=[_,_,_]) Tryz.func82 Tryz.ntmps82 rfl rfl hw ?_
 refine aS2 ?_
 refine oBx fun b1 _=>?_
 refine oBx fun b2 _=>?_
 refine aS8 ?_
 refine o_q (Qe rfl rfl YD (ht 3 _ rfl)) rfl ?_
 refine aS ?_
 refine o_p (Qa rfl rfl rfl Qp (i) (by omega) (by omega) (Rw.some hs.1 (by omega))) rfl ?_
 refine o_q (QY _ rfl rfl Xh rfl (Rw.rd hs.1 hi)) rfl ?_
 refine oAl (fun b3 _=>?_) Xa
 refine oSt ?_
 refine aS8 ?_
 refine Qd rfl (fun h4=>?_) fun h4=>?_
 ·try simp only [Bool.not_eq_true'] at h4
  have hu : (nth (pln L) i).us = false:=by rw [hn];have hq:=h4;simpa [LNd.pl] using hq
  refine aS5 ?_
  refine XD 10 22 32 _ _ rfl
   (by
    intro hg5
    have hs6:=hg5;try simp only [dT] at hs6
    refine oOn 22 hg5 ?_
    refine aS ?_
    refine oOn 22 hg5 ?_
    refine aS ?_
    refine oOn 22 hg5 ?_
    refine aS ?_
    refine oOn 22 hg5 ?_
    refine aS ?_
    refine oOn 22 hg5 ?_
    refine aS ?_
    refine oOn 22 hg5 ?_
    refine o_q (Qe rfl rfl YD (ht 3 _ rfl)) rfl ?_
    refine oOn 22 hg5 ?_
    refine aS ?_
    refine oOn 22 hg5 ?_
    refine aS ?_
    try refine oWr ?_
    refine oOn 22 hg5 ?_
    refine aS ?_
    refine o_p (Qw rfl rfl hg5 rfl) rfl ?_
    refine aS ?_
    exact oJn 10 32)
   (by
    intro hg7
    have hs8:=hg7;try simp only [dN] at hs8
    refine oOf 22 hg7 ?_
    refine oOf 22 hg7 ?_
    refine oOf 22 hg7 ?_
    refine oOf 22 hg7 ?_
    refine oOf 22 hg7 ?_
    refine oOf 22 hg7 ?_
    refine oOf 22 hg7 ?_
    refine oOf 22 hg7 ?_
    refine oOf 22 hg7 ?_
    refine o_p (Qs rfl rfl hg7 rfl) rfl ?_
    refine aS ?_
    exact oJn 10 32) ?_
  refine aS ?_
  refine XD 9 33 42 _ _ rfl
   (by
    intro hg9
    have hs10:=hg9;try simp only [Bool.and_eq_true,decide_eq_true_eq] at hs10
    refine oOn 33 hg9 ?_
    refine aS ?_
    refine oOn 33 hg9 ?_
    refine aS ?_
    refine oOn 33 hg9 ?_
    refine aS ?_
    refine oOn 33 hg9 ?_
    refine aS ?_
    refine oOn 33 hg9 ?_
    refine aS ?_
    refine oOn 33 hg9 ?_
    refine aS ?_
    refine oOn 33 hg9 ?_
    refine aS ?_
    try refine oWr ?_
    refine oOn 33 hg9 ?_
    refine aS ?_
    refine o_p (Qw rfl rfl hg9 rfl) rfl ?_
    refine aS ?_
    exact oJn 9 42)
   (by
    intro hg11
    have hs12:=hg11;try simp only [Bool.and_eq_false_iff,decide_eq_false_iff_not] at hs12
    refine oOf 33 hg11 ?_
    refine oOf 33 hg11 ?_
    refine oOf 33 hg11 ?_
    refine oOf 33 hg11 ?_
    refine oOf 33 hg11 ?_
    refine oOf 33 hg11 ?_
    refine oOf 33 hg11 ?_
    refine oOf 33 hg11 ?_
    refine o_p (Qs rfl rfl hg11 rfl) rfl ?_
    refine aS ?_
    exact oJn 9 42) ?_
  refine o_q (Qi rfl Zt rfl (fun w1 h1=>c81 w1 _ _)) rfl ?_
  refine aS2 ?_
  exact rT rfl rfl (fun w' h'=>⟨ks,by unfold XV;simp only [];rw [if_neg (by rw [hu];decide),hn];simp only [Xw,LNd.pl];simp only [cond_eq_ite,Bool.and_eq_true,decide_eq_true_eq,Qc];(split <;> split <;> first | rfl | omega),by unfold XV;simp only [];rw [if_neg (by rw [hu];decide)];split <;> exact hst,h'.ent aEt⟩)
 try simp only [Bool.not_eq_false'] at h4
 have hu : (nth (pln L) i).us = true:=by rw [hn];have hq:=h4;simpa [LNd.pl] using hq
 have hN1 : nth ((⟨(j : Int),mo,rm,pln L⟩ : Tre)).ns i = ⟨true,(nth L i).es,(nth L i).cs⟩:=by show nth (pln L) i = _;rw [hn] at hu ⊢;simp only [LNd.pl] at hu ⊢;rw [hu]
 rw [Qfd (⟨(j : Int),mo,rm,pln L⟩ : Tre) i hu]
 refine aS2 ?_
 refine Qj (L':=[(1,_),(3,_),(5,_),(6,_),(7,_)]) aSx (fun _ h=>h) ?_
 refine Xn (α:=Unit) [8,44,45,46,47,48,49,50,51,52,53,54,55,56,57,58,59,60,61,62,63,64,65,66,67,68] (fun _=>[(8,.int .i64 (nE1 (⟨(j : Int),mo,rm,pln L⟩ : Tre) i))]) (fun _=>HS w (fps [.mp r KI ks]) [.blk b1 103 1 [.pointer (some ⟨bt,0,none⟩)],.blk b2 136 1 [.map (some r)],.blk b3 102 3 (nth L i).vals,.mp r KI ks]) (fun _=>True) ?_ ?_
 ·skip
  refine QE [] QH ?_
  refine dFa 0 ?_
  refine dLd 1 [] ?_
  refine dV 2 rfl (QQ rfl rfl Tryz.underlying77) ?_
  refine dLd 3 [] ?_
  refine dP 4 ?_
  refine dQ 5 [] rfl (Qi rfl QpH rfl (fun w1 h1=>c118 w1 bt j mo rm a L.length cap i (ht.next h1))) ?_
  refine dP 6 ?_
  refine dQ 7 [] rfl (Qi rfl Zt rfl (fun w1 h1=>c81 w1 _ _)) ?_
  refine dFa 8 ?_
  refine dLd 9 [] ?_
  refine dV 10 rfl (QQ rfl rfl Tryz.underlying30) ?_
  refine dP 11 ?_
  refine dP 12 ?_
  apply Xy 56
  ·exact rfl
  ·intro hg13
   have hs14:=hg13;try simp only [dT] at hs14
   refine dOf 13 56 hg13 ?_
   refine dOf 14 56 hg13 ?_
   refine dOf 15 56 hg13 ?_
   refine dOf 16 56 hg13 ?_
   refine dOf 17 56 hg13 ?_
   refine dOf 18 56 hg13 ?_
   refine dOf 19 56 hg13 ?_
   refine dOf 20 56 hg13 ?_
   refine dV 21 rfl (Qw rfl rfl hg13 rfl) ?_
   refine dQ 22 [] rfl (Qi rfl Zt rfl (fun w1 h1=>c81 w1 _ _)) ?_
   refine dH 23 rfl (Qr (cs:=[_,_]) rfl rfl Qbn QdV rfl rfl rfl) (fun b15 _=>?_)
   refine dBa ?_
   refine dQ 24 [] rfl (Qi rfl Qez rfl (fun w1 h1=>f75 h1 aPk (by rfl) (by rfl) (by decide))) ?_
   refine Ql (show _ = Value.int .i64 (nE1 (⟨(j : Int),mo,rm,pln L⟩ : Tre) i) from by congr 1;rw [Qay];exact Qo5 hN1 _ (by first | (simp only [true_iff];left;have hq:=hg13;simp at hq ⊢;omega) | (have hq : ¬ (((nth L i).cs.length : Int) = 0):=of_decide_eq_false hg13;rw [decide_eq_true_eq];omega))) ?_
   refine dP 25 ?_
   refine dNi ?_
   exact Qn () trivial aSx (fun w h=>h.ent aEt)
  intro hg16
  have hs17:=hg16;try simp only [dN] at hs17
  refine dFo 13 56 hg16 ?_
  refine dQo 14 56 [] hg16 rfl rfl rfl (XW rfl rfl Q8 aPk rfl) ?_
  refine dVo 15 56 hg16 rfl rfl rfl (QQ rfl rfl Tryz.underlying30) ?_
  refine dFo 16 56 hg16 ?_
  refine dQo 17 56 [] hg16 rfl rfl rfl (XW rfl rfl Xb aPk rfl) ?_
  refine dVo 18 56 hg16 rfl rfl rfl (QQ rfl rfl Tryz.underlying77) ?_
  refine dPo 19 56 hg16 ?_
  try refine dWr ?_
  refine dPo 20 56 hg16 ?_
  refine dV 21 rfl (Qs rfl rfl hg16 rfl) ?_
  refine dQ 22 [] rfl (Qi rfl Zt rfl (fun w1 h1=>c81 w1 _ _)) ?_
  refine dH 23 rfl (Qr (cs:=[_,_]) rfl rfl Qbn QdV rfl rfl rfl) (fun b18 _=>?_)
  refine dBa ?_
  refine dQ 24 [] rfl (Qi rfl Qez rfl (fun w1 h1=>f75 h1 aPk (by rfl) (by rfl) (by decide))) ?_
  refine Ql (show _ = Value.int .i64 (nE1 (⟨(j : Int),mo,rm,pln L⟩ : Tre) i) from by congr 1;rw [Qay];exact Qo5 hN1 _ (by first | (simp only [true_iff];left;have hq:=hg16;simp at hq ⊢;omega) | (have hq : ¬ (((nth L i).cs.length : Int) = 0):=of_decide_eq_false hg16;rw [decide_eq_true_eq];omega))) ?_
  refine dP 25 ?_
  refine dNi ?_
  exact Qn () trivial aSx (fun w h=>h.ent aEt)
 intro _ _
 refine aS6 ?_
 refine Xn (α:=Unit) [8,71,72,73,74,75,76,77] (fun _=>[(8,.int .i64 (nE2 (⟨(j : Int),mo,rm,pln L⟩ : Tre) i))]) (fun _=>HS w (fps [.mp r KI ks]) [.blk b1 103 1 [.pointer (some ⟨bt,0,none⟩)],.blk b2 136 1 [.map (some r)],.blk b3 102 3 (nth L i).vals,.mp r KI ks]) (fun _=>True) ?_ ?_
 ·skip
  refine Qd rfl (fun h19=>?_) fun h19=>?_
  ·try simp only [dT] at h19
   refine aS4 ?_
   refine o_q (Qi rfl QoZ rfl (fun w1 h1=>c89 w1 (nth L i).ea (nth L i).ec (nth L i).es 119 #[.pointer (some ⟨b1,0,none⟩)] ((nth L i).es.map (X7 (j : Int))) ((hs.es hi).later h1) (by omega) (by kernel_rfl) (by simp) (fun k w2 hk9 _ h2=>by rw [Qa3 hk9];exact c119 w2 b1 (k : Int) (nth (nth L i).es k) bt j mo rm a L.length cap hj (hkl _ (Q1 hk9)) ((h1.rd_blk (Mc:=[]) (b:=b1) aPk rfl (by simp)).next h2) ((ht.next h1).next h2)))) rfl ?_
   refine aS5 ?_
   exact Qn () trivial (by rw [hE2,if_pos h19];exact aSx) (fun w h=>h.ent aEt)
  try simp only [dN] at h19
  refine aS ?_
  exact Qn () trivial (by rw [hE2,if_neg h19];exact aSx) (fun w h=>h.ent aEt)
 intro _ _
 refine aS6 ?_
 refine Xn (α:=List Int) [8,80,81,82,83,84,85,86] (fun _=>[(8,.int .i64 (nE3 (⟨(j : Int),mo,rm,pln L⟩ : Tre) i seen).1)]) (fun q=>HS w (fps [.mp r KI ks]) [.blk b1 103 1 [.pointer (some ⟨bt,0,none⟩)],.blk b2 136 1 [.map (some r)],.blk b3 102 3 (nth L i).vals,.mp r KI q]) (fun q=>∀ x,x ∈ q ↔ x ∈ (nE3 (⟨(j : Int),mo,rm,pln L⟩ : Tre) i seen).2) ?_ ?_
 ·skip
  refine Qd rfl (fun h20=>?_) fun h20=>?_
  ·try simp only [dT] at h20
   refine aS4 ?_
   refine o_h (Q7 (Cs:=[.mp r KI ks]) rfl Qqe rfl aPs (fun w1 h1 hf=>c120 w1 (nth L i).ca (nth L i).cc (nth L i).cs b1 b2 r ks seen bt j mo rm a cap L hf hst (h1.rd_blkF aPs (b:=b1) aPk rfl) (h1.rd_blkF aPs (b:=b2) aPk rfl) ((ht.keep h1).mono (Xo aPs)) ((hs.keep h1).mono (Xo aPs)) hl (((hs.cs hi).keep h1).mono (Xo aPs)) hcl)) rfl (fun b21 hkG=>?_)
   refine aS5 ?_
   exact Qn b21.2 (by rw [hE3,if_pos h20];exact hkG) (by rw [hE3,if_pos h20];exact aSx) (fun w h=>h.ent aEt)
  try simp only [dN] at h20
  refine aS ?_
  exact Qn ks (by rw [hE3,if_neg h20];exact hst) (by rw [hE3,if_neg h20];exact aSx) (fun w h=>h.ent aEt)
 intro ks2 hks2
 refine aS6 ?_
 refine Xn (α:=Unit) [8,89,90,91,92,93,94,95] (fun _=>[(8,.int .i64 (nE4 (⟨(j : Int),mo,rm,pln L⟩ : Tre) i seen))]) (fun _=>HS w (fps [.mp r KI ks]) [.blk b1 103 1 [.pointer (some ⟨bt,0,none⟩)],.blk b2 136 1 [.map (some r)],.blk b3 102 3 (nth L i).vals,.mp r KI ks2]) (fun _=>True) ?_ ?_
 ·skip
  refine Qd rfl (fun h22=>?_) fun h22=>?_
  ·try simp only [dT] at h22
   have he0:=QiQ (QrC _ _ (Qo8 _ _ h22))
   rw [hn] at he0
   have hkok : ∀ x ∈ (nth L i).es,QW (j : Int) x.key = true ∧ x.key.length ≤ 1000000:=fun x hx=>⟨Yo (he0 x hx),hkl x hx⟩
   refine aS4 ?_
   refine o_q (Qi rfl QoZ rfl (fun w1 h1=>c89 w1 (nth L i).ea (nth L i).ec (nth L i).es 122 #[.pointer (some ⟨b1,0,none⟩),.pointer (some ⟨b3,0,none⟩)] ((List.range (nth L i).es.length).map (Qaa (j : Int) (nth L i).es)) ((hs.es hi).later h1) (by omega) (by kernel_rfl) (by simp) (fun k w2 hk9 _ h2=>by rw [Qbs hk9];exact c122 w2 b1 b3 k true (nth L i).ea (nth L i).ec (nth L i).es (.bool true) bt j mo rm a L.length cap hj hk9 (by omega) hkok ((h1.rd_blk (Mc:=[]) (b:=b1) aPk rfl (by simp)).next h2) ((h1.rd_blk (Mc:=[]) (b:=b3) aPk rfl (by simp)).next h2) (((hs.es hi).later h1).later h2) ((ht.next h1).next h2)))) rfl ?_
   refine aS5 ?_
   exact Qn () trivial (by rw [hE4,if_pos h22];exact aSx) (fun w h=>h.ent aEt)
  try simp only [dN] at h22
  refine aS ?_
  exact Qn () trivial (by rw [hE4,if_neg h22];exact aSx) (fun w h=>h.ent aEt)
 intro _ _
 refine aS5 ?_
 exact rT rfl rfl (fun w' h'=>⟨ks2,rfl,hks2,h'.ent aEt⟩)
theorem Qmc : QT Tryz.prog 148 = true:=by kernel_rfl
theorem Qh9 : QT Tryz.prog 123 = true:=by kernel_rfl
theorem Qni : tsz Tryz.prog 140 = some (1,false):=by kernel_rfl
instance : TSz Tryz.prog 140 1 false:=⟨Qni⟩
theorem QaB : tsl Tryz.prog 140 = some (4,1,1):=by kernel_rfl
theorem c148 (w : World) (ua : Option Addr) (uc : Nat) (u : List Int) (n : Int) (hu : Rw inV 1 w [] ua u) (hum : u.length ≤ 100000) : Calls Tryz.prog 148 #[.slice ua u.length uc,.int .i64 n] w fun en w'=>en = .returned (.int .i64 (ixI (Y2 u n))) ∧ Below w.heap.size w w':=by
 refine enter (args:=[_,_]) Tryz.func148 Tryz.ntmps148 rfl rfl (HS.refl w []) ?_
 refine Zp ?_
 refine QN (α:=Nat) [4,5,8,9,10,11,12,13,14,15,16,17,18] (fun k=>[(8,.int .i64 (k : Int))]) (fun _=>_) (fun k=>k ≤ u.length ∧ ∀ i,i < k → (Y2 u n).getD i false = false) (fun k=>u.length - k) 0 ⟨Nat.zero_le _,fun i h=>absurd h (Nat.not_lt_zero i)⟩ aSx (fun w h=>h) (fun k hkk=>?_)
 obtain ⟨hk1,hk2⟩:=hkk
 refine aS5 ?_
 refine Qd rfl (fun h1=>?_) fun h1=>?_
 ·try simp only [dT] at h1
  have hk : k < u.length:=by omega
  iterate 13 refine aS ?_
  refine o_p (Qa rfl rfl rfl Qv (k) (by omega) (by omega) (Rw.some hu (by omega))) rfl ?_
  refine o_q (Qe rfl rfl Xq ((hu.rdj 0 hk rfl))) rfl ?_
  refine aS2 ?_
  refine Qd rfl (fun h2=>?_) fun h2=>?_
  ·try simp only [dT] at h2
   have hq9 : n = u.getD k 0:=h2
   have e:=Qb6 (l:=Y2 u n) (k:=k) (by rw [Yr];omega) hk2 (fun _=>by rw [Qa9 hk];exact decide_eq_true hq9)
   refine aS5 ?_
   exact rT rfl rfl (fun w' h'=>⟨by simp only [Xw,ixI,e,Yr];rw [if_pos hk],h'.below⟩)
  try simp only [dN] at h2
  have hq9 : ¬ n = u.getD k 0:=h2
  refine aS4 ?_
  try refine oWr ?_
  refine aS2 ?_
  exact QD (k + 1) (by omega) ⟨by omega,fun i hi=>(Nat.lt_or_ge i k).elim (hk2 i) (fun h=>by obtain rfl : i = k:=(by omega);rw [Qa9 hk];exact decide_eq_false hq9)⟩ aSx (fun w h=>h)
 try simp only [dN] at h1
 obtain rfl : k = u.length:=by omega
 refine Qu rfl ?_
 refine aS4 ?_
 exact rT rfl rfl (fun w' h'=>⟨by have e:=Qb6 (l:=Y2 u n) (k:=u.length) (by rw [Yr];omega) hk2 (fun h=>by rw [Yr] at h;omega);simp only [Xw,ixI,e,Yr];rw [if_neg (by omega)],h'.below⟩)
theorem c126 (w : World) (ua : Option Addr) (uc : Nat) (u : List Int) (n : Int) (hu : Rw inV 1 w [] ua u) (hum : u.length ≤ 100000) : Calls Tryz.prog 126 #[.slice ua u.length uc,.int .i64 n] w fun en w'=>en = .returned (.bool (decide (n ∈ u))) ∧ Below w.heap.size w w':=by
 refine enter (args:=[_,_]) Tryz.func126 Tryz.ntmps126 rfl rfl (HS.refl w []) ?_
 refine aS8 ?_
 refine o_q (Qi rfl Qmc rfl (fun w1 h1=>c148 w1 ua uc u n (hu.later h1) hum)) rfl ?_
 refine aS3 ?_
 exact rT rfl rfl (fun w' h'=>⟨by rw [← QlN,← QoC];rfl,h'.below⟩)
def WkC (S : Type) (I : S → Prop) (C : S → HA) (st : S → Vis → S) (er : S → Vis → Int × Int) (q : Nat) (cv : Array Value) (bt : Nat) (j : Nat) (mo rm : Int) (a : Option Addr) (cap : Nat) (L : List LNd) (f : Nat) : Prop:=∀ (w : World) (s : S) (v : Vis) (pl ph : Option Addr) (P : List Nat),(HS w (fps [C s]) [C s] w) → (QT Tryz.prog q = true) → (∀ s1 s2 : S,(C s1).fp = (C s2).fp) → (∀ s2 v2,I s2 → I (st s2 v2)) → (I s) → (∀ (s2 : S) (v2 : Vis) (p2 p3 : Option Addr) (w1 : World),HS w (fps [C s]) [C s2] w1 → I s2 → v2.i < L.length → KOk (j : Int) v2.lo → KOk (j : Int) v2.hi → ZW w1 (fps [C s2]) p2 v2.lo → ZW w1 (fps [C s2]) p3 v2.hi → Calls Tryz.prog q (#[] ++ [.int .i64 (v2.i : Int),.int .i64 v2.d,.pointer p2,.pointer p3].toArray ++ cv) w1 fun en w2=>∃ g : Unit,en = .returned (.tuple #[.int .i64 (er s2 v2).1,.int .i64 (er s2 v2).2]) ∧ True ∧ HS w1 (fps [C s2]) [C (st s2 v2)] w2) → (TbR w (fps [C s]) bt (j : Int) mo rm a L.length cap) → (Nt w (fps [C s]) a L) → (TOk (j : Int) (pln L)) → (Bd (pln L)) → (ZW w (fps [C s]) pl v.lo) → (ZW w (fps [C s]) ph v.hi) → (0 < L.length) → (Gx.Way (pln L) (v.i :: P)) → (P.length + f = L.length) → (v.d = (P.length : Int) + 1) → (KOk (j : Int) v.lo) → (KOk (j : Int) v.hi) → Calls Tryz.prog 123 #[.pointer (some ⟨bt,0,none⟩),.int .i64 (v.i : Int),.int .i64 v.d,.pointer pl,.pointer ph,.func (.func q) #[] cv] w fun en w'=>∃ g : Unit,en = .returned (.tuple #[.int .i64 (XF st er s (vis (pln L) f v)).1.1,.int .i64 (XF st er s (vis (pln L) f v)).1.2]) ∧ True ∧ HS w (fps [C s]) [C (XF st er s (vis (pln L) f v)).2] w'
theorem Qrq (w : World) (S : Type) (I : S → Prop) (C : S → HA) (st : S → Vis → S) (er : S → Vis → Int × Int) (q : Nat) (cv : Array Value) (bt : Nat) (j : Nat) (mo rm : Int) (a : Option Addr) (cap : Nat) (L : List LNd) (s : S) (v : Vis) (pl ph : Option Addr) (P : List Nat) (f : Nat) (hw : HS w (fps [C s]) [C s] w) (hq : QT Tryz.prog q = true) (hfp : ∀ s1 s2 : S,(C s1).fp = (C s2).fp) (hI : ∀ s2 v2,I s2 → I (st s2 v2)) (hIs : I s) (hv : ∀ (s2 : S) (v2 : Vis) (p2 p3 : Option Addr) (w1 : World),HS w (fps [C s]) [C s2] w1 → I s2 → v2.i < L.length → KOk (j : Int) v2.lo → KOk (j : Int) v2.hi → ZW w1 (fps [C s2]) p2 v2.lo → ZW w1 (fps [C s2]) p3 v2.hi → Calls Tryz.prog q (#[] ++ [.int .i64 (v2.i : Int),.int .i64 v2.d,.pointer p2,.pointer p3].toArray ++ cv) w1 fun en w2=>∃ g : Unit,en = .returned (.tuple #[.int .i64 (er s2 v2).1,.int .i64 (er s2 v2).2]) ∧ True ∧ HS w1 (fps [C s2]) [C (st s2 v2)] w2) (ht : TbR w (fps [C s]) bt (j : Int) mo rm a L.length cap) (hs : Nt w (fps [C s]) a L) (hT : TOk (j : Int) (pln L)) (hB : Bd (pln L)) (hpl : ZW w (fps [C s]) pl v.lo) (hph : ZW w (fps [C s]) ph v.hi) (h0 : 0 < L.length) (hway : Gx.Way (pln L) (v.i :: P)) (hf : P.length + (f + 1) = L.length) (hd : v.d = (P.length : Int) + 1) (hko : KOk (j : Int) v.lo) (hkp : KOk (j : Int) v.hi) (ih : WkC S I C st er q cv bt j mo rm a cap L f) : Calls Tryz.prog 123 #[.pointer (some ⟨bt,0,none⟩),.int .i64 (v.i : Int),.int .i64 v.d,.pointer pl,.pointer ph,.func (.func q) #[] cv] w fun en w'=>∃ g : Unit,en = .returned (.tuple #[.int .i64 (XF st er s (vis (pln L) (f + 1) v)).1.1,.int .i64 (XF st er s (vis (pln L) (f + 1) v)).1.2]) ∧ True ∧ HS w (fps [C s]) [C (XF st er s (vis (pln L) (f + 1) v)).2] w':=by
 have hi0:=Z9 hT (by rw [Qc];exact h0) hway v.i (List.mem_cons_self ..)
 have hi : v.i < L.length:=by rw [Qc] at hi0;exact hi0
 have hn:=Qh hi
 have hle:=hB.len
 rw [Qc] at hle
 have hel:=hB.es v.i hi0
 have hcl:=hB.cs v.i hi0
 rw [hn] at hel hcl
 simp only [LNd.pl] at hel hcl
 have hsh:=hT.shape v.i hi0
 rw [hn] at hsh
 simp only [LNd.pl] at hsh
 refine enter (args:=[_,_,_,_,_,_]) Tryz.func123 Tryz.ntmps123 rfl rfl hw ?_
 iterate 13 refine aS ?_
 refine o_h (QgY (Cs:=[C s]) rfl rfl hq rfl aPs (fun w1 h1 hf9=>hv s v pl ph w1 (h1.ent aEt) hIs hi hko hkp ((hpl.keep h1).mono (Xo aPs)) ((hph.keep h1).mono (Xo aPs)))) rfl (fun _ _=>?_)
 refine QaU ?_
 refine Qd rfl (fun h1=>?_) fun h1=>?_
 ·try simp only [Bool.not_eq_true',decide_eq_false_iff_not] at h1
  have hz : XF st er s (vis (pln L) (f + 1) v) = (er s v,st s v):=by rw [vis,XF,if_neg h1]
  refine aS7 ?_
  exact QM (rs:=[.tmp 12,.tmp 13]) rfl (.tmp rfl (.tmp rfl (.nil))) (fun w' h'=>⟨(),by rw [hz];rfl,trivial,by rw [hz];exact h'.ent aEt⟩)
 try simp only [Bool.not_eq_false',decide_eq_true_eq] at h1
 have hz0 : XF st er s [v] = ((0,0),st s v):=by rw [XF,if_pos h1,XF]
 refine aS7 ?_
 refine o_q (Qe rfl rfl YD (ht 3 _ rfl)) rfl ?_
 refine aS ?_
 refine o_p (Qa rfl rfl rfl Qp (v.i) (by omega) (by omega) (Rw.some hs.1 (by omega))) rfl ?_
 refine o_q (QY _ rfl rfl Xh rfl (Rw.rd hs.1 hi)) rfl ?_
 refine oAl (fun b2 _=>?_) Xa
 refine oSt ?_
 refine aS3 ?_
 refine Qj (L':=[(0,_),(2,_),(3,_),(4,_),(5,_),(12,_),(13,_),(16,_)]) aSx (fun _ h=>h) ?_
 refine aS7 ?_
 refine QN (α:=Nat × S) [12,13,17,18,19,20,21,22,47,48,49,50,51,52,53,54,55,56,57,58,59,60,61,62,63,64,65,66,67,68,69,70,71,72,73,74,75,76,77,78,79,80,81,82,83,84,85,86,87] (fun x=>[(47,.int .i64 (x.1 : Int))]) (fun x=>HS w (fps [C s]) [.blk b2 102 3 (nth L v.i).vals,C x.2]) (fun x=>x.1 ≤ (nth L v.i).cs.length ∧ (XF st er s (Qal (pln L) f v x.1)).1.2 = 0 ∧ (XF st er s (Qal (pln L) f v x.1)).2 = x.2) (fun x=>(nth L v.i).cs.length - x.1) (0,st s v) ⟨Nat.zero_le _,by rw [QhZ,hz0],by rw [QhZ,hz0]⟩ aSx (fun w h=>h.ent aEt) (fun ⟨k,sk⟩ hx=>?_)
 dsimp only
 obtain ⟨hk1,hk2,hk3⟩:=hx
 simp only [] at hk1 hk2 hk3
 refine aS5 ?_
 refine Qd rfl (fun h3=>?_) fun h3=>?_
 ·try simp only [dT] at h3
  have hkl : k < (nth L v.i).cs.length:=by omega
  have hkid:=Qa7 hT hi0 (k:=k) (by rw [hn];exact hkl)
  have hwk:=Z4 hway hi0 (k:=k) (by rw [hn];exact hkl) (by omega)
  have hki : ((XO (pln L) v k).i : Int) = (nth L v.i).cs.getD k 0:=by unfold XO;rw [hn] at hkid ⊢;simp only [LNd.pl] at hkid ⊢;rw [Int.toNat_of_nonneg (by omega)]
  rw [Qc] at hkid
  refine aS6 ?_
  refine o_p (Qa rfl rfl rfl Qv (k) (by omega) (by omega) (Rw.some (hs.cs hi) (by omega))) rfl ?_
  refine o_q (Qe rfl rfl Xq (((hs.cs hi).rdj 0 (i:=k) hkl rfl))) rfl ?_
  refine aS2 ?_
  refine Qm (show _ = Value.int .i64 ((XO (pln L) v k).i : Int) from by rw [hki];rfl) ?_
  iterate 14 refine aS ?_
  refine Xn (α:=Option Addr) [19,56,57,58,59,60,61] (fun p=>[(19,.pointer p)]) (fun _=>HS w (fps [C s]) [.blk b2 102 3 (nth L v.i).vals,C sk]) (fun p=>ZW w (fps [C s]) p (loK (nth L v.i).es k v.lo)) ?_ ?_
  ·skip
   refine Qd rfl (fun h4=>?_) fun h4=>?_
   ·try simp only [dT] at h4
    refine aS5 ?_
    try refine oWr ?_
    refine o_p (Qa rfl rfl rfl QB (k - 1) (by omega) (by omega) (Rw.some (hs.es hi) (by omega))) rfl ?_
    refine aS3 ?_
    exact Qn (some ⟨ab (nth L v.i).ea,ao (nth L v.i).ea + (k - 1) * 2,none⟩) (by rw [show loK (nth L v.i).es k v.lo = some (nth (nth L v.i).es (k - 1)).key from if_pos (by omega)];exact ⟨_,_,rfl,((hs.es hi).rdj 0 (by omega) rfl)⟩) aSx (fun w h=>h.ent aEt)
   try simp only [dN] at h4
   refine aS ?_
   exact Qn pl (by rw [show loK (nth L v.i).es k v.lo = v.lo from if_neg (by omega)];exact hpl) aSx (fun w h=>h.ent aEt)
  intro p1 hp1
  refine aS9 ?_
  refine Qj (L':=[(0,_),(2,_),(3,_),(4,_),(5,_),(16,_),(17,_),(18,_),(19,_),(20,_),(44,_),(45,_),(46,_),(47,_),(66,_)]) aSx (fun _ h=>h) ?_
  refine Xn (α:=Option Addr) [20,67,68,69,70,71] (fun p=>[(20,.pointer p)]) (fun _=>HS w (fps [C s]) [.blk b2 102 3 (nth L v.i).vals,C sk]) (fun p=>ZW w (fps [C s]) p (hiK (nth L v.i).es k v.hi)) ?_ ?_
  ·skip
   refine Qd rfl (fun h5=>?_) fun h5=>?_
   ·try simp only [dT] at h5
    refine aS4 ?_
    refine o_p (Qa rfl rfl rfl QB (k) (by omega) (by omega) (Rw.some (hs.es hi) (by omega))) rfl ?_
    refine aS3 ?_
    exact Qn (some ⟨ab (nth L v.i).ea,ao (nth L v.i).ea + k * 2,none⟩) (by rw [show hiK (nth L v.i).es k v.hi = some (nth (nth L v.i).es k).key from if_pos (by omega)];exact ⟨_,_,rfl,((hs.es hi).rdj 0 (by omega) rfl)⟩) aSx (fun w h=>h.ent aEt)
   try simp only [dN] at h5
   refine aS ?_
   exact Qn ph (by rw [show hiK (nth L v.i).es k v.hi = v.hi from if_neg (by omega)];exact hph) aSx (fun w h=>h.ent aEt)
  intro p2 hp2
  refine aS6 ?_
  try refine oWr ?_
  refine aS3 ?_
  refine o_h (Q7 (Cs:=[C sk]) rfl Qh9 rfl aPs (fun w1 h1 hf9=>ih w1 sk (XO (pln L) v k) p1 p2 (v.i :: P) hf9 hq hfp hI (hk3 ▸ Qg7 hI _ _ hIs) (fun s2 v2 p3 p4 w2 h2 hs2 hi2 ha2 hb2 hp3 hp4=>hv s2 v2 p3 p4 w2 (HS.thenF (h1.ent (Bs:=[C sk]) aEt) h2) hs2 hi2 ha2 hb2 hp3 hp4) ((ht.keep h1).mono (Xo aPs)) ((hs.keep h1).mono (Xo aPs)) hT hB (by unfold XO;rw [hn];exact (hp1.keep h1).mono (Xo aPs)) (by unfold XO;rw [hn];exact (hp2.keep h1).mono (Xo aPs)) h0 hwk (by simp only [List.length_cons];omega) (by show v.d + 1 = _;simp only [List.length_cons];omega) (Qeq hT hi0 (by rw [hn];simp only [LNd.pl];omega) hko) (QeL hT hi0 hkp))) rfl (fun _ _=>?_)
  refine QaU ?_
  refine Qd rfl (fun h6=>?_) fun h6=>?_
  ·try simp only [Bool.not_eq_true',decide_eq_false_iff_not] at h6
   have e9 : XF st er s (Qal (pln L) f v k ++ vis (pln L) f (XO (pln L) v k)) = XF st er sk (vis (pln L) f (XO (pln L) v k)):=by rw [QiI _ _ hk2,hk3]
   have hz : XF st er s (vis (pln L) (f + 1) v) = XF st er sk (vis (pln L) f (XO (pln L) v k)):=by rw [Y8,hn];simp only [LNd.pl];obtain ⟨B,eB⟩:=Qan (pln L) f v (show k + 1 ≤ (nth L v.i).cs.length by omega);rw [eB,X0,Qm2 _ _ (by rw [e9];exact h6),e9]
   refine aS ?_
   refine Qj (L':=[(0,_),(2,_),(3,_),(4,_),(5,_),(16,_),(21,_),(22,_),(44,_),(45,_),(46,_),(47,_)]) aSx (fun _ h=>h) ?_
   refine aS6 ?_
   exact QM (rs:=[.tmp 12,.tmp 13]) rfl (.tmp rfl (.tmp rfl (.nil))) (fun w' h'=>⟨(),by rw [hz];rfl,trivial,by rw [hz];exact h'.ent aEt⟩)
  try simp only [Bool.not_eq_false',decide_eq_true_eq] at h6
  have hz : XF st er s (Qal (pln L) f v (k + 1)) = XF st er sk (vis (pln L) f (XO (pln L) v k)):=by rw [X0,QiI _ _ hk2,hk3]
  refine aS2 ?_
  refine Qj (L':=[(0,_),(2,_),(3,_),(4,_),(5,_),(16,_),(44,_),(45,_),(46,_),(47,_)]) aSx (fun _ h=>h) ?_
  refine aS2 ?_
  try refine oWr ?_
  refine aS2 ?_
  exact QD (k + 1,(XF st er sk (vis (pln L) f (XO (pln L) v k))).2) (by (try simp only []);omega) ⟨by (try simp only []);omega,by simp only [];rw [hz];exact h6,by simp only [];rw [hz]⟩ aSx (fun w h=>h.ent aEt)
 try simp only [dN] at h3
 refine Qu rfl ?_
 refine aS5 ?_
 exact QM (rs:=[.tmp 12,.tmp 13]) rfl (.tmp rfl (.tmp rfl (.nil))) (fun w' h'=>⟨(),by have hke : k = (nth L v.i).cs.length:=(by omega);rw [Y8,hn];simp only [LNd.pl];rw [← hke,QlK _ _ hk2];rfl,trivial,by have hke : k = (nth L v.i).cs.length:=(by omega);rw [Y8,hn];simp only [LNd.pl];rw [← hke,hk3];exact h'.ent aEt⟩)
theorem Qim (S : Type) (I : S → Prop) (C : S → HA) (st : S → Vis → S) (er : S → Vis → Int × Int) (q : Nat) (cv : Array Value) (bt : Nat) (j : Nat) (mo rm : Int) (a : Option Addr) (cap : Nat) (L : List LNd) : ∀ f,WkC S I C st er q cv bt j mo rm a cap L f
  | 0=>fun w s v pl ph P hw hq hfp hI hIs hv ht hs hT hB hpl hph h0 hway hf hd hko hkp=>by
    have hl:=X9 hT (by rw [Qc];exact h0) hway;rw [Qc] at hl;simp only [List.length_cons] at hl;omega
  | f + 1=>fun w s v pl ph P hw hq hfp hI hIs hv ht hs hT hB hpl hph h0 hway hf hd hko hkp=>Qrq w S I C st er q cv bt j mo rm a cap L s v pl ph P f hw hq hfp hI hIs hv ht hs hT hB hpl hph h0 hway hf hd hko hkp (Qim S I C st er q cv bt j mo rm a cap L f)
theorem c124 (w : World) (i : Nat) (d : Int) (pl ph : Option Addr) (c4 bb n : Nat) (s : List Bool) (hw : HS w (fps [.blk bb 4 n (s.map Value.bool)]) [.blk bb 4 n (s.map Value.bool)] w) (hc4 : Rd w (fps [.blk bb 4 n (s.map Value.bool)]) c4 0 (.slice (some ⟨bb,0,none⟩) n n)) (hi : i < n) (hn : s.length = n) : Calls Tryz.prog 124 #[.int .i64 (i : Int),.int .i64 d,.pointer pl,.pointer ph,.pointer (some ⟨c4,0,none⟩)] w fun en w'=>∃ g : Unit,en = .returned (.tuple #[.int .i64 0,.int .i64 0]) ∧ True ∧ HS w (fps [.blk bb 4 n (s.map Value.bool)]) [.blk bb 4 n ((s.set i true).map Value.bool)] w':=by
 refine enter (args:=[_,_,_,_,_]) Tryz.func124 Tryz.ntmps124 rfl rfl hw ?_
 refine aS7 ?_
 refine o_q (Qe rfl rfl Qni (hc4)) rfl ?_
 refine aS ?_
 refine o_p (Qa rfl rfl rfl QaB (i) (by omega) (by omega) rfl) rfl ?_
 refine YE (Q9 rfl rfl rfl QcQ rfl aPt (by first | (simp only [List.length_map,List.length_singleton,List.length_cons,List.length_nil];omega) | (simp;omega)) rfl) (fun _ _=>?_)
 refine aS6 ?_
 exact QM (rs:=[.tmp 9,.tmp 10]) rfl (.tmp rfl (.tmp rfl (.nil))) (fun w' h'=>⟨(),rfl,trivial,by have h2:=h';rw [List.map_set];simp only [Qy,Nat.zero_add,Nat.mul_one] at h2;exact h2.ent aEt⟩)
end Go.Proofs
