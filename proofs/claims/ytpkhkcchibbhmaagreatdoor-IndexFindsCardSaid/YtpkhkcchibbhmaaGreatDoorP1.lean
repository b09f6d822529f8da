/- Contracts of the program's functions, proved by walking them with the rules of the Gx texts; without conditions beyond those that each contract names. -/
import Derived.WalkKit
import Derived.Deep.Draws
import Derived.TacticsIn
import Derived.OrdersIn
import Derived.RangeFuncLeaves
import Derived.Lib.Strings
import Derived.Laws.BytesArg
import Derived.Laws.IdiomStrings
import Derived.Deep.Quiet
import Derived.ProofKit
import Derived.OpenShut
import Derived.Laws.StructEq
import Derived.ChangeKeysEq
import Derived.Laws.Externs
import Derived.Lib.Overlaps
import Derived.Carry
import Derived.Laws.Small
import Derived.Lib.Bytealg
import Derived.Lib.Builder
import Derived.Laws.Pointers
import Derived.RangeFuncRecord
import Derived.Test.YtpkhkcchibbhmaaGreatDoorProg
import Derived.KernelRfl
import Derived.SizedLaws
import Derived.ChangeSame
import Derived.Handed
import Derived.Test.YtpkhkcchibbhmaaGreatDoorTie
import Derived.Test.YtpkhkcchibbhmaaGreatDoorCards
import Derived.SevenTiedAt
import Derived.LaidMore
import Derived.Lay
import Derived.Stop.Joined
import Derived.Test.YtpkhkcchibbhmaaGreatDoorP0
set_option linter.unusedSimpArgs false
set_option maxHeartbeats 1000000
set_option linter.unusedVariables false
set_option linter.unusedSectionVars false
set_option linter.unnecessarySimpa false
namespace Gx
open Go Go.RowKit
structure TOk (co : Int) (ns : List Nd) : Prop where
 kid : ∀ i,i < ns.length → ∀ c ∈ (nth ns i).cs,(1 ≤ c ∧ c ≤ (ns.length : Int) - 1) ∧ (nth ns c.toNat).us = true
 once : (ns.flatMap Nd.cs).Nodup
 shape : ∀ i,i < ns.length → (nth ns i).cs.length = 0 ∨ (nth ns i).cs.length = (nth ns i).es.length + 1
 free : ∀ i,i < ns.length → (nth ns i).us = false → (0 < i ∧ i + 1 < ns.length) ∧ (nth ns i).es = [] ∧ (nth ns i).cs = []
 asc : ∀ i,i < ns.length → Asc co (nth ns i).es
 ents : ∀ i,i < ns.length → ∀ x ∈ (nth ns i).es,Zx co x = 0
theorem Qh7 {ns : List Nd} : ∀ {cs seen : List Int},(Yl ns cs seen).1 = 0 → (∀ c ∈ cs,(1 ≤ c ∧ c ≤ (ns.length : Int) - 1) ∧ (nth ns c.toNat).us = true) ∧ (Yl ns cs seen).2 = cs.reverse ++ seen ∧ (seen.Nodup → (cs.reverse ++ seen).Nodup)
 | [],seen,_=>⟨fun c hc=>(nomatch hc),rfl,fun h=>h⟩
 | c :: cs,seen,h=>by
  unfold Yl at h ⊢;split at h
  ·rename_i h1;split at h
   ·cases h
   ·rename_i h2;rw [if_pos h1,if_neg h2];obtain ⟨h3,h4,h5⟩:=Qh7 h
    grind
  ·cases h
theorem Qlq {t : Tre} {i : Nat} {seen : List Int} (h : (Yg t i seen).1 = 0) :
  ((nth t.ns i).us = true → (∀ c ∈ (nth t.ns i).cs,(1 ≤ c ∧ c ≤ (t.ns.length : Int) - 1) ∧ (nth t.ns c.toNat).us = true) ∧ ((nth t.ns i).es.length : Int) ≤ QaD t.mo t.rm i ∧ ((nth t.ns i).cs.length = 0 ∨ (nth t.ns i).cs.length = (nth t.ns i).es.length + 1) ∧ ZS t.co (nth t.ns i).es = 0 ∧ Qbd t.co (nth t.ns i).es = 0) ∧
  ((nth t.ns i).us = false → (0 < i ∧ i + 1 < t.ns.length) ∧ (nth t.ns i).es = [] ∧ (nth t.ns i).cs = []) ∧
  (Yg t i seen).2 = (nth t.ns i).cs.reverse ++ seen ∧ (seen.Nodup → ((nth t.ns i).cs.reverse ++ seen).Nodup):=by
 unfold Yg at h ⊢;simp only [] at h ⊢;split at h
 ·rename_i hu;split at h
  ·rename_i h1;split at h
   ·rename_i h2;split at h
    ·rename_i h3;split at h
     ·rename_i h4;obtain ⟨k1,k2,k3⟩:=Qh7 h4;rw [if_pos hu,if_pos h1,if_pos h2,if_pos h3,if_pos h4];exact ⟨fun _=>⟨k1,h1,h2,h3,h⟩,fun hf=>absurd (hu.symm.trans hf) (by decide),k2,k3⟩
     ·rename_i h4;exact absurd h h4
    ·rename_i h3;exact absurd h h3
   ·cases h
  ·cases h
 ·rename_i hu;split at h
  ·rename_i h1;obtain ⟨h2,h3⟩:=h1;have e1 : (nth t.ns i).es = []:=List.eq_nil_of_length_eq_zero (by omega);have e2 : (nth t.ns i).cs = []:=List.eq_nil_of_length_eq_zero (by omega);rw [if_neg hu,if_pos ⟨h2,h3⟩,e2];exact ⟨fun h9=>absurd h9 hu,fun _=>⟨h2,e1,rfl⟩,rfl,fun h9=>h9⟩
  ·cases h
theorem QiG {t : Tre} : ∀ {f i : Nat} {seen : List Int},i + f = t.ns.length → (Yy t f i seen).2 = 0 → seen.Nodup → (∀ j,i ≤ j → j < t.ns.length → ∃ s,(Yg t j s).1 = 0) ∧ ((seen.reverse ++ (t.ns.drop i).flatMap Nd.cs)).Nodup
 | 0,i,seen,hi,h,hs=>by grind
 | f + 1,i,seen,hi,h,hs=>by
  unfold Yy at h;split at h
  ·rename_i h1;obtain ⟨h2,h3,h4,h5⟩:=Qlq h1;obtain ⟨h6,h7⟩:=QiG (f:=f) (i:=i + 1) (by omega) h (by rw [h4];exact h5 hs);refine ⟨fun j hj1 hj2=>?_,?_⟩
   ·grind
   ·rw [h4,List.reverse_append,List.reverse_reverse,List.append_assoc] at h7;rw [List.drop_eq_getElem_cons (show i < t.ns.length by omega),List.flatMap_cons];have e : t.ns[i] = nth t.ns i:=(Zr (List.getElem?_eq_getElem (by omega))).symm;rw [e];exact h7
  grind
theorem QrZ {co : Int} {es : List TEnt} (h : ZS co es = 0) : ∀ x ∈ es,Zx co x = 0:=fun x hx=>Qhu.1 h _ (List.mem_map.2 ⟨x,hx,rfl⟩)
theorem QnJ {t : Tre} (h : (Yy t t.ns.length 0 []).2 = 0) : TOk t.co t.ns:=by
 obtain ⟨h1,h2⟩:=QiG (f:=t.ns.length) (i:=0) (by omega) h List.nodup_nil;have key:=fun i (hi : i < t.ns.length)=>Qlq (h1 i (Nat.zero_le _) hi).choose_spec;have hF : ∀ i,i < t.ns.length → (nth t.ns i).us = false → (0 < i ∧ i + 1 < t.ns.length) ∧ (nth t.ns i).es = [] ∧ (nth t.ns i).cs = []:=fun i hi=>(key i hi).2.1;refine ⟨fun i hi c hc=>?_,by simpa using h2,fun i hi=>?_,hF,fun i hi=>?_,fun i hi x hx=>?_⟩
 ·grind
 ·grind
 ·cases e : (nth t.ns i).us with
  | true=>exact Qqc ((key i hi).1 e).2.2.2.2
  | false=>
   rw [(hF i hi e).2.1];intro k hk
   grind
 grind [nth,QrZ,hi]
theorem Qgs {α : Type} : ∀ {A B : List α} {x : α},(A ++ B).Nodup → x ∈ A → x ∈ B → False:=fun h h1 h2=>(List.nodup_append.1 h).2.2 _ h1 _ h2 rfl
theorem Qed {α β : Type} [Inhabited α] {f : α → List β} : ∀ {l : List α},(l.flatMap f).Nodup → ∀ {i j : Nat} {c : β},i < l.length → j < l.length → c ∈ f (nth l i) → c ∈ f (nth l j) → i = j
 | [],_,i,j,c,hi,_,_,_=>absurd hi (Nat.not_lt_zero _)
 | x :: l,h,i,j,c,hi,hj,h1,h2=>by
  rw [List.flatMap_cons] at h;have hm : ∀ k,k < l.length → c ∈ f (nth l k) → c ∈ l.flatMap f:=fun k hk hc=>List.mem_flatMap.2 ⟨_,QC hk,hc⟩;cases i with
  | zero=>
   cases j with
   | zero=>rfl
   | succ j=>exact (Qgs h h1 (hm j (by simpa using hj) h2)).elim
  | succ i=>
   cases j with
   | zero=>exact (Qgs h h2 (hm i (by simpa using hi) h1)).elim
   | succ j=>rw [Qed (List.nodup_append.1 h).2.1 (by simpa using hi) (by simpa using hj) h1 h2]
def Way (ns : List Nd) : List Nat → Prop
 | []=>False
 | [r]=>r = 0
 | c :: p :: P=>((c : Int) ∈ (nth ns p).cs ∧ p < ns.length) ∧ Way ns (p :: P)
theorem Qbz {co : Int} {ns : List Nd} (ht : TOk co ns) (h0 : 0 < ns.length) : ∀ {P : List Nat},Way ns P → ∀ x ∈ P,x < ns.length
 | [],h,_,_=>h.elim
 | [r],h,x,hx=>by
  rw [List.mem_singleton.1 hx,show r = 0 from h];exact h0
 | c :: p :: P,h,x,hx=>by
  rcases List.mem_cons.1 hx with rfl | hx
  ·have:=(ht.kid p h.1.2 _ h.1.1).1;omega
  ·exact Qbz ht h0 h.2 x hx
theorem QkY {ns : List Nd} : ∀ {P : List Nat},Way ns P → ∀ j,j + 1 < P.length → ((nth P j : Nat) : Int) ∈ (nth ns (nth P (j + 1))).cs ∧ nth P (j + 1) < ns.length
 | [],h,_,_=>h.elim
 | [r],h,j,hj=>absurd hj (by simp)
 | c :: p :: P,h,0,hj=>h.1
 | c :: p :: P,h,j + 1,hj=>QkY h.2 j (by simpa using hj)
theorem Qjt {ns : List Nd} : ∀ {P : List Nat},Way ns P → nth P (P.length - 1) = 0
 | [],h=>h.elim
 | [r],h=>h
 | c :: p :: P,h=>by
  have h1:=Qjt h.2
  grind [nth]
theorem Qd1 {co : Int} {ns : List Nd} (ht : TOk co ns) : ∀ {P : List Nat},Way ns P → P.Nodup
 | [],h=>h.elim
 | [r],h=>by simp
 | c :: p :: P,h=>by
  have h1:=Qd1 ht h.2;refine List.nodup_cons.2 ⟨fun hc=>?_,h1⟩;obtain ⟨j,hj,e⟩:=List.getElem_of_mem hc;have e2 : nth (p :: P) j = c:=Zr (by rw [List.getElem?_eq_getElem hj,e]);have hk:=ht.kid p h.1.2 _ h.1.1;rcases Nat.lt_or_ge (j + 1) (p :: P).length with h2 | h2
  ·have h3:=QkY h.2 j h2;rw [e2] at h3;have h4:=Qed ht.once h.1.2 h3.2 h.1.1 h3.1
   have h5 : (p :: P)[0]? = (p :: P)[j + 1]?:=by
    rw [Z5 h2,← h4];rfl
   have:=(List.getElem?_inj (by simp) h1).1 h5;omega
  ·have h3:=Qjt h.2
   grind
theorem QfA : ∀ (n : Nat) (l : List Nat),l.Nodup → (∀ x ∈ l,x < n) → l.length ≤ n
 | 0,l,_,h=>by
  cases l with
  | nil=>exact Nat.le_refl _
  | cons x l=>exact absurd (h x (List.mem_cons_self ..)) (Nat.not_lt_zero _)
 | n + 1,l,hd,h=>by
  have h1:=QfA n (l.erase n) (hd.erase n) (fun x hx=>by
   have h2:=(hd.mem_erase_iff).1 hx;have:=h x h2.2;omega)
  have h2:=List.length_erase_le (a:=n) (l:=l);rw [List.length_erase] at h1;split at h1 <;> omega
theorem ZY {co : Int} {ns : List Nd} (ht : TOk co ns) (h0 : 0 < ns.length) {P : List Nat} (h : Way ns P) : P.length ≤ ns.length:=QfA _ _ (Qd1 ht h) (Qbz ht h0 h)
end Gx
namespace Gx
open Go Go.RowKit
theorem QjB : ∀ a b,Lib.compareBytes a b = Qbf a b
 | [],[]=>rfl
 | [],_ :: _=>rfl
 | _ :: _,[]=>rfl
 | a :: x,b :: y=>by
  unfold Lib.compareBytes Qbf;rw [QjB x y]
section
variable {P : Program} {o : Oper} {L : Qb}
def Qtg (P : Program) (f : FuncId) : Prop := ∃ fn, P.funcs[f]? = some fn ∧ (fn.name == "runtime.NumGoroutine") = false ∧ fn.body.isNone = true ∧ Extern.findNext fn = none ∧ Extern.find fn = some Extern.BytealgCompare.compare
theorem Qem {f : FuncId} {x y : Operand} {a b : List UInt8} {at' : Array TypeId} {C : World → Prop} (ho : o.op = .call { callee:=.value (.func f),args:=#[x,y],argTypes:=at' }) (hx : ev L x = some (.string (bs a))) (hy : ev L y = some (.string (bs b))) (hf : Qtg P f) : OpQ P o L C (.int .i64 (Qbf a b)):=by
 intro ρ w hρ hw;obtain ⟨fn,h1,h2,h3,h4,h5⟩:=hf;have hcall:=run_callFunc_extern h1 h2 h3 h4 h5 #[.string (bs a),.string (bs b)] w;rw [Lib.run_compareString,bs_data,bs_data,QjB] at hcall
 have : (execOp ρ o).run P w = .ok (.value (.int .i64 (Qbf a b))) w:=by
  unfold execOp;simp only [ho,resolve,Sem.run_bind,hρ (.func f) _ rfl,Deferred.ofValue,Sem.run_pure,Result.andThen_ok,invoke,List.map_toArray,List.map_cons,List.map_nil,hρ _ _ hx,hρ _ _ hy,Array.empty_append,Array.append_empty,hcall]
 rw [this];exact ⟨rfl,Below.refl _ _⟩
end
end Gx
namespace Gx
open Go Go.RowKit
theorem HS.own_at {w0 w : World} {M : List Nat} {As As' : List HA} {g n n' cap t sz : Nat} {xs : List Value} (h : HS w0 M As w) (hp : QD As (.own (.slice (some ⟨g,0,none⟩) n' cap) t sz n xs) As') : HS w0 M (.blk g t (cap * sz) xs :: As') w:=by
 have h1:=h.pick hp;refine h1.turn (fun b hb=>by simpa [HA.fp_own,HA.fp_blk,Value.ownBlock] using hb) fun ho=>?_;obtain ⟨_,⟨e,_⟩ | ⟨g',cap',e,_,_,hb⟩⟩:=ho
 ·grind
 ·injection e with e1 e2 e3
  injection e1 with e1
  injection e1 with e1
  subst e1 e3;exact hb
end Gx
namespace Gx
open Go Go.RowKit
section
variable {S : Type} (st : S → Vis → S) (er : S → Vis → Int × Int)
def Qre : S → List Vis → (Int × Int) × S
 | s,[]=>((0,0),s)
 | s,v :: vs=>if (er s v).2 = 0 then Qre (st s v) vs else (er s v,st s v)
end
def Yu (ns : List Nd) (v : Vis) (k : Nat) : Vis:=⟨((nth ns v.i).cs.getD k 0).toNat,v.d + 1,loK (nth ns v.i).es k v.lo,hiK (nth ns v.i).es k v.hi⟩
def Qb5 (ns : List Nd) (f : Nat) (v : Vis) (k : Nat) : List Vis:=v :: (List.range k).flatMap fun k=>vis ns f (Yu ns v k)
theorem Qux (ns : List Nd) (f : Nat) (v : Vis) : Qb5 ns f v 0 = [v]:=rfl
theorem X7 (ns : List Nd) (f : Nat) (v : Vis) (k : Nat) : Qb5 ns f v (k + 1) = Qb5 ns f v k ++ vis ns f (Yu ns v k):=by
 unfold Qb5;rw [List.range_succ,List.flatMap_append,List.flatMap_singleton];rfl
theorem QaA (ns : List Nd) (f : Nat) (v : Vis) : vis ns (f + 1) v = Qb5 ns f v (nth ns v.i).cs.length:=rfl
theorem QbJ (ns : List Nd) (f : Nat) (v : Vis) {k m : Nat} (h : k ≤ m) : ∃ B,Qb5 ns f v m = Qb5 ns f v k ++ B:=by
 induction m with
 | zero=>simp_all
 | succ m ih=>
  rcases Nat.lt_or_ge m k with h1 | h1
  ·obtain rfl : k = m + 1:=by omega
   simp_all
  grind [vis,Yu,X7]
theorem Qb3 {ns : List Nd} {i : Nat} {P : List Nat} (h : Way ns (i :: P)) (hi : i < ns.length) {k : Nat} (hk : k < (nth ns i).cs.length) (hc : 0 ≤ (nth ns i).cs.getD k 0) : Way ns (((nth ns i).cs.getD k 0).toNat :: i :: P):=by
 refine ⟨⟨?_,hi⟩,h⟩
 grind
theorem QdG {co : Int} {ns : List Nd} (ht : TOk co ns) {i k : Nat} (hi : i < ns.length) (hk : k < (nth ns i).cs.length) : 1 ≤ (nth ns i).cs.getD k 0 ∧ (nth ns i).cs.getD k 0 ≤ (ns.length : Int) - 1 ∧ (nth ns ((nth ns i).cs.getD k 0).toNat).us = true:=by
 have hm : (nth ns i).cs.getD k 0 ∈ (nth ns i).cs:=by grind
 have h:=ht.kid i hi _ hm
 grind
def Y4 (co : Int) (ns : List Nd) (key : List UInt8) : Nat → Nat → List Nat × Nat × Bool
 | 0,_=>([],0,false)
 | f + 1,i=>if fnd co (nth ns i).es key = true ∨ (nth ns i).cs.length = 0 then ([i],plc co (nth ns i).es key,fnd co (nth ns i).es key)
   else (i :: (Y4 co ns key f ((nth ns i).cs.getD (plc co (nth ns i).es key) 0).toNat).1,(Y4 co ns key f ((nth ns i).cs.getD (plc co (nth ns i).es key) 0).toNat).2)
def Qv (co : Int) (ns : List Nd) (key : List UInt8) : List Nat × Nat × Bool:=Y4 co ns key ns.length 0
structure Bd (ns : List Nd) : Prop where
 len : ns.length ≤ 1000
 es : ∀ i,i < ns.length → (nth ns i).es.length ≤ 1000
 cs : ∀ i,i < ns.length → (nth ns i).cs.length ≤ 1000
theorem Qr (L : List LNd) : (pln L).length = L.length:=by simp
theorem Yx {L : List LNd} {i : Nat} (h : i < L.length) : nth (pln L) i = (nth L i).pl:=by simp_all [Zr,Z5]
theorem QlW (L M : List LNd) : pln (L ++ M) = pln L ++ pln M:=by simp
def Qry (w : World) (M : List Nat) (p : Option Addr) (o : Option (List UInt8)) : Prop:=match o with
 | none=>p = none
 | some k=>∃ b off,p = some ⟨b,off,none⟩ ∧ Rd w M b off (.string (bs k))
theorem Qbu {As Cs Ds : List HA} (h : Qby As Cs Ds) : ∀ b ∈ fps Cs,b ∈ fps As:=fun b hb=>by
 obtain ⟨A,hA,hb⟩:=List.mem_flatMap.1 hb;exact List.mem_flatMap.2 ⟨A,(List.Perm.mem_iff h).2 (List.mem_append_left _ hA),hb⟩
section
variable (t : Tre) (i : Nat)
def nE1 : Int:=if ((nth t.ns i).es.length : Int) ≤ QaD t.mo t.rm i then if (nth t.ns i).cs.length = 0 ∨ (nth t.ns i).cs.length = (nth t.ns i).es.length + 1 then 0 else 10 else 16
def nE2 : Int:=if nE1 t i = 0 then ZS t.co (nth t.ns i).es else nE1 t i
def nE3 (seen : List Int) : Int × List Int:=if nE2 t i = 0 then Yl t.ns (nth t.ns i).cs seen else (nE2 t i,seen)
def nE4 (seen : List Int) : Int:=if (nE3 t i seen).1 = 0 then Qbd t.co (nth t.ns i).es else (nE3 t i seen).1
end
def QgW (ns : List Nd) (c : Int) : Prop:=(1 ≤ c ∧ c ≤ (ns.length : Int) - 1) ∧ (nth ns c.toNat).us = true
instance (ns : List Nd) (c : Int) : Decidable (QgW ns c):=inferInstanceAs (Decidable (_ ∧ _))
def Qec (ns : List Nd) (c : Int) (seen : List Int) : Int:=if QgW ns c then if c ∈ seen then 23 else 0 else 6
def Qh6 (ns : List Nd) (c : Int) (seen : List Int) : List Int:=if QgW ns c then c :: seen else seen
theorem Qkj (ns : List Nd) (c : Int) (cs seen : List Int) : Yl ns (c :: cs) seen = if Qec ns c seen = 0 then Yl ns cs (Qh6 ns c seen) else (Qec ns c seen,Qh6 ns c seen):=by grind [Qec,Qh6,Yl,QgW,nth]
theorem Qmt {cs : List Int} {k : Nat} (h : k < cs.length) : cs.drop k = cs.getD k 0 :: cs.drop (k + 1):=by simp_all
theorem QcY {co : Int} {es : List TEnt} {k : Nat} (h : k < es.length) : (es.map (Zx co)).getD k 0 = Zx co (nth es k):=by
 rw [Qdc (d:=default) h];rfl
theorem QcS {co : Int} {es : List TEnt} {k : Nat} (h : k < es.length) : ((List.range es.length).map (QcE co es)).getD k 0 = QcE co es k:=by grind
theorem QbA {co : Int} {x : TEnt} (h : Zx co x = 0) : QB co x.key = true:=by grind [Zx,Xq]
theorem QgV {co : Int} {k : List UInt8} (h : QB co k = true) : 1 ≤ k.length ∧ k.length ≤ 40:=by grind [QB]
def Qc0 (cs : List Int) (n : Int) : List Bool:=cs.map fun c=>decide (n = c)
theorem Qbn (cs : List Int) (n : Int) : (Qc0 cs n).length = cs.length:=by simp [Qc0]
theorem Qju {cs : List Int} {n : Int} {k : Nat} (h : k < cs.length) : (Qc0 cs n).getD k false = decide (n = cs.getD k 0):=by grind [Qc0,Qdc]
theorem Qoz (cs : List Int) (n : Int) : (Qc0 cs n).any id = decide (n ∈ cs):=by
 unfold Qc0;rw [List.any_map]
 grind
def QcG (t : Tre) (v : Vis) : Bool:=decide (0 < v.i) && (decide (((nth t.ns v.i).es.length : Int) < t.mo / 2) || ((decide ((nth t.ns 0).es.length = 0) && decide ((v.i : Int) ∈ (nth t.ns 0).cs)) && decide (((nth t.ns v.i).es.length : Int) ≤ t.rm)))
def QdT (t : Tre) (v : Vis) (x : TEnt) : Bool:=(v.lo.any fun b=>decide (0 ≤ Xm t.co b x.key)) || (v.hi.any fun b=>decide (0 ≤ Xm t.co x.key b))
def Qdt (t : Tre) (v : Vis) : Bool:=(nth t.ns v.i).es.any (QdT t v)
def erV (t : Tre) (s : Int) (v : Vis) : Int × Int:=((v.i : Int),if QcG t v = true then 14 else if Qdt t v = true then 9 else if (nth t.ns v.i).cs.length = 0 then (if (if s = 0 then v.d else s) = v.d then 0 else 22) else 0)
def stV (t : Tre) (s : Int) (v : Vis) : Int:=if QcG t v = true then s else if Qdt t v = true then s else if (nth t.ns v.i).cs.length = 0 then (if s = 0 then v.d else s) else s
theorem QeS (t : Tre) (deep : Int) (v : Vis) : Qey t deep v = if QcG t v = true then 14 else if Qdt t v = true then 9 else if (nth t.ns v.i).cs.length = 0 ∧ v.d ≠ deep + 1 then 22 else 0:=by
 unfold Qey;simp only [];have h : QcG t v = true ↔ (0 < v.i ∧ (((nth t.ns v.i).es.length : Int) < t.mo / 2 ∨ ((nth t.ns 0).es.length = 0 ∧ (v.i : Int) ∈ (nth t.ns 0).cs) ∧ ((nth t.ns v.i).es.length : Int) ≤ t.rm)):=by grind [QcG]
 by_cases h1 : QcG t v = true
 ·grind
 ·rw [if_neg (fun h2=>h1 (h.2 h2)),if_neg h1];rfl
def marV (s : List Bool) (v : Vis) : List Bool:=s.set v.i true
def KOk (co : Int) (o : Option (List UInt8)) : Prop:=∀ k,o = some k → QB co k = true ∧ k.length ≤ 1000000
theorem Qfn {co : Int} {ns : List Nd} (hT : TOk co ns) {i : Nat} (hi : i < ns.length) : ∀ x ∈ (nth ns i).es,QB co x.key = true ∧ x.key.length ≤ 1000000:=fun x hx=>by
 have h:=QbA (hT.ents i hi x hx)
 grind [QgV]
theorem QhW {co : Int} {ns : List Nd} (hT : TOk co ns) {v : Vis} (hi : v.i < ns.length) {k : Nat} (hk : k ≤ (nth ns v.i).es.length) (h : KOk co v.lo) : KOk co (Yu ns v k).lo:=by
 intro x hx;unfold Yu loK at hx;simp only [] at hx;split at hx
 ·grind [Qfn,hi,QC]
 ·exact h x hx
theorem QhX {co : Int} {ns : List Nd} (hT : TOk co ns) {v : Vis} (hi : v.i < ns.length) {k : Nat} (h : KOk co v.hi) : KOk co (Yu ns v k).hi:=by
 intro x hx;unfold Yu hiK at hx;simp only [] at hx;split at hx
 ·grind [Qfn,hi,QC]
 ·exact h x hx
def Qcc (t : Tre) : Int × Int:=match QdM t.ns ((Qb8 t.ns).map Vis.i) t.ns.length 0 with
 | some i=>((i : Int),21)
 | none=>Ym t (ZA t.ns t.ns.length 0) (Qb8 t.ns)
theorem Qkf {t : Tre} {deep : Int} : ∀ {vs : List Vis},(Ym t deep vs).2 = 0 → Ym t deep vs = (0,0)
 | [],_=>rfl
 | v :: vs,h=>by
  rw [Ym] at h ⊢;split at h
  ·simp_all [Qkf]
  grind
theorem Qq6 {t : Tre} (h : (Qcc t).2 = 0) : (Qcc t).1 = 0:=by grind [Qcc,Qkf]
def ZM (n : Nat) : Int:=if 0 < n then if n ≤ 120 then 0 else 8 else 10
theorem QdZ {t : Tre} (h : ¬ (if Qp t.co = 0 then XO t.mo t.rm else Qp t.co) = 0) : YX t = (0,if Qp t.co = 0 then XO t.mo t.rm else Qp t.co):=by grind [YX,Qp,XO]
theorem Qkv {t : Tre} (h : (if Qp t.co = 0 then XO t.mo t.rm else Qp t.co) = 0) : Qp t.co = 0 ∧ XO t.mo t.rm = 0:=by grind
theorem Qtv {mo rm : Int} (h : XO mo rm = 0) : (3 ≤ mo ∧ mo ≤ 8) ∧ (mo / 2 ≤ rm ∧ rm ≤ mo):=by grind [XO]
theorem Qfc {t : Tre} (h : (if Qp t.co = 0 then XO t.mo t.rm else Qp t.co) = 0) (h2 : ¬ ZM t.ns.length = 0) : YX t = (0,ZM t.ns.length):=by grind [Qkv,YX,ZM]
theorem QoD {n : Nat} (h : ZM n = 0) : 0 < n ∧ n ≤ 120:=by grind [ZM]
theorem Qgi {t : Tre} (h : (if Qp t.co = 0 then XO t.mo t.rm else Qp t.co) = 0) (h2 : ZM t.ns.length = 0) : YX t = if (Yy t t.ns.length 0 []).2 = 0 then Qcc t else Yy t t.ns.length 0 []:=by
 obtain ⟨h3,h4⟩:=Qkv h;obtain ⟨h5,h6⟩:=QoD h2;unfold YX;rw [if_pos h3,if_pos h4,if_pos h5,if_pos h6];rfl
theorem Qns {t : Tre} (h : (YX t).2 = 0) : Qp t.co = 0 ∧ XO t.mo t.rm = 0 ∧ 0 < t.ns.length ∧ t.ns.length ≤ 120 ∧ (Yy t t.ns.length 0 []).2 = 0 ∧ (Qcc t).2 = 0 ∧ YX t = (0,0):=by
 by_cases h1 : (if Qp t.co = 0 then XO t.mo t.rm else Qp t.co) = 0
 ·grind [ZM,Qgi,Qkv,QoD,Qq6,Qfc]
 grind [QdZ]
theorem QjM {t : Tre} {k : Nat} {seen : List Int} (h : k < t.ns.length) : Yy t (t.ns.length - k) k seen = if (Yg t k seen).1 = 0 then Yy t (t.ns.length - (k + 1)) (k + 1) (Yg t k seen).2 else ((k : Int),(Yg t k seen).1):=by
 rw [show t.ns.length - k = t.ns.length - (k + 1) + 1 by omega,Yy]
theorem Qnd {ns : List Nd} {below : List Nat} {k : Nat} (h : k < ns.length) : QdM ns below (ns.length - k) k = if (nth ns k).us = true ∧ k ∉ below then some k else QdM ns below (ns.length - (k + 1)) (k + 1):=by
 rw [show ns.length - k = ns.length - (k + 1) + 1 by omega,QdM]
theorem QjT {t : Tre} {i : Nat} (h : QdM t.ns ((Qb8 t.ns).map Vis.i) t.ns.length 0 = some i) : Qcc t = ((i : Int),21):=by
 unfold Qcc;rw [h]
theorem QjW {t : Tre} (h : QdM t.ns ((Qb8 t.ns).map Vis.i) t.ns.length 0 = none) : Qcc t = Ym t (ZA t.ns t.ns.length 0) (Qb8 t.ns):=by
 unfold Qcc;rw [h]
end Gx
namespace Gx
open Go Go.RowKit
section
variable {P : Program} {o : Oper} {L : Qb} {w0 : World} {M : List Nat} {As As' : List HA}
def QrH (P : Program) (t te : TypeId) : Prop:=P.underlying t = some (.pointer te) ∧ ∃ j,P.info? te = some j ∧ j.size ≠ 0
theorem QqE {t te : TypeId} {n : Nat} {b : Bool} (h : P.underlying t = some (.pointer te)) (h2 : tsz P te = some (n,b)) (hn : n ≠ 0) : QrH P t te:=by
 refine ⟨h,?_⟩
 grind [tsz,hi]
theorem ptee {t te : TypeId} (h : P.underlying t = some (.pointer te)) : P.underlying t = some (.pointer (P.pointee t)):=by
 rw [h];simp [Program.pointee,h]
theorem QgO {t t' te : TypeId} {x y : Operand} {p : Option Addr} (ho : o.op = .binOp .eql t x y t') (hx : ev L x = some (.pointer p)) (hy : ev L y = some (.pointer none)) (ht : QrH P t te) : OpP P o L (.bool p.isNone):=by
 intro ρ w hρ;have hg : (eqGuard .eql t x y (.pointer p) (.pointer none)).run P w = .ok () w:=by unfold eqGuard;simp
 simp only [execOp,ho,hρ _ _ hx,hρ _ _ hy,Sem.run_bind,hg,run_eql_pointer_nil w t p (ptee ht.1),Result.andThen_ok,Sem.run_pure]
theorem QjF {t t' te : TypeId} {x y : Operand} {p : Option Addr} (ho : o.op = .binOp .neq t x y t') (hx : ev L x = some (.pointer p)) (hy : ev L y = some (.pointer none)) (ht : QrH P t te) : OpP P o L (.bool p.isSome):=by
 intro ρ w hρ;have hg : (eqGuard .neq t x y (.pointer p) (.pointer none)).run P w = .ok () w:=by unfold eqGuard;simp
 have h:=run_neq_pointer_nil w t p (ptee ht.1);simp only [execOp,ho,hρ _ _ hx,hρ _ _ hy,Sem.run_bind,hg,h,Result.andThen_ok,Sem.run_pure];cases p <;> rfl
end
end Gx
namespace Gx
open Go Go.RowKit
section
variable {P : Program} {o : Oper} {L : Qb} {w0 : World} {M : List Nat} {As As' : List HA}
end
theorem Rw.cut {α : Type} [Inhabited α] {vals : α → List Value} {sz : Nat} {w : World} {M : List Nat} {a : Option Addr} {l : List α} (h : Rw vals sz w M a l) {cap i : Nat} (hc : l.length ≤ cap) : Rw vals sz w M (XC a cap i sz) (l.drop i):=
 ⟨fun hn=>by
  rw [List.length_drop] at hn;obtain ⟨b,o,rfl,h2⟩:=h.at_ (by omega);refine ⟨b,o + i * sz,?_,fun j hj=>?_⟩
  ·unfold XC;rw [if_neg (by omega)];simp [Xo]
  ·rw [List.length_drop] at hj;have e : nth (l.drop i) j = nth l (i + j):=Zr (by rw [List.getElem?_drop];exact Z5 (by omega));have h3:=h2 (i + j) (by omega);simp only [e];refine ⟨h3.1,fun q v hv=>?_⟩;have h4:=h3.2 q v hv;rw [show o + (i + j) * sz + q = o + i * sz + j * sz + q by rw [Nat.add_mul];omega] at h4;exact h4⟩
section
variable {w0 w : World} {M : List Nat} {As As' As'' : List HA} {gn cap et nt' : Nat} {a : Option Addr} {L : List LNd}
end
def usN (ns : List Nd) (i : Nat) (us : Bool) : List Nd:=ns.set i { nth ns i with us:=us }
def esN (ns : List Nd) (i : Nat) (es : List TEnt) : List Nd:=ns.set i { nth ns i with es:=es }
def csN (ns : List Nd) (i : Nat) (cs : List Int) : List Nd:=ns.set i { nth ns i with cs:=cs }
def QjK (ns : List Nd) : Nat:=ixB (ns.map fun n=>!n.us)
def QaZ (ns : List Nd) : Nat × List Nd:=if QjK ns < ns.length then (QjK ns,usN ns (QjK ns) true) else (ns.length,ns ++ [⟨true,[],[]⟩])
def ZF (i : Int) : List Nd → Nat → Nat × Nat
 | [],_=>(0,0)
 | n :: ns,p=>if ixB (Qc0 n.cs i) < n.cs.length then (p,ixB (Qc0 n.cs i)) else ZF i ns (p + 1)
def ZW (mo : Int) : Nat:=((mo + 1) / 2).toNat
def Y6 (mo : Int) (ns : List Nd) (i : Nat) : List Nd:=
 if (nth (QaZ ns).2 i).cs.length = 0 then esN (esN (QaZ ns).2 (QaZ ns).1 ((nth (QaZ ns).2 i).es.drop (ZW mo + 1))) i ((nth (QaZ ns).2 i).es.take (ZW mo))
 else csN (csN (esN (esN (QaZ ns).2 (QaZ ns).1 ((nth (QaZ ns).2 i).es.drop (ZW mo + 1))) i ((nth (QaZ ns).2 i).es.take (ZW mo))) (QaZ ns).1 ((nth (QaZ ns).2 i).cs.drop (ZW mo + 1))) i ((nth (QaZ ns).2 i).cs.take (ZW mo + 1))
def addP (ns : List Nd) (p k : Nat) (up : TEnt) (own : Nat) : List Nd:=csN (esN ns p (Qcg (nth ns p).es k up)) p (Qcg (nth ns p).cs (k + 1) (own : Int))
def splN (mo : Int) (ns : List Nd) (i : Nat) : List Nd:=addP (Y6 mo ns i) (ZF (i : Int) (Y6 mo ns i) 0).1 (ZF (i : Int) (Y6 mo ns i) 0).2 (nth (nth (QaZ ns).2 i).es (ZW mo)) (QaZ ns).1
structure SplOk (mo : Int) (ns : List Nd) (i : Nat) : Prop where
 mo0 : 0 ≤ mo ∧ mo ≤ 1000
 bd : Bd ns
 lt : i < ns.length
 us : (nth ns i).us = true
 es : ZW mo < (nth ns i).es.length
 cs : (nth ns i).cs.length = 0 ∨ ZW mo + 1 ≤ (nth ns i).cs.length
 par : (ZF (i : Int) (Y6 mo ns i) 0).1 < (Y6 mo ns i).length
 parE : (ZF (i : Int) (Y6 mo ns i) 0).2 ≤ (nth (Y6 mo ns i) (ZF (i : Int) (Y6 mo ns i) 0).1).es.length
 parC : (ZF (i : Int) (Y6 mo ns i) 0).2 + 1 ≤ (nth (Y6 mo ns i) (ZF (i : Int) (Y6 mo ns i) 0).1).cs.length
def QdR (ns : List Nd) : Nat × List Nd:=((QaZ ns).1,csN (esN (csN (esN (QaZ ns).2 (QaZ ns).1 (nth ns 0).es) (QaZ ns).1 (nth ns 0).cs) 0 []) 0 [((QaZ ns).1 : Int)])
def QuB (mo : Int) (ns : List Nd) (i : Nat) : List Nd:=if 0 < i ∧ mo < ((nth ns i).es.length : Int) then splN mo ns i else ns
def Qs4 (mo : Int) (ns : List Nd) (P : List Nat) : List Nd:=P.foldl (QuB mo) ns
def grwR (mo rm : Int) (ns : List Nd) : List Nd:=if rm < ((nth ns 0).es.length : Int) then if mo < ((nth (QdR ns).2 (QdR ns).1).es.length : Int) then splN mo (QdR ns).2 (QdR ns).1 else (QdR ns).2 else ns
def grwN (mo rm : Int) (ns : List Nd) (P : List Nat) : List Nd:=grwR mo rm (Qs4 mo ns P)
def insN (co mo rm : Int) (ns : List Nd) (x : TEnt) : List Nd:=
 let p:=Qv co ns x.key
 let leaf:=nth p.1 (p.1.length - 1)
 grwN mo rm (esN ns leaf (Qcg (nth ns leaf).es p.2.1 x)) p.1.reverse
abbrev LNd.noE (n : LNd) : LNd:={ n with ea:=none,ec:=0,es:=[] }
abbrev LNd.noC (n : LNd) : LNd:={ n with ca:=none,cc:=0,cs:=[] }
abbrev ownE (et : Nat) (n : LNd) : HA:=.own (.slice n.ea n.es.length n.ec) et 2 n.es.length (n.es.flatMap TEnt.vals)
abbrev ownC (n : LNd) : HA:=.own (.slice n.ca n.cs.length n.cc) 3 1 n.cs.length (n.cs.flatMap inV)
section
variable {w0 w : World} {M : List Nat} {As As' As'' : List HA} {et : Nat} {L : List LNd} {i : Nat}
end
structure NdSet (L L' : List LNd) (i : Nat) (x : LNd) : Prop where
 lt : i < L.length
 eq : L' = L.set i x
section
variable {w0 w : World} {M : List Nat} {As A1 A2 A3 : List HA} {et : Nat} {L : List LNd} {i gn cap nt' : Nat}
end
def Sm (m : Nat) (ns : List Nd) : Prop:=∀ k,(nth ns k).es.length ≤ m ∧ (nth ns k).cs.length ≤ m
structure SpOk (mo : Int) (ns : List Nd) (i : Nat) : Prop where
 mo0 : 0 ≤ mo ∧ mo ≤ 1000
 len : ns.length ≤ 900
 sm : Sm 900 ns
 lt : i < ns.length
 us : (nth ns i).us = true
 es : ZW mo < (nth ns i).es.length
 cs : (nth ns i).cs.length = 0 ∨ ZW mo + 1 ≤ (nth ns i).cs.length
 par : (ZF (i : Int) (Y6 mo ns i) 0).1 < (Y6 mo ns i).length
 parE : (ZF (i : Int) (Y6 mo ns i) 0).2 ≤ (nth (Y6 mo ns i) (ZF (i : Int) (Y6 mo ns i) 0).1).es.length
 parC : (ZF (i : Int) (Y6 mo ns i) 0).2 + 1 ≤ (nth (Y6 mo ns i) (ZF (i : Int) (Y6 mo ns i) 0).1).cs.length
abbrev LNd.non (n : LNd) : LNd:=⟨n.us,none,0,[],none,0,[]⟩
section
variable {w0 w : World} {M : List Nat} {As A1 A2 A3 : List HA} {et : Nat} {L : List LNd} {i j gn cap nt' : Nat}
end
end Gx
namespace Gx
open Go Go.RowKit
def HA.obj (b : Nat) (o : Obj) : HA:=⟨[b],fun w=>w.heap[b]? = some o,fun w w' h hk=>(h b (List.mem_singleton.2 rfl)).trans hk⟩
section
variable {w0 w : World} {M : List Nat} {As As' : List HA}
theorem HS.allocObj (h : HS w0 M As w) (o : Obj) : HS w0 M (.obj w.heap.size o :: As) (w.alloc o):=h.alloc o _ rfl (World.alloc_heap_new w o)
theorem HS.obj_get {b : Nat} {o : Obj} (h : HS w0 M As w) (hp : QD As (.obj b o) As') : w.heap[b]? = some o:=h.ok _ hp.mem
theorem HS.putObj {b : Nat} {o : Obj} (h : HS w0 M As w) (hp : QD As (.obj b o) As') (o' : Obj) : HS w0 M (.obj b o' :: As') (w.putObj b o'):=by
 have h1:=h.pick hp;have hb : w.heap[b]? = some o:=h1.head;have hlt : b < w.heap.size:=(Array.getElem?_eq_some_iff.1 hb).1;refine h1.swap (fun _ hx=>hx) rfl rfl rfl (by simp [World.putObj]) (fun c hc=>World.putObj_heap_other (fun e=>hc (by subst e;exact List.mem_singleton.2 rfl))) (World.putObj_heap_same hlt)
end
def Qhb (P : Program) (l : Nat) (args : Array Value) (w : World) (R : Ending → World → Prop) : Prop:=
 ∃ f tmps assign body,(Instr.yield l args).run P w = .ok (.round l f tmps assign body) w ∧ RoundIn Fence.wide 0 P l f tmps assign body w R
section
variable {P : Program} {o : Oper} {L : Qb}
theorem QrS {C : World → Prop} {G : Type} {V : G → Value} {F : G → Prop} {C' : G → World → Prop} {x : Operand} {args : Array Operand} {vs : List Value} {ts : Array TypeId} {l : Nat} (ho : o.op = .call { callee:=.value x,args:=args,argTypes:=ts }) (hx : ev L x = some (.func (.yield l) #[] #[]))
  (ha : evs L args.toList = some vs) (hy : ∀ w,C w → Qhb P l vs.toArray w fun e w'=>∃ g,e = .returned (V g) ∧ F g ∧ C' g w') : OpH P o L C V F C':=by
 intro ρ w hρ hw;obtain ⟨f,tmps,assign,body,hr,hR⟩:=hy w hw;have e1 : args.map ρ = vs.toArray:=by rw [← Qc4 hρ ha,← List.map_toArray]
 unfold execOp;simp only [ho,resolve,Sem.run_bind,hρ _ _ hx,Deferred.ofValue,e1,Sem.run_pure,Result.andThen_ok,invoke,Array.empty_append,hr];exact RoundIn.mono hR fun e w' ⟨g,he,hf,hc⟩=>⟨V g,he,g,rfl,hf,hc⟩
end
def rdy (fid : FuncId) (tmps : Array Value) (ps : Array Tmp) (assign body : Code) (D : Nat) : Loop:={ state:=.ready,pending:=none,fn:=fid,tmps:=tmps,params:=ps,assign:=assign,body:=body,defers:=D }
section
variable {X : Ctx} {k : List KI} {L : Qb} {w0 : World} {M : List Nat} {As As' : List HA}
theorem Qi4 {C : World → Prop} {l : Nat} (hrd : X.rd = some l) (h : ∀ w,C w → ∃ r,w.heap[l]? = some (.loop r) ∧ X.R (.returned (.bool true)) (w.putObj l (.loop { r with state:=.ready,pending:=none }))) : S X [] L C:=by
 intro a w ha hw;show (match X.rd with | none=>bodyPostM X.F 0 X.P X.fn X.R .normal a w | some l=>roundPost X.P l X.R .normal a w);rw [hrd];obtain ⟨r,h1,h2⟩:=h w hw;exact ⟨_,_,run_endRound none h1,h2⟩
theorem QoP {l D : Nat} {fid : FuncId} {tmps : Array Value} {ps : Array Tmp} {assign body : Code} (hrd : X.rd = some l) (hp : QD As (.obj l (.loop { rdy fid tmps ps assign body D with state:=.busy })) As') (h : ∀ w,HS w0 M (.obj l (.loop (rdy fid tmps ps assign body D)) :: As') w → X.R (.returned (.bool true)) w) : S X [] L (HS w0 M As):=
 Qi4 hrd fun w hw=>⟨_,hw.obj_get hp,h _ (hw.putObj hp _)⟩
theorem QeR (d : List Nat) : ∀ k,post { X with df:=d } k = post X k
 | []=>by funext e a w;rfl
 | Sum.inl c :: k=>by funext e a w;cases e <;> simp only [post,QeR d k]
 | Sum.inr (Sum.inl id) :: k=>by funext e a w;cases e <;> simp only [post,QeR d k]
 | Sum.inr (Sum.inr J) :: k=>by funext e a w;cases e <;> simp only [post,QeR d k]
theorem QrA {g : Operand} {ps : Array Tmp} {assign body : Code} {gf : FuncId} {lb : Array Value} {G : Type} {Bs : G → List HA} (hrd : X.rd = none) (hdf : X.df = []) (hg : ev L g = some (.func (.func gf) #[] lb)) (hfn : Xl X.P gf = true)
  (hit : ∀ (fid : FuncId) (D l : Nat) (a : Act) (w1 : World) (ob : Obj),ob = .loop (rdy fid a.tmps ps assign body D) → FR X.n [] L a → HS w0 M (.obj l ob :: .obj D (.deferred (some [])) :: As) w1 →
   Calls X.P gf (#[.func (.yield l) #[] #[]] ++ lb) w1 fun e w2=>(∃ v,e = .returned v) ∧ ∃ x,HS w0 M (.obj l ob :: .obj D (.deferred (some [])) :: Bs x) w2)
  (next : ∀ D x,S { X with df:=[D] } k L (HS w0 M (.obj D (.deferred (some [])) :: Bs x))) : S X (.c (.rangeFunc g ps assign body) :: k) L (HS w0 M As):=by
 intro a w ha hw;have ha0 : FR X.n [] L a:=by rw [← hdf];exact ha
 refine wpIn_rangeFunc (F:=X.F) (n:=0) fun fid _=>?_;have hro : X.F.round = none:=hrd;rw [hro];have hw1:=(hw.allocObj (.deferred (some []))).allocObj (.loop (rdy fid a.tmps ps assign body w.heap.size));rw [World.size_alloc] at hw1;have hen:=run_enterLoop_outer (P:=X.P) (w:=w) fid a.tmps ps assign body;obtain ⟨W1,hW1⟩ : ∃ W1,(w.alloc (.deferred (some []))).alloc (.loop (rdy fid a.tmps ps assign body w.heap.size)) = W1:=⟨_,rfl⟩;rw [hW1] at hw1;rw [show (Loop.mk .ready none fid a.tmps ps assign body w.heap.size) = rdy fid a.tmps ps assign body w.heap.size from rfl,hW1] at hen
 refine ⟨w.heap.size + 1,[{ target:=.collected w.heap.size,args:=#[] }],W1,{ target:=.fn (.func gf) lb,args:=#[.func (.yield (w.heap.size + 1)) #[] #[]] },W1,gf,
  #[.func (.yield (w.heap.size + 1)) #[] #[]] ++ lb,W1,hen,?_,fun _ _=>trivial,?_,fun h=>(by cases h),?_⟩
 ·simp only [resolve,ha.evl hg];simp [go_sem]
 ·simp [invoke,go_sem,Qdz hfn]
 ·refine CallsIn.mono (X.callsIn (hit fid _ _ a _ _ rfl ha0 hw1)) fun e w2 he=>?_;obtain ⟨⟨v,rfl⟩,x,hx⟩:=he;refine ⟨none,_,run_endLoop (hx.obj_get .here) (by simp [rdy]),?_⟩;have h3:=next w.heap.size x { a with defers:=[{ target:=.collected w.heap.size,args:=#[] }] ++ a.defers } _ ⟨by show _ ++ a.defers = _;rw [ha0.defers];rfl,ha0.size,ha0.slot⟩ (hx.putObj .here (.loop { rdy fid a.tmps ps assign body w.heap.size with state:=.exhausted })).tail
  rw [QeR] at h3;exact h3
end
end Gx
namespace Gx
open Go Go.RowKit
theorem Qfl {X : Ctx} {k : List KI} {L : Qb} {C : World → Prop} {α : Type} {c : Code} (md : List Nat) (Lm : α → Qb) (I : α → Prop) (h1 : S X (.c c :: .join (AtI X.n X.df (fun x=>Lm x ++ Qco md L) (fun _=>C) I) :: k) L C) (h2 : ∀ x,I x → S X k (Lm x ++ Qco md L) C) : S X (.c c :: k) L C:=
 Qa2 md Lm (fun _=>C) I h1 h2
end Gx
namespace Gx
open Go Go.RowKit
def HA.pure (p : Prop) : HA:=⟨[],fun _=>p,fun _ _ _ h=>h⟩
section
variable {w0 w : World} {M : List Nat} {As As' : List HA} {p : Prop}
theorem QtA {X : Ctx} {L : Qb} {D : Nat} (hr : X.fn.results = #[]) (hp : QD As (.obj D (.deferred (some []))) As') (h : ∀ w,HS w0 M As' w → X.R (.returned (.tuple #[])) w) (hrd : X.rd = none:=by rfl) (hdf : X.df = [D]:=by rfl) : S X [] L (HS w0 M As):=by
 intro a w ha hw;show (match X.rd with | none=>bodyPostM X.F 0 X.P X.fn X.R .normal a w | some l=>roundPost X.P l X.R .normal a w);rw [hrd];show LeavesInM X.F 0 X.P X.fn a.tmps X.R a.defers .returning w;rw [ha.defers,hdf];have h1:=(hw.putObj hp (.deferred none)).tail;exact ⟨by simp,.inl ⟨D,_,rfl,run_takeDeferred (hw.obj_get hp),.tuple #[],results_none hr _ _ _,h _ h1⟩⟩
end
end Gx
namespace Gx
open Go Go.RowKit
abbrev iN (P : List Nat) : List Int:=P.map fun i : Nat=>(i : Int)
theorem Qn1 {P : List Nat} {k : Nat} (h : k < P.length) : (iN P).getD k 0 = ((nth P k : Nat) : Int):=by
 rw [Qdc (d:=0) h];rfl
theorem QtQ {P : List Nat} {k : Nat} (h : k < P.length) : nth (iN P) k = ((nth P k : Nat) : Int):=Qn1 h
theorem Qa4 (P : List Nat) : (iN P).length = P.length:=by simp
def Qsh (mo : Int) : List Nd → List Nat → Prop
 | _,[]=>True
 | ns,i :: P=>(i < ns.length ∧ (0 < i → mo < ((nth ns i).es.length : Int) → SpOk mo ns i)) ∧ Qsh mo (QuB mo ns i) P
structure RootOk (mo rm : Int) (ns : List Nd) : Prop where
 lt : 0 < ns.length
 len : ns.length ≤ 900
 us : (nth ns 0).us = true
 spl : rm < ((nth ns 0).es.length : Int) → mo < ((nth (QdR ns).2 (QdR ns).1).es.length : Int) → SpOk mo (QdR ns).2 (QdR ns).1
def Qeb (co : Int) (ns : List Nd) (key : List UInt8) : Nat:=nth (Qv co ns key).1 ((Qv co ns key).1.length - 1)
def QnT (co : Int) (ns : List Nd) (x : TEnt) : List Nd:=esN ns (Qeb co ns x.key) (Qcg (nth ns (Qeb co ns x.key)).es (Qv co ns x.key).2.1 x)
def insT (co mo rm : Int) (ns : List Nd) (x : TEnt) : List Nd:=if (Qv co ns x.key).2.2 = true then ns else grwN mo rm (QnT co ns x) (Qv co ns x.key).1.reverse
def insE (co mo rm : Int) (ns : List Nd) (x : TEnt) : Int:=if (Qv co ns x.key).2.2 = true then 5 else if (insT co mo rm ns x).length ≤ 120 then 0 else 16
structure InsOk (co mo rm : Int) (ns : List Nd) (x : TEnt) : Prop where
 ne : 0 < (Qv co ns x.key).1.length
 len : (Qv co ns x.key).1.length ≤ 900
 lf : Qeb co ns x.key < ns.length
 es : (nth ns (Qeb co ns x.key)).es.length ≤ 900
 pl : (Qv co ns x.key).2.1 ≤ (nth ns (Qeb co ns x.key)).es.length
 grw : Qsh mo (QnT co ns x) (Qv co ns x.key).1.reverse
 root : RootOk mo rm (Qs4 mo (QnT co ns x) (Qv co ns x.key).1.reverse)
section
variable {w0 w : World} {M : List Nat} {As As' : List HA} {a : Option Addr} {cap : Nat} {P : List Nat}
theorem HS.kids_some {l : List Int} (hn : 0 < l.length) (h : HS w0 M As w) (hp : QD As (.kids a cap l) As') : ∃ g,a = some ⟨g,0,none⟩:=by
 obtain ⟨g,e,_⟩:=HS.own_blk hn hp h;exact ⟨g,e⟩
end
theorem Qq7 {co : Int} {ns : List Nd} (h : TOk co ns) : ∀ i,i < ns.length → ∀ x ∈ (nth ns i).es,QB co x.key = true ∧ x.key.length ≤ 1000000:=fun i hi x hx=>by
 have h1:=QbA (h.ents i hi x hx)
 grind [QgV]
section
variable {w0 w : World} {M : List Nat} {As A1 A2 A3 : List HA} {et : Nat} {L : List LNd} {i t gn cap nt' : Nat} {y : LNd}
end
section
variable {w0 w : World} {M : List Nat} {As A1 A2 A3 : List HA} {et : Nat} {L : List LNd} {i gn cap nt' : Nat}
end
def givF (ns : List Nd) (p k f t : Nat) : List Nd:=
 let P:=nth ns p;let F:=nth ns f;let T:=nth ns t
 let n:=esN (esN (esN ns t (Qcg T.es 0 (nth P.es k))) p (P.es.set k (nth F.es (F.es.length - 1)))) f (F.es.take (F.es.length - 1))
 if F.cs.length = 0 then n else csN (csN n t (Qcg T.cs 0 (F.cs.getD (F.cs.length - 1) 0))) f (F.cs.take (F.cs.length - 1))
def givB (ns : List Nd) (p k f t : Nat) : List Nd:=
 let P:=nth ns p;let F:=nth ns f;let T:=nth ns t
 let n:=esN (esN (esN ns t (T.es ++ [nth P.es k])) p (P.es.set k (nth F.es 0))) f (Qd3 F.es 0)
 if F.cs.length = 0 then n else csN (csN n t (T.cs ++ [F.cs.getD 0 0])) f (Qd3 F.cs 0)
structure GivOk (ns : List Nd) (p k f t : Nat) : Prop where
 pl : p < ns.length
 fl : f < ns.length
 tl : t < ns.length
 pf : p ≠ f
 pt : p ≠ t
 ft : f ≠ t
 ke : k < (nth ns p).es.length
 kc : k + 1 < (nth ns p).cs.length
 fe : 0 < (nth ns f).es.length
 len : ns.length ≤ 900
 sm : Sm 900 ns
abbrev LNd.gone : LNd:=⟨false,none,0,[],none,0,[]⟩
section
variable {w0 w : World} {M : List Nat} {As A1 A2 A3 : List HA} {et : Nat} {L : List LNd} {i j gn cap nt' : Nat}
end
def mrgN (ns : List Nd) (p k t f : Nat) : List Nd:=
 (csN (esN (csN (esN ns t ((nth ns t).es ++ nth (nth ns p).es k :: (nth ns f).es)) t ((nth ns t).cs ++ (nth ns f).cs)) p (Qd3 (nth ns p).es k)) p (Qd3 (nth ns p).cs (k + 1))).set f ⟨false,[],[]⟩
structure MrgOk (ns : List Nd) (p k f t : Nat) : Prop where
 pl : p < ns.length
 fl : f < ns.length
 tl : t < ns.length
 pf : p ≠ f
 pt : p ≠ t
 ft : f ≠ t
 ke : k < (nth ns p).es.length
 kc : k + 1 < (nth ns p).cs.length
 len : ns.length ≤ 900
 sm : Sm 900 ns
def kdN (ns : List Nd) (p k : Nat) : Nat:=((nth ns p).cs.getD k 0).toNat
def Qsg (mo : Int) (ns : List Nd) (p : Nat) (x : Int) : Bool:=(decide (0 ≤ x) && decide (x ≤ ((nth ns p).cs.length : Int) - 1)) && decide (mo / 2 < ((nth ns (kdN ns p x.toNat)).es.length : Int))
def filP (mo : Int) (ns : List Nd) (p k : Nat) : List Nd:=
 if Qsg mo ns p ((k : Int) - 1) = true then givF ns p (k - 1) (kdN ns p (k - 1)) (kdN ns p k)
 else if Qsg mo ns p ((k : Int) + 1) = true then givB ns p k (kdN ns p (k + 1)) (kdN ns p k)
 else if 0 < k then mrgN ns p (k - 1) (kdN ns p (k - 1)) (kdN ns p k)
 else if 1 < (nth ns p).cs.length then mrgN ns p k (kdN ns p k) (kdN ns p (k + 1))
 else ns
def filN (mo : Int) (ns : List Nd) (i : Nat) : List Nd:=filP mo ns (ZF (i : Int) ns 0).1 (ZF (i : Int) ns 0).2
structure FilOk (mo : Int) (ns : List Nd) (p k : Nat) : Prop where
 mo0 : 0 ≤ mo ∧ mo ≤ 1000
 pl : p < ns.length
 kl : k < (nth ns p).cs.length
 sh : (nth ns p).cs.length = (nth ns p).es.length + 1
 kid : ∀ x,x < (nth ns p).cs.length → 0 ≤ (nth ns p).cs.getD x 0 ∧ kdN ns p x < ns.length ∧ p ≠ kdN ns p x
 dis : ∀ x y,x < (nth ns p).cs.length → y < (nth ns p).cs.length → x ≠ y → kdN ns p x ≠ kdN ns p y
 len : ns.length ≤ 900
 sm : Sm 900 ns
section
variable {mo : Int} {ns : List Nd} {p k : Nat}
end
def tln (ns : List Nd) : Nat → Nat
 | 0=>0
 | n + 1=>if (nth ns n).us = true then n + 1 else tln ns n
def trmN (ns : List Nd) : List Nd:=ns.take (tln ns ns.length)
section
variable {w0 w : World} {M : List Nat} {As As' : List HA} {et : Nat} {L : List LNd}
end
def rgtN (ns : List Nd) : Nat → Nat → List Nat
 | 0,i=>[i]
 | f + 1,i=>if (nth ns i).cs.length = 0 then [i] else i :: rgtN ns f (kdN ns i ((nth ns i).cs.length - 1))
def Qsu (ns : List Nd) : Nat → Nat → Prop
 | 0,_=>False
 | f + 1,i=>i < ns.length ∧ ((nth ns i).cs.length = 0 ∨ (0 ≤ (nth ns i).cs.getD ((nth ns i).cs.length - 1) 0 ∧ Qsu ns f (kdN ns i ((nth ns i).cs.length - 1))))
def QI (P : List Nat) : Nat:=nth P (P.length - 1)
def ZD (ns : List Nd) (P : List Nat) (at' : Nat) : List Nat:=if (nth ns (QI P)).cs.length = 0 then P else P ++ rgtN ns ns.length (kdN ns (QI P) at')
def QsG (ns : List Nd) (P : List Nat) (at' : Nat) : Nat:=if (nth ns (QI P)).cs.length = 0 then at' else (nth ns (QI (ZD ns P at'))).es.length - 1
def QmT (ns : List Nd) (P : List Nat) (at' : Nat) : List Nd:=if (nth ns (QI P)).cs.length = 0 then ns else esN ns (QI P) ((nth ns (QI P)).es.set at' (nth (nth ns (QI (ZD ns P at'))).es ((nth ns (QI (ZD ns P at'))).es.length - 1)))
def Qpb (ns : List Nd) (P : List Nat) (at' : Nat) : List Nd:=esN (QmT ns P at') (QI (ZD ns P at')) (Qd3 (nth (QmT ns P at') (QI (ZD ns P at'))).es (QsG ns P at'))
def Qum (mo : Int) (ns : List Nd) (i : Nat) : List Nd:=if 0 < i ∧ ((nth ns i).es.length : Int) < mo / 2 then filN mo ns i else ns
def Qud (mo : Int) (ns : List Nd) (P : List Nat) : List Nd:=P.foldl (Qum mo) ns
def rotN (rm : Int) (ns : List Nd) : List Nd:=
 if (nth ns 0).es.length = 0 ∧ (nth ns 0).cs.length = 1 then
  if ((nth ns (kdN ns 0 0)).es.length : Int) ≤ rm then (ns.set 0 (nth ns (kdN ns 0 0))).set (kdN ns 0 0) ⟨false,[],[]⟩ else ns
 else ns
def remN (mo rm : Int) (ns : List Nd) (P : List Nat) (at' : Nat) : List Nd:=trmN (rotN rm (Qud mo (Qpb ns P at') (ZD ns P at').reverse))
def Qqa (mo : Int) : List Nd → List Nat → Prop
 | _,[]=>True
 | ns,i :: P=>(i < ns.length ∧ (0 < i → ((nth ns i).es.length : Int) < mo / 2 → FilOk mo ns (ZF (i : Int) ns 0).1 (ZF (i : Int) ns 0).2)) ∧ Qqa mo (Qum mo ns i) P
structure RotOk (rm : Int) (ns : List Nd) : Prop where
 lt : 0 < ns.length
 len : ns.length ≤ 900
 us : (nth ns 0).us = true
 kid : (nth ns 0).cs.length = 1 → 0 < (nth ns 0).cs.getD 0 0 ∧ kdN ns 0 0 < ns.length ∧ (nth ns (kdN ns 0 0)).us = true
structure RemOk (mo rm : Int) (ns : List Nd) (P : List Nat) (at' : Nat) : Prop where
 mo0 : 0 ≤ mo ∧ mo ≤ 1000
 ne : 0 < P.length
 len : P.length ≤ 900
 nl : ns.length ≤ 900
 sm : Sm 900 ns
 lst : QI P < ns.length
 atk : at' < (nth ns (QI P)).es.length
 rgt : 0 < (nth ns (QI P)).cs.length → at' < (nth ns (QI P)).cs.length ∧ 0 ≤ (nth ns (QI P)).cs.getD at' 0 ∧ Qsu ns ns.length (kdN ns (QI P) at') ∧ QI P ≠ QI (ZD ns P at') ∧ 0 < (nth ns (QI (ZD ns P at'))).es.length ∧ QI (ZD ns P at') < ns.length
 qn : 0 < (ZD ns P at').length ∧ (ZD ns P at').length ≤ 1900
 ql : QI (ZD ns P at') < ns.length
 dl : QsG ns P at' < (nth (QmT ns P at') (QI (ZD ns P at'))).es.length
 sm1 : Sm 900 (QmT ns P at')
 fil : Qqa mo (Qpb ns P at') (ZD ns P at').reverse
 rot : RotOk rm (Qud mo (Qpb ns P at') (ZD ns P at').reverse)
abbrev ownP (a : Option Addr) (c : Nat) (P : List Nat) : HA:=.own (.slice a P.length c) 3 1 P.length (P.map fun i : Nat=>Value.int .i64 (i : Int))
theorem Qrk (l : List Nat) : (iN l).flatMap inV = l.map fun i : Nat=>Value.int .i64 (i : Int):=by
 induction l with
 | nil=>rfl
 | cons x l ih=>
  rw [iN,List.map_cons,List.flatMap_cons,List.map_cons,← ih];rfl
theorem Qmi (a : Option Addr) (c : Nat) (P : List Nat) : HA.kids a c (iN P) = ownP a c P:=by
 unfold HA.kids;rw [Qrk,Qa4]
section
variable {w0 w : World} {M : List Nat} {As A1 A2 A3 : List HA} {a : Option Addr} {c : Nat} {P : List Nat}
theorem HS.pown_row (h : HS w0 M As w) (hp : QD As (ownP a c P) A1) : Rw inV 1 w [] a (iN P):=by
 have h1:=h.pick hp;rw [← Qmi] at h1;exact h1.rw_own (l:=iN P) iv1 .here rfl
end
section
variable {w0 w : World} {M : List Nat} {As A1 A2 A3 : List HA} {et : Nat} {L : List LNd} {i j gn cap nt' : Nat}
end
section
variable {ns : List Nd} {P : List Nat} {k : Nat} {I F : Nd} {rm : Int}
end
theorem QhT {α : Type} [Inhabited α] {l m : List α} (hl : l.length = m.length) (h : ∀ j,j < l.length → nth l j = nth m j) : l = m:=by
 apply List.ext_getElem?
 grind [Z5]
def chgK (a b : List Nd) (k : Nat) : List Nat:=(List.range k).filter fun i=>decide (nth a i ≠ nth b i)
def chgN (a b : List Nd) : List Nat:=chgK a b (max a.length b.length)
theorem keyE_ok {co : Int} {k : List UInt8} (h : Xq co k = 0) : QB co k = true:=by grind [Xq]
theorem QnQ {co : Int} {key : List UInt8} : ∀ {es : List TEnt} {k : Nat},k ≤ es.length → (∀ q,q < k → Xm co (nth es q).key key < 0) → ¬ (k < es.length ∧ Xm co (nth es k).key key < 0) → plc co es key = k:=by
 intro es k hk h1 h2;have h3:=Qd6 co key es;rcases Nat.lt_trichotomy (plc co es key) k with h | h | h
 ·exact absurd (h1 _ h) (QpX co key es (by omega))
 ·exact h
 ·exact absurd ⟨by omega,Qe4 co key es k h⟩ h2
abbrev LNd.fre : LNd:=⟨true,none,0,[],none,0,[]⟩
section
variable {w0 w : World} {M : List Nat} {As A1 A2 A3 : List HA} {et : Nat} {L : List LNd} {i j gn cap nt' : Nat}
end
section
variable {w0 w : World} {M : List Nat} {As A1 A2 A3 : List HA} {et : Nat} {L : List LNd} {i gn cap nt' : Nat}
end
def frsI (ns : List Nd) : Nat → Nat → Nat
 | 0,i=>i
 | f + 1,i=>if i < ns.length then if (nth ns i).us = true then frsI ns f (i + 1) else i else i
def Qti (ns : List Nd) : Nat:=frsI ns ns.length 1
def Qfo (ns : List Nd) : Nat × List Nd:=if Qti ns < ns.length then (Qti ns,ns.set (Qti ns) ⟨true,[],[]⟩) else (ns.length,ns ++ [⟨true,[],[]⟩])
def ixR (cs : List Int) (c : Int) : Nat:=if ixB (Qc0 cs c) < cs.length then ixB (Qc0 cs c) else 0
def Qcp (mo : Int) (ns : List Nd) (i : Nat) : List Nd:=
 let F:=(Qfo ns).2;let o:=(Qfo ns).1;let x:=nth F i
 let n:=esN (esN F o (x.es.drop (ZW mo + 1))) i (x.es.take (ZW mo))
 if x.cs.length = 0 then n else csN (csN n o (x.cs.drop (ZW mo + 1))) i (x.cs.take (ZW mo + 1))
def QqU (mo : Int) (ns : List Nd) (p i : Nat) : List Nd:=addP (Qcp mo ns i) p (ixR (nth (Qcp mo ns i) p).cs (i : Int)) (nth (nth (Qfo ns).2 i).es (ZW mo)) (Qfo ns).1
def QdF (ns : List Nd) : Nat × List Nd:=((Qfo ns).1,csN (esN (csN (esN (Qfo ns).2 (Qfo ns).1 (nth (Qfo ns).2 0).es) (Qfo ns).1 (nth (Qfo ns).2 0).cs) 0 []) 0 [((Qfo ns).1 : Int)])
def Qlh (mo : Int) (P : List Nat) : Nat → List Nd → List Nd
 | 0,ns=>ns
 | k + 1,ns=>Qlh mo P k (if mo < ((nth ns (nth P (k + 1))).es.length : Int) then QqU mo ns (nth P k) (nth P (k + 1)) else ns)
def Qvf (mo rm : Int) (ns : List Nd) : List Nd:=if rm < ((nth ns 0).es.length : Int) then if mo < ((nth (QdF ns).2 (QdF ns).1).es.length : Int) then QqU mo (QdF ns).2 0 (QdF ns).1 else (QdF ns).2 else ns
def insR (co mo rm : Int) (ns : List Nd) (x : TEnt) : List Nd:=
 let P:=(Qv co ns x.key).1;let lf:=QI P
 Qvf mo rm (Qlh mo P (P.length - 1) (esN ns lf (Qcg (nth ns lf).es (plc co (nth ns lf).es x.key) x)))
structure SpROk (mo : Int) (ns : List Nd) (p i : Nat) : Prop where
 mo0 : 0 ≤ mo ∧ mo ≤ 1000
 len : ns.length ≤ 900
 sm : Sm 900 ns
 lt : i < ns.length
 us : (nth ns i).us = true
 es : ZW mo < (nth ns i).es.length
 cs : (nth ns i).cs.length = 0 ∨ ZW mo + 1 ≤ (nth ns i).cs.length
 par : p < ns.length
 parE : ixR (nth (Qcp mo ns i) p).cs (i : Int) ≤ (nth (Qcp mo ns i) p).es.length
 parC : ixR (nth (Qcp mo ns i) p).cs (i : Int) + 1 ≤ (nth (Qcp mo ns i) p).cs.length
def Qp1 (mo : Int) (P : List Nat) : Nat → List Nd → Prop
 | 0,_=>True
 | k + 1,ns=>(nth P (k + 1) < ns.length ∧ (mo < ((nth ns (nth P (k + 1))).es.length : Int) → SpROk mo ns (nth P k) (nth P (k + 1)))) ∧ Qp1 mo P k (if mo < ((nth ns (nth P (k + 1))).es.length : Int) then QqU mo ns (nth P k) (nth P (k + 1)) else ns)
structure RootROk (mo rm : Int) (ns : List Nd) : Prop where
 lt : 0 < ns.length
 len : ns.length ≤ 900
 us : (nth ns 0).us = true
 spl : rm < ((nth ns 0).es.length : Int) → mo < ((nth (QdF ns).2 (QdF ns).1).es.length : Int) → SpROk mo (QdF ns).2 0 (QdF ns).1
structure InsROk (co mo rm : Int) (ns : List Nd) (x : TEnt) : Prop where
 ne : 0 < (Qv co ns x.key).1.length
 len : (Qv co ns x.key).1.length ≤ 900
 lf : QI (Qv co ns x.key).1 < ns.length
 grw : Qp1 mo (Qv co ns x.key).1 ((Qv co ns x.key).1.length - 1) (esN ns (QI (Qv co ns x.key).1) (Qcg (nth ns (QI (Qv co ns x.key).1)).es (plc co (nth ns (QI (Qv co ns x.key).1)).es x.key) x))
 root : RootROk mo rm (Qlh mo (Qv co ns x.key).1 ((Qv co ns x.key).1.length - 1) (esN ns (QI (Qv co ns x.key).1) (Qcg (nth ns (QI (Qv co ns x.key).1)).es (plc co (nth ns (QI (Qv co ns x.key).1)).es x.key) x)))
def Qsc (co : Int) (ns : List Nd) (x : TEnt) : List Nd:=esN ns (QI (Qv co ns x.key).1) (Qcg (nth ns (QI (Qv co ns x.key).1)).es (plc co (nth ns (QI (Qv co ns x.key).1)).es x.key) x)
def smB (m : Nat) (ns : List Nd) : Bool:=ns.all fun n=>decide (n.es.length ≤ m) && decide (n.cs.length ≤ m)
def bdB (ns : List Nd) : Bool:=decide (ns.length ≤ 1000) && smB 1000 ns
def spRB (mo : Int) (ns : List Nd) (p i : Nat) : Bool:=decide ((0 ≤ mo ∧ mo ≤ 1000) ∧ ns.length ≤ 900 ∧ smB 900 ns = true ∧ i < ns.length ∧ (nth ns i).us = true ∧ ZW mo < (nth ns i).es.length ∧ ((nth ns i).cs.length = 0 ∨ ZW mo + 1 ≤ (nth ns i).cs.length) ∧ p < ns.length ∧ ixR (nth (Qcp mo ns i) p).cs (i : Int) ≤ (nth (Qcp mo ns i) p).es.length ∧ ixR (nth (Qcp mo ns i) p).cs (i : Int) + 1 ≤ (nth (Qcp mo ns i) p).cs.length)
def Qr9 (mo : Int) (P : List Nat) : Nat → List Nd → Bool
 | 0,_=>true
 | k + 1,ns=>(decide (nth P (k + 1) < ns.length) && (!decide (mo < ((nth ns (nth P (k + 1))).es.length : Int)) || spRB mo ns (nth P k) (nth P (k + 1)))) && Qr9 mo P k (if mo < ((nth ns (nth P (k + 1))).es.length : Int) then QqU mo ns (nth P k) (nth P (k + 1)) else ns)
def QuH (mo rm : Int) (ns : List Nd) : Bool:=decide (0 < ns.length ∧ ns.length ≤ 900 ∧ (nth ns 0).us = true ∧ (rm < ((nth ns 0).es.length : Int) → mo < ((nth (QdF ns).2 (QdF ns).1).es.length : Int) → spRB mo (QdF ns).2 0 (QdF ns).1 = true))
def QsK (co mo rm : Int) (ns : List Nd) (x : TEnt) : Bool:=decide (0 < (Qv co ns x.key).1.length ∧ (Qv co ns x.key).1.length ≤ 900 ∧ QI (Qv co ns x.key).1 < ns.length ∧ Qr9 mo (Qv co ns x.key).1 ((Qv co ns x.key).1.length - 1) (Qsc co ns x) = true ∧ QuH mo rm (Qlh mo (Qv co ns x.key).1 ((Qv co ns x.key).1.length - 1) (Qsc co ns x)) = true)
def spB (mo : Int) (ns : List Nd) (i : Nat) : Bool:=decide ((0 ≤ mo ∧ mo ≤ 1000) ∧ ns.length ≤ 900 ∧ smB 900 ns = true ∧ i < ns.length ∧ (nth ns i).us = true ∧ ZW mo < (nth ns i).es.length ∧ ((nth ns i).cs.length = 0 ∨ ZW mo + 1 ≤ (nth ns i).cs.length) ∧ (ZF (i : Int) (Y6 mo ns i) 0).1 < (Y6 mo ns i).length ∧ (ZF (i : Int) (Y6 mo ns i) 0).2 ≤ (nth (Y6 mo ns i) (ZF (i : Int) (Y6 mo ns i) 0).1).es.length ∧ (ZF (i : Int) (Y6 mo ns i) 0).2 + 1 ≤ (nth (Y6 mo ns i) (ZF (i : Int) (Y6 mo ns i) 0).1).cs.length)
def grwB (mo : Int) : List Nd → List Nat → Bool
 | _,[]=>true
 | ns,i :: P=>(decide (i < ns.length) && (!decide (0 < i ∧ mo < ((nth ns i).es.length : Int)) || spB mo ns i)) && grwB mo (QuB mo ns i) P
def Qvp (mo rm : Int) (ns : List Nd) : Bool:=decide (0 < ns.length ∧ ns.length ≤ 900 ∧ (nth ns 0).us = true ∧ (rm < ((nth ns 0).es.length : Int) → mo < ((nth (QdR ns).2 (QdR ns).1).es.length : Int) → spB mo (QdR ns).2 (QdR ns).1 = true))
def insOB (co mo rm : Int) (ns : List Nd) (x : TEnt) : Bool:=decide (0 < (Qv co ns x.key).1.length ∧ (Qv co ns x.key).1.length ≤ 900 ∧ Qeb co ns x.key < ns.length ∧ (nth ns (Qeb co ns x.key)).es.length ≤ 900 ∧ (Qv co ns x.key).2.1 ≤ (nth ns (Qeb co ns x.key)).es.length ∧ grwB mo (QnT co ns x) (Qv co ns x.key).1.reverse = true ∧ Qvp mo rm (Qs4 mo (QnT co ns x) (Qv co ns x.key).1.reverse) = true)
def filB (mo : Int) (ns : List Nd) (p k : Nat) : Bool:=decide ((0 ≤ mo ∧ mo ≤ 1000) ∧ p < ns.length ∧ k < (nth ns p).cs.length ∧ (nth ns p).cs.length = (nth ns p).es.length + 1 ∧ (∀ x,x < (nth ns p).cs.length → 0 ≤ (nth ns p).cs.getD x 0 ∧ kdN ns p x < ns.length ∧ p ≠ kdN ns p x) ∧ (∀ x,x < (nth ns p).cs.length → ∀ y,y < (nth ns p).cs.length → x ≠ y → kdN ns p x ≠ kdN ns p y) ∧ ns.length ≤ 900 ∧ smB 900 ns = true)
def Qsb (mo : Int) : List Nd → List Nat → Bool
 | _,[]=>true
 | ns,i :: P=>(decide (i < ns.length) && (!decide (0 < i ∧ ((nth ns i).es.length : Int) < mo / 2) || filB mo ns (ZF (i : Int) ns 0).1 (ZF (i : Int) ns 0).2)) && Qsb mo (Qum mo ns i) P
def rotB (ns : List Nd) : Bool:=decide (0 < ns.length ∧ ns.length ≤ 900 ∧ (nth ns 0).us = true ∧ ((nth ns 0).cs.length = 1 → 0 < (nth ns 0).cs.getD 0 0 ∧ kdN ns 0 0 < ns.length ∧ (nth ns (kdN ns 0 0)).us = true))
def rgtB (ns : List Nd) : Nat → Nat → Bool
 | 0,_=>false
 | f + 1,i=>decide (i < ns.length) && (decide ((nth ns i).cs.length = 0) || (decide (0 ≤ (nth ns i).cs.getD ((nth ns i).cs.length - 1) 0) && rgtB ns f (kdN ns i ((nth ns i).cs.length - 1))))
def remB (mo rm : Int) (ns : List Nd) (P : List Nat) (k : Nat) : Bool:=decide ((0 ≤ mo ∧ mo ≤ 1000) ∧ 0 < P.length ∧ P.length ≤ 900 ∧ ns.length ≤ 900 ∧ smB 900 ns = true ∧ QI P < ns.length ∧ k < (nth ns (QI P)).es.length ∧ (0 < (nth ns (QI P)).cs.length → k < (nth ns (QI P)).cs.length ∧ 0 ≤ (nth ns (QI P)).cs.getD k 0 ∧ rgtB ns ns.length (kdN ns (QI P) k) = true ∧ QI P ≠ QI (ZD ns P k) ∧ 0 < (nth ns (QI (ZD ns P k))).es.length ∧ QI (ZD ns P k) < ns.length) ∧ (0 < (ZD ns P k).length ∧ (ZD ns P k).length ≤ 1900) ∧ QI (ZD ns P k) < ns.length ∧ QsG ns P k < (nth (QmT ns P k) (QI (ZD ns P k))).es.length ∧ smB 900 (QmT ns P k) = true ∧ Qsb mo (Qpb ns P k) (ZD ns P k).reverse = true ∧ rotB (Qud mo (Qpb ns P k) (ZD ns P k).reverse) = true)
def QnY (k : Nat) : TEnt:=⟨[UInt8.ofNat (97 + k)],[]⟩
def QdQ : Nat → List Nd
 | 0=>[⟨true,[],[]⟩]
 | k + 1=>insR 0 4 2 (QdQ k) (QnY k)
def letB (k : Nat) : Bool:=decide (0 < (QdQ k).length) && (bdB (QdQ k) && (decide ((Yy ⟨0,4,2,QdQ k⟩ (QdQ k).length 0 []).2 = 0) && (QsK 0 4 2 (QdQ k) (QnY k) && QB 0 (QnY k).key)))
structure LetOk (k : Nat) : Prop where
 n0 : 0 < (QdQ k).length
 bd : Bd (QdQ k)
 tok : TOk 0 (QdQ k)
 ins : InsROk 0 4 2 (QdQ k) (QnY k)
 key : QB 0 (QnY k).key = true
abbrev aK : TEnt:=⟨[107],[]⟩
abbrev i0 : Int:=((0 : Nat) : Int)
abbrev aR : List Nd:=remN 4 2 (QdQ 11) (Qv i0 (QdQ 11) [99]).1 (Qv i0 (QdQ 11) [99]).2.1
end Gx
namespace Gx
open Go Go.RowKit
section
variable {X : Ctx} {ops : Array Oper} {F : List Nat} {fuel i : Nat} {listed : Array Bool} {k : List KI} {L : Qb} {d ty : Nat} {op : Op} {pos : String} {aft : Array Edge} {w0 : World} {M : List Nat} {As Bs : List HA}
theorem Qsn {B : World → Prop} {G : Type} {V : G → Value} {Fg : G → Prop} {C' : G → World → Prop} {j : Nat} {want b : Bool} (i dj : Nat) (hi : ops[i]? = some ⟨some d,op,ty,pos,aft,some (j,want)⟩) (hj : (ops[j]?).bind (·.dst) = some dj) (hb : Qb.get L dj = some (.bool b)) (hw : b = want) (h : OpH X.P ⟨some d,op,ty,pos,aft,none⟩ L (HS w0 M As) V Fg C') (hr : (Region.ready .any ops listed == [i]) = true) (hB : ∀ w,HS w0 M As w → B w) (hd : Nat.blt d X.n = true)
  (next : ∀ g,Fg g → D X ops F B fuel (listed.setIfInBounds i true) k ((d,V g) :: L) (C' g)) : D X ops F B (fuel + 1) listed k L (HS w0 M As):=by
 intro hcl a ha;have hy : yielded ops a.tmps j = some b:=by simp [yielded,hj,ha.slot _ _ hb]
 have hr' : Region.ready .any ops listed = [i]:=by simpa using hr
 refine QeF hr' (fun _=>⟨hB,HS.stab _ _ _⟩) ?_;unfold Yr;simp only [hi];rw [if_pos (by simp [Region.wanted,hy,hw])];exact ⟨G,V,Fg,C',fun w hw=>h a.eval w ha.agr hw,fun g hg=>next g hg (hcl.set (by rw [hr'];exact List.mem_singleton.2 rfl)) _ (ha.put d _ hd)⟩
end
end Gx
namespace Gx
open Go Go.RowKit
section
variable {w0 w : World} {M : List Nat} {As Cs Ds Es Fs : List HA}
end
end Gx
namespace Gx
open Go Go.RowKit
end Gx
namespace Gx
open Go Go.RowKit
section
variable {X : Ctx} {ops : Array Oper} {k : List KI} {L : Qb} {C : World → Prop}
end
end Gx
namespace Gx
open Go Go.RowKit
section
variable {P : Program} {o : Oper} {L : Qb} {w0 : World} {M : List Nat} {As : List HA}
end
section
variable {X : Ctx} {ops : Array Oper} {k : List KI} {L : Qb} {C : World → Prop}
end
def endsL (fid : FuncId) (tmps : Array Value) (ps : Array Tmp) (assign body : Code) (D : Nat) : Option Nat → Obj
 | none=>.loop (rdy fid tmps ps assign body D)
 | some id=>.loop { rdy fid tmps ps assign body D with state:=.done,pending:=some (.exit id) }
section
variable {X : Ctx} {k : List KI} {L : Qb} {w0 : World} {M : List Nat} {As As' : List HA}
def rngK (k : List KI) : Option Nat → List KI
 | none=>k
 | some id=>.c (.exit id) :: k
end
def doneO (id : Nat) : Obj → Obj
 | .loop r=>.loop { r with state:=.done,pending:=some (.exit id) }
 | o=>o
inductive RunY {S α : Type} (st : S → α → S → Prop) (co : S → Bool) : S → List α → S → Bool → Prop
 | nil (s : S) : RunY st co s [] s true
 | go {s s' s'' : S} {x : α} {l : List α} {b : Bool} (h : st s x s') (hc : co s' = true) (hr : RunY st co s' l s'' b) : RunY st co s (x :: l) s'' b
 | stop {s s' : S} {x : α} {l : List α} (h : st s x s') (hc : co s' = false) : RunY st co s (x :: l) s' false
section
variable {S α : Type} {st : S → α → S → Prop} {co : S → Bool} {s s1 s2 : S} {A B : List α} {b : Bool}
end
end Gx
namespace Gx
open Go Go.RowKit
class TFd (P : Program) (t f : Nat) (off ft : outParam Nat) : Prop where h : tfd P t f = some (off,ft)
class TSz (P : Program) (t : Nat) (n : outParam Nat) (ag : outParam Bool) : Prop where h : tsz P t = some (n,ag)
class TSe (P : Program) (t : Nat) (e : outParam Nat) : Prop where h : P.underlying t = some (.slice e)
section
variable {X : Ctx} {ops : Array Oper} {rest : List Oper} {k : List KI} {L : Qb} {d ty : Nat} {pos : String} {aft : Array Edge} {C : World → Prop}
theorem oFa {st f x b i off ft sz : Nat} {ag : Bool} [h1 : TFd X.P st f off ft] [h2 : TSz X.P ft sz ag] (next : O X ops rest k ((d,.pointer (some ⟨b,i + off,none⟩)) :: L) C) (hx : Qb.get L x = some (.pointer (some ⟨b,i,none⟩)):=by rfl) (hs : Nat.blt 0 sz = true:=by rfl) (hd : Nat.blt d X.n = true:=by rfl) :
  O X ops (⟨some d,.fieldAddr st (.tmp x) f,ty,pos,aft,none⟩ :: rest) k L C:=o_p (Qad rfl hx h1.h h2.h hs) hd next
theorem oLs {t e x n cap : Nat} {a : Option Addr} [h1 : TSe X.P t e] (next : O X ops rest k ((d,.int .i64 n) :: L) C) (hx : Qb.get L x = some (.slice a n cap):=by rfl) (hd : Nat.blt d X.n = true:=by rfl) :
  O X ops (⟨some d,.call { callee:=.builtin .len,args:=#[.tmp x],argTypes:=#[t] },ty,pos,aft,none⟩ :: rest) k L C:=o_p (Xk (x:=.tmp x) rfl hx h1.h) hd next
theorem oLd {w0 : World} {M : List Nat} {As As' : List HA} {t x b tot i : Nat} {bt : TypeId} {cs : List Value} {v : Value} [h1 : TSz X.P t 1 false] (next : O X ops rest k ((d,v) :: L) (HS w0 M As)) (hx : Qb.get L x = some (.pointer (some ⟨b,i,none⟩)):=by rfl) (hp : QD As (.blk b bt tot cs) As':=by repeat (first | exact .here | apply QD.there)) (hv : cs[i]? = some v:=by rfl) (hd : Nat.blt d X.n = true:=by rfl) :
  O X ops (⟨some d,.load t (.tmp x),ty,pos,aft,none⟩ :: rest) k L (HS w0 M As):=o_q (YA rfl hx h1.h hp hv) hd next
theorem oLn {w0 : World} {M : List Nat} {As As' : List HA} {t x b tot i n : Nat} {bt : TypeId} {cs : List Value} [h1 : TSz X.P t n true] (next : O X ops rest k ((d,.agg (cut cs i n).toArray) :: L) (HS w0 M As)) (hx : Qb.get L x = some (.pointer (some ⟨b,i,none⟩)):=by rfl) (hp : QD As (.blk b bt tot cs) As':=by repeat (first | exact .here | apply QD.there)) (hl : Nat.ble (i + n) cs.length = true:=by rfl) (hd : Nat.blt d X.n = true:=by rfl) :
  O X ops (⟨some d,.load t (.tmp x),ty,pos,aft,none⟩ :: rest) k L (HS w0 M As):=o_q (Qc8 rfl hx h1.h hp hl) hd next
end
section
variable {X : Ctx} {ops : Array Oper} {F : List Nat} {fuel : Nat} {listed : Array Bool} {k : List KI} {L : Qb} {d ty : Nat} {pos : String} {aft : Array Edge} {C B : World → Prop} {w0 : World} {M : List Nat} {As As' Bs : List HA}
theorem dFa (i : Nat) {st f x b o off ft sz : Nat} {ag : Bool} (next : D X ops F B fuel (listed.setIfInBounds i true) k ((d,.pointer (some ⟨b,o + off,none⟩)) :: L) C) (hi : ops[i]? = some ⟨some d,.fieldAddr st (.tmp x) f,ty,pos,aft,none⟩:=by rfl) (hx : Qb.get L x = some (.pointer (some ⟨b,o,none⟩)):=by rfl) (h1 : TFd X.P st f off ft:=by infer_instance) (h2 : TSz X.P ft sz ag:=by infer_instance) (hs : Nat.blt 0 sz = true:=by rfl) (hok : QG ops listed i = true:=by kernel_rfl) (hF : F.all (fun f=>!Nat.beq f i) = true:=by rfl) (hd : Nat.blt d X.n = true:=by rfl) : D X ops F B (fuel + 1) listed k L C:=d_p i hi (Qad rfl hx h1.h h2.h hs) hok hF hd next
theorem dFo {j : Nat} {want c : Bool} (i dj : Nat) {st f x b o off ft sz : Nat} {ag : Bool} (hw : c = want) (next : D X ops F B fuel (listed.setIfInBounds i true) k ((d,.pointer (some ⟨b,o + off,none⟩)) :: L) C) (hi : ops[i]? = some ⟨some d,.fieldAddr st (.tmp x) f,ty,pos,aft,some (j,want)⟩:=by rfl) (hj : (ops[j]?).bind (·.dst) = some dj:=by rfl) (hb : Qb.get L dj = some (.bool c):=by rfl) (hx : Qb.get L x = some (.pointer (some ⟨b,o,none⟩)):=by rfl) (h1 : TFd X.P st f off ft:=by infer_instance) (h2 : TSz X.P ft sz ag:=by infer_instance) (hs : Nat.blt 0 sz = true:=by rfl) (hok : QG ops listed i = true:=by kernel_rfl) (hF : F.all (fun f=>!Nat.beq f i) = true:=by rfl) (hd : Nat.blt d X.n = true:=by rfl) : D X ops F B (fuel + 1) listed k L C:=QlH i dj hi hj hb hw (Qad rfl hx h1.h h2.h hs) hok hF hd next
theorem dPo {j : Nat} {want c : Bool} {op : Op} {v : Value} (i dj : Nat) (hw : c = want) (next : D X ops F B fuel (listed.setIfInBounds i true) k ((d,v) :: L) C) (hi : ops[i]? = some ⟨some d,op,ty,pos,aft,some (j,want)⟩:=by rfl) (hj : (ops[j]?).bind (·.dst) = some dj:=by rfl) (hb : Qb.get L dj = some (.bool c):=by rfl) (h : OpP X.P ⟨some d,op,ty,pos,aft,none⟩ L v:=by exact ZL rfl) (hok : QG ops listed i = true:=by kernel_rfl) (hF : F.all (fun f=>!Nat.beq f i) = true:=by rfl) (hd : Nat.blt d X.n = true:=by rfl) : D X ops F B (fuel + 1) listed k L C:=QlH i dj hi hj hb hw h hok hF hd next
theorem dOf {j : Nat} {want c : Bool} {op : Op} (i dj : Nat) (hw : c = !want) (next : D X ops F B fuel (listed.setIfInBounds i true) k ((d,undef) :: L) C) (hi : ops[i]? = some ⟨some d,op,ty,pos,aft,some (j,want)⟩:=by rfl) (hj : (ops[j]?).bind (·.dst) = some dj:=by rfl) (hb : Qb.get L dj = some (.bool c):=by rfl) (hok : QG ops listed i = true:=by kernel_rfl) (hF : F.all (fun f=>!Nat.beq f i) = true:=by rfl) (hd : Nat.blt d X.n = true:=by rfl) : D X ops F B (fuel + 1) listed k L C:=Qsd i dj hi hj hb hw hok hF hd next
theorem dOu {j : Nat} {want : Bool} {op : Op} (i dj : Nat) (next : D X ops F B fuel (listed.setIfInBounds i true) k ((d,undef) :: L) C) (hi : ops[i]? = some ⟨some d,op,ty,pos,aft,some (j,want)⟩:=by rfl) (hj : (ops[j]?).bind (·.dst) = some dj:=by rfl) (hb : Qb.get L dj = some undef:=by rfl) (hok : QG ops listed i = true:=by kernel_rfl) (hF : F.all (fun f=>!Nat.beq f i) = true:=by rfl) (hd : Nat.blt d X.n = true:=by rfl) : D X ops F B (fuel + 1) listed k L C:=QpC i dj hi hj hb hok hF hd next
theorem dNi (next : S X k L (HS w0 M As)) (hB : ∀ w,HS w0 M As w → B w:=by (intro w h;first | exact h | exact h.ent aEt)) (hr : (Region.ready .any ops listed == []) = true:=by kernel_rfl) : D X ops F B 0 listed k L (HS w0 M As):=QsB hr hB next
theorem dBa (next : D X ops F (HS w0 M As) fuel listed k L (HS w0 M As)) (hB : ∀ w,HS w0 M As w → B w:=by (intro w h;exact h.ent aEt)) : D X ops F B fuel listed k L (HS w0 M As):=Qub hB next
theorem dLd (i : Nat) (ps : List (List Nat)) {t x b tot o : Nat} {bt : TypeId} {cs : List Value} {v : Value} (next : D X ops F (HS w0 M Bs) fuel (listed.setIfInBounds i true) k ((d,v) :: L) C) (hi : ops[i]? = some ⟨some d,.load t (.tmp x),ty,pos,aft,none⟩:=by rfl) (hx : Qb.get L x = some (.pointer (some ⟨b,o,none⟩)):=by rfl) (h1 : TSz X.P t 1 false:=by infer_instance) (hp : QD Bs (.blk b bt tot cs) As':=by repeat (first | exact .here | apply QD.there)) (hv : cs[o]? = some v:=by rfl) (hok : QG ops listed i = true:=by kernel_rfl) (hF : XK ops F i ps = true:=by kernel_rfl) (hn : Zs F listed = true:=by kernel_rfl) (hd : Nat.blt d X.n = true:=by rfl) : D X ops F (HS w0 M Bs) (fuel + 1) listed k L C:=d_q i ps hi (YA rfl hx h1.h hp hv) hok hF hn hd next
theorem dLn (i : Nat) (ps : List (List Nat)) {t x b tot o n : Nat} {bt : TypeId} {cs : List Value} (next : D X ops F (HS w0 M Bs) fuel (listed.setIfInBounds i true) k ((d,.agg (cut cs o n).toArray) :: L) C) (hi : ops[i]? = some ⟨some d,.load t (.tmp x),ty,pos,aft,none⟩:=by rfl) (hx : Qb.get L x = some (.pointer (some ⟨b,o,none⟩)):=by rfl) (h1 : TSz X.P t n true:=by infer_instance) (hp : QD Bs (.blk b bt tot cs) As':=by repeat (first | exact .here | apply QD.there)) (hl : Nat.ble (o + n) cs.length = true:=by rfl) (hok : QG ops listed i = true:=by kernel_rfl) (hF : XK ops F i ps = true:=by kernel_rfl) (hn : Zs F listed = true:=by kernel_rfl) (hd : Nat.blt d X.n = true:=by rfl) : D X ops F (HS w0 M Bs) (fuel + 1) listed k L C:=d_q i ps hi (Qc8 rfl hx h1.h hp hl) hok hF hn hd next
end
section
variable {X : Ctx} {ops : Array Oper} {F : List Nat} {fuel : Nat} {listed : Array Bool} {rest : List Oper} {k : List KI} {L : Qb} {d ty : Nat} {pos : String} {aft : Array Edge} {w0 : World} {M : List Nat} {As As' : List HA}
theorem oSt {t x b tot i n : Nat} {y : Operand} {bt : TypeId} {ag : Bool} {cs : List Value} {v : Value} [hs : TSz X.P t n ag] (next : O X ops rest k L (HS w0 M As')) (hx : Qb.get L x = some (.pointer (some ⟨b,i,none⟩)):=by rfl) (hy : ev L y = some v:=by rfl) (hn : v.cells.toList.length = n:=by rfl)
  (hp : Put As (.blk b bt tot cs) (.blk b bt tot (Qd cs i v.cells.toList)) As':=by repeat (first | exact .here | apply Put.there)) (hl : i + n ≤ cs.length:=by (simp only [Qg,List.length_set,List.length_cons,List.length_nil,List.length_map];omega)) (h1 : v.cells.toList.all (·.oneCell') = true:=by rfl) :
  O X ops (⟨none,.store t (.tmp x) y,ty,pos,aft,none⟩ :: rest) k L (HS w0 M As):=QmN (Z6 rfl hx hy hs.h hn hp hl h1) fun _ _=>next
theorem oAl {t : TypeId} {z : List Value} (next : ∀ b,True → O X ops rest k ((d,.pointer (some ⟨b,0,none⟩)) :: L) (HS w0 M (.blk b t z.length z :: As))) (hz : QM X.P t = some z) (hd : Nat.blt d X.n = true:=by rfl) : O X ops (⟨some d,.alloc t,ty,pos,aft,none⟩ :: rest) k L (HS w0 M As):=o_h (QbX rfl hz) hd next
theorem oBx {t : TypeId} {x : Operand} {v : Value} (next : ∀ b,True → O X ops rest k ((d,.pointer (some ⟨b,0,none⟩)) :: L) (HS w0 M (.blk b t v.cells.toList.length v.cells.toList :: As))) (hx : ev L x = some v:=by rfl) (hd : Nat.blt d X.n = true:=by rfl) : O X ops (⟨some d,.box t x,ty,pos,aft,none⟩ :: rest) k L (HS w0 M As):=o_h (Qso rfl hx) hd next
theorem oWr {v : Int} {C : World → Prop} (next : O X ops rest k ((d,.int .i64 v) :: L) C) (h1 : -9223372036854775808 ≤ v:=by omega) (h2 : v ≤ 9223372036854775807:=by omega) : O X ops rest k ((d,.int .i64 (IntKind.i64.wrap v)) :: L) C:=Qk (Qet h1 h2) next
theorem dWr {v : Int} {C B : World → Prop} (next : D X ops F B fuel listed k ((d,.int .i64 v) :: L) C) (h1 : -9223372036854775808 ≤ v:=by omega) (h2 : v ≤ 9223372036854775807:=by omega) : D X ops F B fuel listed k ((d,.int .i64 (IntKind.i64.wrap v)) :: L) C:=QT (Qet h1 h2) next
theorem dSt {B : World → Prop} (i : Nat) {t x b tot o n : Nat} {y : Operand} {bt : TypeId} {ag : Bool} {cs : List Value} {v : Value} (next : D X ops F B fuel (listed.setIfInBounds i true) k L (HS w0 M As')) (hi : ops[i]? = some ⟨none,.store t (.tmp x) y,ty,pos,aft,none⟩:=by rfl) (hx : Qb.get L x = some (.pointer (some ⟨b,o,none⟩)):=by rfl) (hy : ev L y = some v:=by rfl) (hs : TSz X.P t n ag:=by infer_instance) (hn : v.cells.toList.length = n:=by rfl)
  (hp : Put As (.blk b bt tot cs) (.blk b bt tot (Qd cs o v.cells.toList)) As':=by repeat (first | exact .here | apply Put.there)) (hl : o + n ≤ cs.length) (h1 : v.cells.toList.all (·.oneCell') = true:=by rfl) (hr : (Region.ready .any ops listed == [i]) = true:=by kernel_rfl) (hB : ∀ w,HS w0 M As w → B w:=by (intro w h;exact h.ent aEt)) :
  D X ops F B (fuel + 1) listed k L (HS w0 M As):=Qqz i hi (Z6 rfl hx hy hs.h hn hp hl h1) hr hB fun _ _=>next
theorem dTu {B : World → Prop} (F' : List Nat) (next : D X ops F' (HS w0 M As) fuel listed k L (HS w0 M As)) (hf : F.any (fun f=>listed.getD f false) = true:=by kernel_rfl) : D X ops F B fuel listed k L (HS w0 M As):=QuL F' hf next
end
section
variable {X : Ctx} {ops : Array Oper} {F : List Nat} {fuel : Nat} {listed : Array Bool} {k : List KI} {L : Qb} {d ty : Nat} {pos : String} {aft : Array Edge} {op : Op} {w0 : World} {M : List Nat} {As Bs : List HA}
theorem dQ {C : World → Prop} {v : Value} (i : Nat) (ps : List (List Nat)) (hi : ops[i]? = some ⟨some d,op,ty,pos,aft,none⟩) (h : OpQ X.P ⟨some d,op,ty,pos,aft,none⟩ L (HS w0 M Bs) v) (next : D X ops F (HS w0 M Bs) fuel (listed.setIfInBounds i true) k ((d,v) :: L) C) (hok : QG ops listed i = true:=by kernel_rfl) (hF : XK ops F i ps = true:=by kernel_rfl) (hn : Zs F listed = true:=by kernel_rfl) (hd : Nat.blt d X.n = true:=by rfl) : D X ops F (HS w0 M Bs) (fuel + 1) listed k L C:=d_q i ps hi h hok hF hn hd next
theorem dV {C : World → Prop} {B : World → Prop} {v : Value} (i : Nat) (hi : ops[i]? = some ⟨some d,op,ty,pos,aft,none⟩) (h : OpP X.P ⟨some d,op,ty,pos,aft,none⟩ L v) (next : D X ops F B fuel (listed.setIfInBounds i true) k ((d,v) :: L) C) (hok : QG ops listed i = true:=by kernel_rfl) (hF : F.all (fun f=>!Nat.beq f i) = true:=by rfl) (hd : Nat.blt d X.n = true:=by rfl) : D X ops F B (fuel + 1) listed k L C:=d_p i hi h hok hF hd next
theorem dH {B : World → Prop} {G : Type} {V : G → Value} {Fg : G → Prop} {C' : G → World → Prop} (i : Nat) (hi : ops[i]? = some ⟨some d,op,ty,pos,aft,none⟩) (h : OpH X.P ⟨some d,op,ty,pos,aft,none⟩ L (HS w0 M As) V Fg C') (next : ∀ g,Fg g → D X ops F B fuel (listed.setIfInBounds i true) k ((d,V g) :: L) (C' g)) (hr : (Region.ready .any ops listed == [i]) = true:=by kernel_rfl) (hB : ∀ w,HS w0 M As w → B w:=by (intro w h;exact h.ent aEt)) (hd : Nat.blt d X.n = true:=by rfl) : D X ops F B (fuel + 1) listed k L (HS w0 M As):=d_h i hi h hr hB hd next
theorem dVo {C : World → Prop} {B : World → Prop} {v : Value} {j : Nat} {want b : Bool} (i dj : Nat) (hw : b = want) (hi : ops[i]? = some ⟨some d,op,ty,pos,aft,some (j,want)⟩) (hj : (ops[j]?).bind (·.dst) = some dj) (hb : Qb.get L dj = some (.bool b)) (h : OpP X.P ⟨some d,op,ty,pos,aft,none⟩ L v) (next : D X ops F B fuel (listed.setIfInBounds i true) k ((d,v) :: L) C) (hok : QG ops listed i = true:=by kernel_rfl) (hF : F.all (fun f=>!Nat.beq f i) = true:=by rfl) (hd : Nat.blt d X.n = true:=by rfl) : D X ops F B (fuel + 1) listed k L C:=QlH i dj hi hj hb hw h hok hF hd next
theorem dQo {C : World → Prop} {v : Value} {j : Nat} {want b : Bool} (i dj : Nat) (ps : List (List Nat)) (hw : b = want) (hi : ops[i]? = some ⟨some d,op,ty,pos,aft,some (j,want)⟩) (hj : (ops[j]?).bind (·.dst) = some dj) (hb : Qb.get L dj = some (.bool b)) (h : OpQ X.P ⟨some d,op,ty,pos,aft,none⟩ L (HS w0 M Bs) v) (next : D X ops F (HS w0 M Bs) fuel (listed.setIfInBounds i true) k ((d,v) :: L) C) (hok : QG ops listed i = true:=by kernel_rfl) (hF : XK ops F i ps = true:=by kernel_rfl) (hn : Zs F listed = true:=by kernel_rfl) (hd : Nat.blt d X.n = true:=by rfl) : D X ops F (HS w0 M Bs) (fuel + 1) listed k L C:=Qsm i dj ps hi hj hb hw h hok hF hn hd next
theorem rT {t : Nat} {v : Value} (hr : X.fn.results = [ResultVar.tmp t].toArray) (hv : Qb.get L t = some v) (h : ∀ w,HS w0 M As w → X.R (.returned (Xj [v])) w) (hrd : X.rd = none:=by rfl) (hdf : X.df = []:=by rfl) : S X (.c .ret :: k) L (HS w0 M As):=Qi hr (.tmp hv .nil) h hrd hdf
end
theorem dT {p : Prop} [Decidable p] : (decide p = true) = p:=decide_eq_true_eq
theorem dN {p : Prop} [Decidable p] : decide p = false ↔ ¬p:=decide_eq_false_iff_not
class BP (b : Bool) (p n : outParam Prop) : Prop where
 t : b = true → p
 f : b = false → n
instance (priority:=low) bp0 (b : Bool) : BP b (b = true) (b = false):=⟨id,id⟩
instance bpD (p : Prop) [Decidable p] : BP (decide p) p (¬ p):=⟨of_decide_eq_true,of_decide_eq_false⟩
instance bpN (b : Bool) (p n : Prop) [h : BP b p n] : BP (!b) n p:=⟨fun h9=>h.f (by simpa using h9),fun h9=>h.t (by simpa using h9)⟩
instance bpA (a b : Bool) (p n p' n' : Prop) [h : BP a p n] [h' : BP b p' n'] : BP (a && b) (p ∧ p') (n ∨ n'):=⟨fun h9=>⟨h.t (by simp at h9;exact h9.1),h'.t (by simp at h9;exact h9.2)⟩,fun h9=>by cases a with
 | true=>exact .inr (h'.f (by simpa using h9))
 | false=>exact .inl (h.f rfl)⟩
instance bpO (a b : Bool) (p n p' n' : Prop) [h : BP a p n] [h' : BP b p' n'] : BP (a || b) (p ∨ p') (n ∧ n'):=⟨fun h9=>by cases a with
 | true=>exact .inl (h.t rfl)
 | false=>exact .inr (h'.t (by simpa using h9)),fun h9=>⟨h.f (by simp at h9;exact h9.1),h'.f (by simp at h9;exact h9.2)⟩⟩
class TFn (P : Program) (f : Nat) : Prop where h : Xl P f = true
section
variable {X : Ctx} {k : List KI} {L : Qb} {C : World → Prop}
theorem sCd {c : Operand} {x y : Code} {b : Bool} {p n : Prop} (hc : ev L c = some (.bool b)) [hB : BP b p n] (ht : p → S X (.c x :: k) L C) (hf : n → S X (.c y :: k) L C) : S X (.c (.cond c x y) :: k) L C:=QfL hc (fun h=>ht (hB.t h)) fun h=>hf (hB.f h)
variable {ops : Array Oper} {rest : List Oper} {d ty : Nat} {pos : String} {aft : Array Edge} {op : Op}
theorem YS (m dj dp : Nat) {b c : Bool} {p n : Prop} {l : List Oper} (hb : Qb.get L dj = some (.bool b)) [hB : BP b p n]
  (h1 : b = true → p → O X ops (l.take m) (.join (At X.n X.df (fun _ : Unit=>(dp,.bool c) :: L) (fun _=>C)) :: k) L C)
  (h0 : b = false → n → O X ops (l.take m) (.join (At X.n X.df (fun _ : Unit=>(dp,.bool false) :: L) (fun _=>C)) :: k) L C)
  (h2 : O X ops (l.drop m) k ((dp,.bool (b && c)) :: L) C) : O X ops l k L C:=QuW m dj dp b c hb (fun h=>h1 h (hB.t h)) (fun h=>h0 h (hB.f h)) h2
theorem oOr (m dj dp : Nat) {b c : Bool} {p n : Prop} {l : List Oper} (hb : Qb.get L dj = some (.bool b)) [hB : BP b p n]
  (h1 : b = false → n → O X ops (l.take m) (.join (At X.n X.df (fun _ : Unit=>(dp,.bool c) :: L) (fun _=>C)) :: k) L C)
  (h0 : b = true → p → O X ops (l.take m) (.join (At X.n X.df (fun _ : Unit=>(dp,.bool true) :: L) (fun _=>C)) :: k) L C)
  (h2 : O X ops (l.drop m) k ((dp,.bool (b || c)) :: L) C) : O X ops l k L C:=o_or m dj dp b c hb (fun h=>h1 h (hB.f h)) (fun h=>h0 h (hB.t h)) h2
theorem oNo {j dj : Nat} {want b : Bool} {dst : Option Nat} (next : O X ops (⟨dst,op,ty,pos,aft,none⟩ :: rest) k L C) (hj : (ops[j]?).bind (·.dst) = some dj:=by rfl) (hs : Qb.get L dj = some (.bool b):=by rfl) (hb : b = want:=by assumption) : O X ops (⟨dst,op,ty,pos,aft,some (j,want)⟩ :: rest) k L C:=o_on dj b hj hs hb next
theorem oFt {j dj : Nat} {b : Bool} (next : O X ops rest k ((d,undef) :: L) C) (hj : (ops[j]?).bind (·.dst) = some dj:=by rfl) (hs : Qb.get L dj = some (.bool b):=by rfl) (hb : b = false:=by assumption) (hd : Nat.blt d X.n = true:=by rfl) : O X ops (⟨some d,op,ty,pos,aft,some (j,true)⟩ :: rest) k L C:=Qp6 dj b hj hs hb hd next
theorem oFf {j dj : Nat} {b : Bool} (next : O X ops rest k ((d,undef) :: L) C) (hj : (ops[j]?).bind (·.dst) = some dj:=by rfl) (hs : Qb.get L dj = some (.bool b):=by rfl) (hb : b = true:=by assumption) (hd : Nat.blt d X.n = true:=by rfl) : O X ops (⟨some d,op,ty,pos,aft,some (j,false)⟩ :: rest) k L C:=Qp6 dj b hj hs hb hd next
theorem oFu {j dj : Nat} {want : Bool} (next : O X ops rest k ((d,undef) :: L) C) (hj : (ops[j]?).bind (·.dst) = some dj:=by rfl) (hs : Qb.get L dj = some undef:=by rfl) (hd : Nat.blt d X.n = true:=by rfl) : O X ops (⟨some d,op,ty,pos,aft,some (j,want)⟩ :: rest) k L C:=Qql dj hj hs hd next
variable {w0 : World} {M : List Nat} {As : List HA}
theorem oCq {f : FuncId} {args : Array Operand} {vs : List Value} {v : Value} {at' : Array TypeId} (ha : evs L args.toList = some vs) [hf : TFn X.P f] (hc : ∀ w,HS w0 M As w → Calls X.P f vs.toArray w fun e w'=>e = .returned v ∧ Below w.heap.size w w') (next : O X ops rest k ((d,v) :: L) (HS w0 M As)) (hd : Nat.blt d X.n = true:=by rfl) :
  O X ops (⟨some d,.call { callee:=.value (.func f),args:=args,argTypes:=at' },ty,pos,aft,none⟩ :: rest) k L (HS w0 M As):=o_q (QE rfl hf.h ha hc) hd next
theorem oCh {G : Type} {V : G → Value} {F : G → Prop} {Bs : G → List HA} {f : FuncId} {args : Array Operand} {vs : List Value} {at' : Array TypeId} (ha : evs L args.toList = some vs) [hf : TFn X.P f] (hc : ∀ w,HS w0 M As w → Calls X.P f vs.toArray w fun e w'=>∃ g,e = .returned (V g) ∧ F g ∧ HS w [] (Bs g) w') (next : ∀ g,F g → O X ops rest k ((d,V g) :: L) (HS w0 M (Bs g ++ As))) (hd : Nat.blt d X.n = true:=by rfl) :
  O X ops (⟨some d,.call { callee:=.value (.func f),args:=args,argTypes:=at' },ty,pos,aft,none⟩ :: rest) k L (HS w0 M As):=o_h (Qs8 rfl hf.h ha hc) hd next
theorem sBk {α : Type} {LJ : α → Qb} {CJ : α → World → Prop} {I : α → Prop} {m : α → Nat} {x : α} (y : α) (hm : m y < m x:=by omega) (hI : I y:=by omega) (hL : Qbh L (LJ y):=by repeat (first | exact sl_n | refine sl_c rfl ?_)) (hC : ∀ w,HS w0 M As w → CJ y w:=by (intro w h;exact h.ent aEt)) : S X (.join (Qp9 X.n X.df LJ CJ I m x) :: k) L (HS w0 M As):=QW y hm hI hL hC
end
section
variable {X : Ctx} {k : List KI} {L : Qb} {C : World → Prop} {ops : Array Oper} {rest : List Oper} {d ty : Nat} {pos : String} {aft : Array Edge} {op : Op} {LJ : Unit → Qb} {CJ : Unit → World → Prop}
theorem o0t {j dj : Nat} {b : Bool} (next : O X ops rest k L C) (hj : (ops[j]?).bind (·.dst) = some dj:=by rfl) (hs : Qb.get L dj = some (.bool b):=by rfl) (hb : b = false:=by assumption) : O X ops (⟨none,op,ty,pos,aft,some (j,true)⟩ :: rest) k L C:=QjS dj b hj hs hb next
theorem o0f {j dj : Nat} {b : Bool} (next : O X ops rest k L C) (hj : (ops[j]?).bind (·.dst) = some dj:=by rfl) (hs : Qb.get L dj = some (.bool b):=by rfl) (hb : b = true:=by assumption) : O X ops (⟨none,op,ty,pos,aft,some (j,false)⟩ :: rest) k L C:=QjS dj b hj hs hb next
theorem oJt (m dp : Nat) {c x y : Operand} {b : Bool} {v : Value} (hc : ev L c = some (.bool b):=by rfl) (hb : b = true:=by assumption) (hx : ev L x = some v:=by rfl) (hd : Nat.blt dp X.n = true:=by rfl) (hJ : LJ () = (dp,v) :: ((dp,v) :: L).drop m:=by exact rfl) (hf : Qf5 ((dp,v) :: L) m = true:=by exact rfl) (hC : ∀ w,C w → CJ () w:=by (intro w h;first | exact h | exact h.ent aEt)) :
  O X ops [⟨some dp,.pick c x y,ty,pos,aft,none⟩] (.join (At X.n X.df LJ CJ) :: k) L C:=o_p (X2 rfl hc hb hx) hd (Qlg (Qlr m dp v hJ (by rw [Qb.get_cons,if_pos rfl]) hf hC))
theorem oJf (m dp : Nat) {c x y : Operand} {b : Bool} {v : Value} (hc : ev L c = some (.bool b):=by rfl) (hb : b = false:=by assumption) (hx : ev L y = some v:=by rfl) (hd : Nat.blt dp X.n = true:=by rfl) (hJ : LJ () = (dp,v) :: ((dp,v) :: L).drop m:=by exact rfl) (hf : Qf5 ((dp,v) :: L) m = true:=by exact rfl) (hC : ∀ w,C w → CJ () w:=by (intro w h;first | exact h | exact h.ent aEt)) :
  O X ops [⟨some dp,.pick c x y,ty,pos,aft,none⟩] (.join (At X.n X.df LJ CJ) :: k) L C:=o_p (XM rfl hc hb hx) hd (Qlg (Qlr m dp v hJ (by rw [Qb.get_cons,if_pos rfl]) hf hC))
end
section
variable {P : Program} {f : FuncId} {fn : Func} {n : Nat} {c : Code} {w w1 : World} {R : Ending → World → Prop} {M : List Nat} {As : List HA}
theorem eN0 (hf : P.funcs[f]? = some fn) (hn : fn.ntmps = n) (h : S { P:=P,fn:=fn,n:=n,R:=R } [.c c] (QdA 0 []) (HS w [] [])) (hb : fn.body = some c:=by rfl) (hl : Nat.ble 0 n = true:=by rfl) : Calls P f #[] w R:=enter (args:=[]) hf hn hb hl (HS.refl w []) h
theorem eN1 {x0 : Value} (hf : P.funcs[f]? = some fn) (hn : fn.ntmps = n) (h : S { P:=P,fn:=fn,n:=n,R:=R } [.c c] (QdA 0 [x0]) (HS w [] [])) (hb : fn.body = some c:=by rfl) (hl : Nat.ble 1 n = true:=by rfl) : Calls P f #[x0] w R:=enter (args:=[x0]) hf hn hb hl (HS.refl w []) h
theorem eW1 {x0 : Value} (hf : P.funcs[f]? = some fn) (hn : fn.ntmps = n) (hw : HS w1 M As w) (h : S { P:=P,fn:=fn,n:=n,R:=R } [.c c] (QdA 0 [x0]) (HS w1 M As)) (hb : fn.body = some c:=by rfl) (hl : Nat.ble 1 n = true:=by rfl) : Calls P f #[x0] w R:=enter (args:=[x0]) hf hn hb hl hw h
theorem eN2 {x0 : Value} {x1 : Value} (hf : P.funcs[f]? = some fn) (hn : fn.ntmps = n) (h : S { P:=P,fn:=fn,n:=n,R:=R } [.c c] (QdA 0 [x0,x1]) (HS w [] [])) (hb : fn.body = some c:=by rfl) (hl : Nat.ble 2 n = true:=by rfl) : Calls P f #[x0,x1] w R:=enter (args:=[x0,x1]) hf hn hb hl (HS.refl w []) h
theorem eW2 {x0 : Value} {x1 : Value} (hf : P.funcs[f]? = some fn) (hn : fn.ntmps = n) (hw : HS w1 M As w) (h : S { P:=P,fn:=fn,n:=n,R:=R } [.c c] (QdA 0 [x0,x1]) (HS w1 M As)) (hb : fn.body = some c:=by rfl) (hl : Nat.ble 2 n = true:=by rfl) : Calls P f #[x0,x1] w R:=enter (args:=[x0,x1]) hf hn hb hl hw h
theorem eN3 {x0 : Value} {x1 : Value} {x2 : Value} (hf : P.funcs[f]? = some fn) (hn : fn.ntmps = n) (h : S { P:=P,fn:=fn,n:=n,R:=R } [.c c] (QdA 0 [x0,x1,x2]) (HS w [] [])) (hb : fn.body = some c:=by rfl) (hl : Nat.ble 3 n = true:=by rfl) : Calls P f #[x0,x1,x2] w R:=enter (args:=[x0,x1,x2]) hf hn hb hl (HS.refl w []) h
theorem eW3 {x0 : Value} {x1 : Value} {x2 : Value} (hf : P.funcs[f]? = some fn) (hn : fn.ntmps = n) (hw : HS w1 M As w) (h : S { P:=P,fn:=fn,n:=n,R:=R } [.c c] (QdA 0 [x0,x1,x2]) (HS w1 M As)) (hb : fn.body = some c:=by rfl) (hl : Nat.ble 3 n = true:=by rfl) : Calls P f #[x0,x1,x2] w R:=enter (args:=[x0,x1,x2]) hf hn hb hl hw h
theorem eN5 {x0 : Value} {x1 : Value} {x2 : Value} {x3 : Value} {x4 : Value} (hf : P.funcs[f]? = some fn) (hn : fn.ntmps = n) (h : S { P:=P,fn:=fn,n:=n,R:=R } [.c c] (QdA 0 [x0,x1,x2,x3,x4]) (HS w [] [])) (hb : fn.body = some c:=by rfl) (hl : Nat.ble 5 n = true:=by rfl) : Calls P f #[x0,x1,x2,x3,x4] w R:=enter (args:=[x0,x1,x2,x3,x4]) hf hn hb hl (HS.refl w []) h
end
theorem aU {p q : Prop} (hq : q) (h : (Unit → q) → p:=by (intro hq;first | refine Qk5 ?_ | refine Qjo ?_ | refine Qlg ?_ | refine Qo0 ?_ | refine Qhp ?_ | refine Qss ?_ | refine oP ?_ | refine oNo ?_ | refine oFt ?_ | refine oFf ?_ | refine oFu ?_ | refine o0t ?_ | refine o0f ?_ | refine oFa ?_ | refine oLs ?_ | refine oLd ?_ | refine oLn ?_ | refine oSt ?_);exact hq ()) : p:=h fun _=>hq
theorem aT {p q : Prop} (hq : q) (h : (Unit → q) → p:=by (intro hq;refine aU ?_;try refine oWr ?_);exact hq ()) : p:=h fun _=>hq
theorem aU2 {p q : Prop} (hq : q) (h : (Unit → q) → p:=by (intro hq;iterate 2 refine aU ?_);exact hq ()) : p:=h fun _=>hq
theorem aT2 {p q : Prop} (hq : q) (h : (Unit → q) → p:=by (intro hq;(iterate 2 refine aU ?_);try refine oWr ?_);exact hq ()) : p:=h fun _=>hq
theorem aU3 {p q : Prop} (hq : q) (h : (Unit → q) → p:=by (intro hq;iterate 3 refine aU ?_);exact hq ()) : p:=h fun _=>hq
theorem aT3 {p q : Prop} (hq : q) (h : (Unit → q) → p:=by (intro hq;(iterate 3 refine aU ?_);try refine oWr ?_);exact hq ()) : p:=h fun _=>hq
theorem aU4 {p q : Prop} (hq : q) (h : (Unit → q) → p:=by (intro hq;iterate 4 refine aU ?_);exact hq ()) : p:=h fun _=>hq
theorem aT4 {p q : Prop} (hq : q) (h : (Unit → q) → p:=by (intro hq;(iterate 4 refine aU ?_);try refine oWr ?_);exact hq ()) : p:=h fun _=>hq
theorem aU5 {p q : Prop} (hq : q) (h : (Unit → q) → p:=by (intro hq;iterate 5 refine aU ?_);exact hq ()) : p:=h fun _=>hq
theorem aT5 {p q : Prop} (hq : q) (h : (Unit → q) → p:=by (intro hq;(iterate 5 refine aU ?_);try refine oWr ?_);exact hq ()) : p:=h fun _=>hq
theorem aU6 {p q : Prop} (hq : q) (h : (Unit → q) → p:=by (intro hq;iterate 6 refine aU ?_);exact hq ()) : p:=h fun _=>hq
theorem aT6 {p q : Prop} (hq : q) (h : (Unit → q) → p:=by (intro hq;(iterate 6 refine aU ?_);try refine oWr ?_);exact hq ()) : p:=h fun _=>hq
theorem aU7 {p q : Prop} (hq : q) (h : (Unit → q) → p:=by (intro hq;iterate 7 refine aU ?_);exact hq ()) : p:=h fun _=>hq
theorem aT7 {p q : Prop} (hq : q) (h : (Unit → q) → p:=by (intro hq;(iterate 7 refine aU ?_);try refine oWr ?_);exact hq ()) : p:=h fun _=>hq
theorem aU8 {p q : Prop} (hq : q) (h : (Unit → q) → p:=by (intro hq;iterate 8 refine aU ?_);exact hq ()) : p:=h fun _=>hq
theorem aT8 {p q : Prop} (hq : q) (h : (Unit → q) → p:=by (intro hq;(iterate 8 refine aU ?_);try refine oWr ?_);exact hq ()) : p:=h fun _=>hq
theorem aU9 {p q : Prop} (hq : q) (h : (Unit → q) → p:=by (intro hq;iterate 9 refine aU ?_);exact hq ()) : p:=h fun _=>hq
theorem aT9 {p q : Prop} (hq : q) (h : (Unit → q) → p:=by (intro hq;(iterate 9 refine aU ?_);try refine oWr ?_);exact hq ()) : p:=h fun _=>hq
theorem Qaj {p q : Prop} (hq : q) (h : (Unit → q) → p:=by (intro hq;iterate 10 refine aU ?_);exact hq ()) : p:=h fun _=>hq
theorem Qml {p q : Prop} (hq : q) (h : (Unit → q) → p:=by (intro hq;(iterate 10 refine aU ?_);try refine oWr ?_);exact hq ()) : p:=h fun _=>hq
theorem Qfe {p q : Prop} (hq : q) (h : (Unit → q) → p:=by (intro hq;iterate 11 refine aU ?_);exact hq ()) : p:=h fun _=>hq
theorem Qes {p q : Prop} (hq : q) (h : (Unit → q) → p:=by (intro hq;iterate 12 refine aU ?_);exact hq ()) : p:=h fun _=>hq
theorem Qgd {p q : Prop} (hq : q) (h : (Unit → q) → p:=by (intro hq;iterate 13 refine aU ?_);exact hq ()) : p:=h fun _=>hq
theorem aT13 {p q : Prop} (hq : q) (h : (Unit → q) → p:=by (intro hq;(iterate 13 refine aU ?_);try refine oWr ?_);exact hq ()) : p:=h fun _=>hq
theorem Qh8 {p q : Prop} (hq : q) (h : (Unit → q) → p:=by (intro hq;iterate 14 refine aU ?_);exact hq ()) : p:=h fun _=>hq
theorem aT14 {p q : Prop} (hq : q) (h : (Unit → q) → p:=by (intro hq;(iterate 14 refine aU ?_);try refine oWr ?_);exact hq ()) : p:=h fun _=>hq
theorem aU15 {p q : Prop} (hq : q) (h : (Unit → q) → p:=by (intro hq;iterate 15 refine aU ?_);exact hq ()) : p:=h fun _=>hq
theorem aU16 {p q : Prop} (hq : q) (h : (Unit → q) → p:=by (intro hq;iterate 16 refine aU ?_);exact hq ()) : p:=h fun _=>hq
theorem aT16 {p q : Prop} (hq : q) (h : (Unit → q) → p:=by (intro hq;(iterate 16 refine aU ?_);try refine oWr ?_);exact hq ()) : p:=h fun _=>hq
theorem aT17 {p q : Prop} (hq : q) (h : (Unit → q) → p:=by (intro hq;(iterate 17 refine aU ?_);try refine oWr ?_);exact hq ()) : p:=h fun _=>hq
end Gx
namespace Go.Proofs
open Go Go.RowKit Gx
instance : TSe Tryz.prog 28 3:=⟨Tryz.underlying28⟩
instance : TSe Tryz.prog 35 69:=⟨Tryz.underlying35⟩
instance : TSe Tryz.prog 67 27:=⟨Tryz.underlying67⟩
instance : TSe Tryz.prog 139 5:=⟨Tryz.underlying139⟩
instance : TSe Tryz.prog 183 29:=⟨Tryz.underlying183⟩
end Go.Proofs
/- What chapter 13's texts stand on. -/
namespace Go.Proofs
open Go Go.RowKit Gx
attribute [local irreducible] Go.Calls Gx.S Gx.O Gx.D Gx.OpP Gx.OpQ Gx.OpH
set_option maxRecDepth 20000
theorem Y3 : tsl Tryz.prog 183 = some (29,1,8):=by kernel_rfl
theorem QpZ : tsz Tryz.prog 29 = some (1,false):=by kernel_rfl
instance : TFn Tryz.prog 182:=⟨by kernel_rfl⟩
instance : TFn Tryz.prog 167:=⟨by kernel_rfl⟩
instance : TFn Tryz.prog 124:=⟨by kernel_rfl⟩
theorem Qcj : QM Tryz.prog 29 = some [.int .i64 0]:=by kernel_rfl
instance : TFn Tryz.prog 125:=⟨by kernel_rfl⟩
instance : TFn Tryz.prog 40:=⟨by kernel_rfl⟩
theorem QpP (w : World) (n lo hi : Int) : Calls Tryz.prog 182 #[.int .i64 n,.int .i64 lo,.int .i64 hi] w fun en w'=>en = .returned (.bool (decide (lo ≤ n) && decide (n ≤ hi))) ∧ Below w.heap.size w w':=by
 refine eN3 Tryz.func182 Tryz.ntmps182 ?_
 refine Qaj ?_
 refine YS 4 10 14 rfl
  (fun hg1 _=>by
   refine aU6 ?_
   exact oJt 4 14)
  (fun hg3 _=>by
   refine aU3 ?_
   exact oJf 4 14) ?_
 refine aU2 ?_
 exact rT rfl rfl (fun w' h'=>⟨rfl,h'.below⟩)
theorem c40 (w : World) (n lo hi : Int) : Calls Tryz.prog 40 #[.int .i64 n,.int .i64 lo,.int .i64 hi] w fun en w'=>en = .returned (.bool (decide (lo ≤ n) && decide (n ≤ hi))) ∧ Below w.heap.size w w':=by
 refine eN3 Tryz.func40 Tryz.ntmps40 ?_
 refine Qaj ?_
 refine YS 4 10 14 rfl
  (fun hg1 _=>by
   refine aU6 ?_
   exact oJt 4 14)
  (fun hg3 _=>by
   refine aU3 ?_
   exact oJf 4 14) ?_
 refine aU2 ?_
 exact rT rfl rfl (fun w' h'=>⟨rfl,h'.below⟩)
theorem QtL (w : World) (ok : Bool) (e : Int) : Calls Tryz.prog 167 #[.bool ok,.int .i64 e] w fun en w'=>en = .returned (.int .i64 (cond ok 0 e)) ∧ Below w.heap.size w w':=by
 refine eN2 Tryz.func167 Tryz.ntmps167 ?_
 refine aU9 ?_
 refine sCd rfl (fun h1=>?_) fun h1=>?_
 ·refine aU4 ?_
  exact rT rfl rfl (fun w' h'=>⟨by simp_all [Xj],h'.below⟩)
 refine aU6 ?_
 exact rT rfl rfl (fun w' h'=>⟨by simp_all [Xj],h'.below⟩)
theorem c125 (w : World) (a : Option Addr) (cap : Nat) (es : List Int) (hs : Sl w [] a 1 es.length (fun i=>[.int .i64 (es.getD i 0)])) (hm : es.length ≤ 1000) : Calls Tryz.prog 125 #[.slice a es.length cap] w fun en w'=>en = .returned (.int .i64 (Yj es)) ∧ Below w.heap.size w w':=by
 refine eN1 Tryz.func125 Tryz.ntmps125 ?_
 refine Qes ?_
 refine Qt (α:=Nat) [2,4,7,8,9,10,11,12,13,14] (fun k=>[(7,.int .i64 (k : Int))]) (fun _=>_) (fun k=>k ≤ es.length ∧ Yj es = Yj (es.drop k)) (fun k=>es.length - k) 0 ⟨by omega,rfl⟩ aSx (fun w h=>h) (fun k hk=>?_)
 obtain ⟨hk1,hk2⟩:=hk
 refine aU5 ?_
 refine sCd rfl (fun h1=>?_) fun h1=>?_
 ·refine aU5 ?_
  refine o_p (Qc rfl rfl rfl Y3 _ rfl (by omega) (hs.some (by omega))) rfl ?_
  refine o_q (Qe rfl rfl QpZ (hs.rd (i:=k) (j:=0) (by omega) rfl)) rfl ?_
  refine aU7 ?_
  refine sCd rfl (fun h2=>?_) fun h2=>?_
  ·refine aU5 ?_
   exact rT rfl rfl (fun w' h'=>⟨by simp only [Xj];rw [hk2,YI (by omega),if_neg (by assumption)],h'.below⟩)
  refine aT4 ?_
  refine aU2 ?_
  exact QW (k+1) (by omega) ⟨by omega,by rw [hk2,YI (by omega),if_pos (by assumption)]⟩ aSx (fun w h=>h)
 refine Qo rfl ?_
 refine aU4 ?_
 exact rT rfl rfl (fun w' h'=>⟨by simp only [Xj];rw [hk2,QcM (by omega)],h'.below⟩)
theorem f125 {w0 w : World} {M : List Nat} {As As' : List HA} {b cap n : Nat} {t : TypeId} {tot : Nat} {cs : List Value} (h : HS w0 M As w) (hp : QD As (.blk b t tot cs) As') (hc : cs.all QgE = true) (hn : cs.length = n) (hl : n ≤ 1000) :
    Calls Tryz.prog 125 #[.slice (some ⟨b,0,none⟩) n cap] w fun en w'=>en = .returned (.int .i64 (Xt cs)) ∧ Below w.heap.size w w':=by
  subst hn;have:=c125 w (some ⟨b,0,none⟩) cap (cs.map Go.RowKit.intOf) (by simpa using h.sl_ints hp hc) (by simpa using hl);rw [QbY hc] at this
  simpa using this
theorem c124 (w : World) (n : Int) : Calls Tryz.prog 124 #[.int .i64 n] w fun en w'=>en = .returned (.int .i64 (Qp n)) ∧ Below w.heap.size w w':=by
 refine eN1 Tryz.func124 Tryz.ntmps124 ?_
 refine aU7 ?_
 refine oCq rfl (fun w1 h1=>QpP w1 _ _ _) ?_
 refine oCq rfl (fun w1 h1=>QtL w1 _ _) ?_
 refine aU2 ?_
 exact rT rfl rfl (fun w' h'=>⟨by simp only [Xj,Qp,cond_eq_ite,Bool.and_eq_true,decide_eq_true_eq],h'.below⟩)
theorem Qg3 {a b : Int} : Xt [.int .i64 a,.int .i64 b] = if a = 0 then b else a:=by
  simp only [Xt]
  grind
theorem c155 (w : World) (co mo rm : Int) : Calls Tryz.prog 155 #[.int .i64 co,.int .i64 mo,.int .i64 rm] w fun en w'=>en = .returned (.int .i64 (if Qp co = 0 then XO mo rm else Qp co)) ∧ Below w.heap.size w w':=by
 refine eN3 Tryz.func155 Tryz.ntmps155 ?_
 refine aU7 ?_
 refine oCq rfl (fun w1 h1=>QpP w1 _ _ _) ?_
 refine aU ?_
 refine YS 6 10 16 rfl
  (fun hg1 _=>by
   refine aU5 ?_
   refine o_p (XD rfl rfl rfl (by omega) (by omega) (by omega)) rfl ?_
   refine aU3 ?_
   refine oCq rfl (fun w1 h1=>QpP w1 _ _ _) ?_
   exact oJt 6 16)
  (fun hg3 _=>by
   refine aU5 ?_
   exact oJf 6 16) ?_
 refine aU5 ?_
 refine oCq rfl (fun w1 h1=>c124 w1 _) ?_
 refine aU ?_
 refine oCq rfl (fun w1 h1=>QtL w1 _ _) ?_
 refine o_h (Ql (cs:=[_,_]) rfl rfl Y3 Qcj rfl rfl rfl) rfl (fun b5 _=>?_)
 refine oCq rfl (fun w1 h1=>f125 h1 aPk (by rfl) (by rfl) (by decide)) ?_
 refine aU2 ?_
 exact rT rfl rfl (fun w' h'=>⟨by simp only [Xj];rw [Qg3];simp only [XO,cond_eq_ite,Bool.and_eq_true,decide_eq_true_eq],h'.below⟩)
theorem c96 (w : World) (n : Int) : Calls Tryz.prog 96 #[.int .i64 n] w fun en w'=>en = .returned (.int .i64 (Qp n)) ∧ Below w.heap.size w w':=by
 refine eN1 Tryz.func96 Tryz.ntmps96 ?_
 refine aU8 ?_
 refine oCq rfl (fun w1 h1=>c40 w1 _ _ _) ?_
 refine aU2 ?_
 refine sCd rfl (fun h1=>?_) fun h1=>?_
 ·have hz : Qp n = 15:=by have hq:=h1;unfold Qp;rw [if_neg (by first | omega | (simp at hq;omega))]
  refine aU4 ?_
  exact rT rfl rfl (fun w' h'=>⟨by rw [hz];rfl,h'.below⟩)
 have hz : Qp n = 0:=by have hq:=h1;unfold Qp;rw [if_pos (by first | omega | (simp at hq;omega))]
 refine aU5 ?_
 exact rT rfl rfl (fun w' h'=>⟨by rw [hz];rfl,h'.below⟩)
theorem c97 (w : World) (mo rm : Int) : Calls Tryz.prog 97 #[.int .i64 mo,.int .i64 rm] w fun en w'=>en = .returned (.int .i64 (XO mo rm)) ∧ Below w.heap.size w w':=by
 refine eN2 Tryz.func97 Tryz.ntmps97 ?_
 refine aU8 ?_
 refine oCq rfl (fun w1 h1=>c40 w1 _ _ _) ?_
 refine aU2 ?_
 refine oOr 7 8 15 rfl
  (fun hg1 _=>by
   refine aU5 ?_
   refine o_p (XD rfl rfl rfl (by omega) (by omega) (by omega)) rfl ?_
   refine aU3 ?_
   refine oCq rfl (fun w1 h1=>c40 w1 _ _ _) ?_
   refine aU2 ?_
   exact oJf 7 15)
  (fun hg3 _=>by
   refine aU6 ?_
   exact oJt 7 15) ?_
 refine aU ?_
 refine sCd rfl (fun h5=>?_) fun h5=>?_
 ·have hz : XO mo rm = 2:=by have hq:=h5;unfold XO;rw [if_neg (by first | omega | (simp at hq;omega))]
  refine aU4 ?_
  exact rT rfl rfl (fun w' h'=>⟨by rw [hz];rfl,h'.below⟩)
 have hz : XO mo rm = 0:=by have hq:=h5;unfold XO;rw [if_pos (by first | omega | (simp at hq;omega))]
 refine aU5 ?_
 exact rT rfl rfl (fun w' h'=>⟨by rw [hz];rfl,h'.below⟩)
end Go.Proofs
namespace Go.Proofs
open Go Go.RowKit Gx
section
variable {W : World} {d : Nat}
end
end Go.Proofs
namespace Go.Proofs
open Go Go.RowKit Go.ChangeShapes Gx
section
variable {H : Type} {enc : TypeId × Value → H} {W : World}
end
end Go.Proofs
namespace Go.Proofs
open Go Go.RowKit Gx
attribute [local irreducible] Go.Calls Gx.S Gx.O Gx.D Gx.OpP Gx.OpQ Gx.OpH
set_option maxRecDepth 20000
theorem Zf : tki Tryz.prog 5 = some .u8:=by kernel_rfl
theorem YY : tki Tryz.prog 3 = some .i64:=by kernel_rfl
instance : TFn Tryz.prog 151:=⟨by kernel_rfl⟩
theorem Qoh (a b : Int) : Value.int .i64 (IntKind.i64.wrap ((if decide (b < a) = true then 1 else 0) - (if decide (a < b) = true then 1 else 0))) = Value.int .i64 (XP a b):=by
  unfold XP
  by_cases h1 : a < b
  · have h2 : ¬ b < a:=by omega
    simp only [h1,h2,decide_true,decide_false,Bool.false_eq_true,if_true,if_false];rfl
  · by_cases h2 : b < a
    · simp only [h1,h2,decide_true,decide_false,Bool.false_eq_true,if_true,if_false];rfl
    · simp only [h1,h2,decide_true,decide_false,Bool.false_eq_true,if_true,if_false];rfl
def Qge (c : Int) : Int:=if 97 ≤ c ∧ c ≤ 122 then c - 32 else c
theorem Qfk (u : UInt8) : Qge (u.toNat : Int) = ((Qbj u).toNat : Int):=by
  have hu:=u.toNat_lt;unfold Qge Qbj
  by_cases h : 97 ≤ u ∧ u ≤ 122
  · have h2:=h;rw [UInt8.le_iff_toNat_le,UInt8.le_iff_toNat_le] at h2;have e97 : (97 : UInt8).toNat = 97:=rfl;have e122 : (122 : UInt8).toNat = 122:=rfl;rw [e97,e122] at h2;rw [if_pos h,if_pos (by omega),UInt8.toNat_sub_of_le _ _ (by rw [UInt8.le_iff_toNat_le];show 32 ≤ _;omega)];show (u.toNat : Int) - 32 = ((u.toNat - 32 : Nat) : Int);omega
  · have h2:=h;rw [UInt8.le_iff_toNat_le,UInt8.le_iff_toNat_le] at h2;have e97 : (97 : UInt8).toNat = 97:=rfl;have e122 : (122 : UInt8).toNat = 122:=rfl;rw [e97,e122] at h2;rw [if_neg h,if_neg (by omega)]
theorem c72 (w : World) (s : List UInt8) (at' c : Nat) (hm : s.length ≤ 1000000000) (hc : c ≤ 7) (hac : at' + c ≤ s.length) : Calls Tryz.prog 72 #[.string (bs s),.int .i64 (at' : Int),.int .i64 (c : Int)] w fun en w'=>en = .returned (.int .i64 (QaR s at' c)) ∧ Below w.heap.size w w':=by
 refine eN3 Tryz.func72 Tryz.ntmps72 ?_
 refine aT13 ?_
 refine aU3 ?_
 refine Qt (α:=Nat) [7,8,11,12,13,14,15,16,17,18,19,20,21,22,23] (fun j=>[(8,.int .i64 ((j : Int) - 1)),(7,.int .i64 (QaR s (at' + j) (c - j)))]) (fun _=>_) (fun j=>j ≤ c) (fun j=>j) c (Nat.le_refl _) (by rw [Nat.sub_self];exact aSx) (fun w h=>h) (fun j hj=>?_)
 refine aU6 ?_
 refine sCd rfl (fun h1=>?_) fun h1=>?_
 ·obtain ⟨i,rfl⟩ : ∃ i,j = i + 1:=⟨j - 1,by omega⟩
  have hst : QaR s (at' + i) (c - i) = at1 s (at' + i) + 256 * QaR s (at' + (i + 1)) (c - (i + 1)):=by rw [show c - i = (c - (i + 1)) + 1 by omega,QaR];rfl
  have hb1:=Qbk s (at' + i)
  have hn6:=QuI s (at' + (i + 1)) (k:=c - (i + 1)) (by omega)
  have hb9:=(s.getD (at' + i) 0).toNat_lt
  refine aT6 ?_
  refine aT4 ?_
  refine Qk (show _ = Value.int .i64 ((at' + i : Nat) : Int) from by congr 1;omega) ?_
  refine o_p (Q1 rfl rfl rfl Tryz.underlying9 (at' + i) (by omega) (by omega)) rfl ?_
  refine o_p (Qm rfl rfl Zf YY) rfl ?_
  try refine oWr ?_
  refine aT ?_
  refine Qk (show _ = Value.int .i64 (QaR s (at' + i) (c - i)) from by rw [hst];congr 1;show _ * 256 + at1 s (at' + i) = _;omega) ?_
  refine aT6 ?_
  refine aU2 ?_
  exact QW i (by omega) (by omega) (by rw [show ((i : Int) - 1) = ((i + 1 : Nat) : Int) - 1 - 1 from by omega];exact aSx) (fun w h=>h)
 obtain rfl : j = 0:=by omega
 rw [Nat.add_zero,Nat.sub_zero]
 refine Qo rfl ?_
 refine aU5 ?_
 exact rT rfl rfl (fun w' h'=>⟨by rfl,h'.below⟩)
theorem Qtf (w : World) (b : Bool) : Calls Tryz.prog 151 #[.bool b] w fun en w'=>en = .returned (.int .i64 (if b then 1 else 0)) ∧ Below w.heap.size w w':=by
 refine eN1 Tryz.func151 Tryz.ntmps151 ?_
 refine aU9 ?_
 refine sCd rfl (fun h1=>?_) fun h1=>?_
 ·refine aU4 ?_
  exact rT rfl rfl (fun w' h'=>⟨by simp_all [Xj],h'.below⟩)
 refine aU5 ?_
 exact rT rfl rfl (fun w' h'=>⟨by simp_all [Xj],h'.below⟩)
theorem c35 (w : World) (n : Int) : Calls Tryz.prog 35 #[.int .i64 n] w fun en w'=>en = .returned (.bool (decide (0 ≤ n) && decide (n ≤ 2147483647))) ∧ Below w.heap.size w w':=by
 refine eN1 Tryz.func35 Tryz.ntmps35 ?_
 refine aU7 ?_
 refine oCq rfl (fun w1 h1=>c40 w1 _ _ _) ?_
 refine aU2 ?_
 exact rT rfl rfl (fun w' h'=>⟨rfl,h'.below⟩)
theorem Qpi (w : World) (a b : Int) : Calls Tryz.prog 133 #[.int .i64 a,.int .i64 b] w fun en w'=>en = .returned (.int .i64 (XP a b)) ∧ Below w.heap.size w w':=by
 refine eN2 Tryz.func133 Tryz.ntmps133 ?_
 refine aU9 ?_
 refine oCq rfl (fun w1 h1=>Qtf w1 _) ?_
 refine aU3 ?_
 refine oCq rfl (fun w1 h1=>Qtf w1 _) ?_
 refine aU ?_
 refine Qk (show _ = Value.int .i64 (XP a b) from Qoh a b) ?_
 refine aU2 ?_
 exact rT rfl rfl (fun w' h'=>⟨by rfl,h'.below⟩)
theorem c134 (w : World) (c : Int) (h0 : 0 ≤ c ∧ c ≤ 255) : Calls Tryz.prog 134 #[.int .i64 c] w fun en w'=>en = .returned (.int .i64 (Qge c)) ∧ Below w.heap.size w w':=by
 refine eN1 Tryz.func134 Tryz.ntmps134 ?_
 refine aU8 ?_
 refine oCq rfl (fun w1 h1=>c40 w1 _ _ _) ?_
 refine aU ?_
 refine sCd rfl (fun h1=>?_) fun h1=>?_
 ·have hz : Qge c = c - 97 + 65:=by have hq:=h1;unfold Qge;rw [if_pos (by first | exact hq | (simp at hq;omega))];omega
  refine aT4 ?_
  refine aT ?_
  refine aU2 ?_
  exact rT rfl rfl (fun w' h'=>⟨by rw [hz];rfl,h'.below⟩)
 have hz : Qge c = c:=by have hq:=h1;unfold Qge;rw [if_neg (by intro h9;first | exact hq h9 | (simp at hq;omega))]
 refine aU6 ?_
 exact rT rfl rfl (fun w' h'=>⟨by rw [hz];rfl,h'.below⟩)
theorem Qw : tsl Tryz.prog 139 = some (5,1,1):=by kernel_rfl
theorem QdB : tsz Tryz.prog 5 = some (1,false):=by kernel_rfl
instance : TSz Tryz.prog 5 1 false:=⟨QdB⟩
theorem X0 : tki Tryz.prog 188 = some .u16:=by kernel_rfl
theorem QZ : Tryz.prog.follows .mixedOrders = true:=by kernel_rfl
theorem QnG : Xl Tryz.prog 268 = true:=by kernel_rfl
theorem YH : tki Tryz.prog 190 = some .u32:=by kernel_rfl
instance : TFn Tryz.prog 255:=⟨by kernel_rfl⟩
instance : TFn Tryz.prog 256:=⟨by kernel_rfl⟩
theorem Qps : Qtg Tryz.prog 254:=⟨_,Tryz.func254,rfl,rfl,by kernel_rfl,by kernel_rfl⟩
instance : TFn Tryz.prog 226:=⟨by kernel_rfl⟩
theorem c268 (w : World) (a : Option Addr) (m cap : Nat) (x : List UInt8) (hs : Vl w a (x.map bv)) (hm : x.length = m) (h2 : 2 ≤ m) (hc : m ≤ cap) (hc9 : cap ≤ 9223372036854775807) : Calls Tryz.prog 268 #[.slice a m cap] w fun en w'=>en = .returned (.int .u16 (at2 x 0)) ∧ Below w.heap.size w w':=by
 refine eN1 Tryz.func268 Tryz.ntmps268 ?_
 refine aU5 ?_
 refine QL [] QZ ?_
 refine dP 0 ?_
 refine dV 1 rfl (Qc rfl rfl rfl Qw 0 rfl (by omega) (hs.some (by rw [List.length_map];omega))) ?_
 refine dQ 2 [] rfl (Qe rfl rfl QdB ((hs.rd (i:=0) (ZR (l:=x) (k:=0) (by omega))))) ?_
 refine dV 3 rfl (Qm rfl rfl Zf X0) ?_
 refine dP 4 ?_
 refine dV 5 rfl (Qc rfl rfl rfl Qw 1 rfl (by omega) (hs.some (by rw [List.length_map];omega))) ?_
 refine dQ 6 [] rfl (Qe rfl rfl QdB ((hs.rd (i:=1) (ZR (l:=x) (k:=1) (by omega))))) ?_
 refine dV 7 rfl (Qm rfl rfl Zf X0) ?_
 refine dV 8 rfl (QeZ rfl rfl rfl (by decide) 8 rfl) ?_
 refine dP 9 ?_
 refine dP 10 ?_
 refine dNi ?_
 exact rT rfl rfl (fun w' h'=>⟨by rw [← Qii];rfl,h'.below⟩)
theorem c255 (w : World) (a : Option Addr) (m cap : Nat) (x : List UInt8) (hs : Vl w a (x.map bv)) (hm : x.length = m) (h2 : 4 ≤ m) (hc : m ≤ cap) (hc9 : cap ≤ 9223372036854775807) : Calls Tryz.prog 255 #[.slice a m cap] w fun en w'=>en = .returned (.int .u32 (at4 x 0)) ∧ Below w.heap.size w w':=by
 have hx2:=Qag x 0
 have hx3:=Qag x 2
 refine eN1 Tryz.func255 Tryz.ntmps255 ?_
 refine aU5 ?_
 refine QL [] QZ ?_
 refine dP 0 ?_
 refine dQ 1 [] rfl (QE rfl QnG rfl (fun w1 h1=>c268 w1 a m cap x (hs.later h1) hm (by omega) hc hc9)) ?_
 refine dV 2 rfl (Qm rfl rfl X0 YH) ?_
 refine dP 3 ?_
 refine dV 4 rfl (Qs _ _ 2 m rfl rfl Qw ⟨_,_,rfl,rfl⟩ rfl (by omega) (by omega)) ?_
 refine dQ 5 [] rfl (QE rfl QnG rfl (fun w1 h1=>c268 w1 (XC a cap 2 1) (m - 2) (cap - 2) (x.drop 2) (by rw [List.map_drop];exact (hs.later h1).drop (by rw [List.length_map];omega) (by omega)) (by rw [List.length_drop];omega) (by omega) (by omega) (by omega))) ?_
 refine dV 6 rfl (Qm rfl rfl X0 YH) ?_
 refine dV 7 rfl (QeZ rfl rfl rfl (by decide) 16 rfl) ?_
 refine dP 8 ?_
 refine dP 9 ?_
 refine dNi ?_
 exact rT rfl rfl (fun w' h'=>⟨by have h9:=Qja (at2 x 0) (at2 (x.drop 2) 0) (Qag _ _) (Qag _ _);rw [Qau] at h9 ⊢;exact (congrArg Ending.returned h9),h'.below⟩)
theorem Qs3 (w : World) (s : List UInt8) (p : Nat) (hm : s.length ≤ 1000000) (hp : p + 4 ≤ s.length) : Calls Tryz.prog 227 #[.string (bs s),.int .i64 (p : Int)] w fun en w'=>en = .returned (.int .u32 (at4 s p)) ∧ Below w.heap.size w w':=by
 have h4:=QhG s p
 have hdl : (s.drop p).length = s.length - p:=List.length_drop
 refine eN2 Tryz.func227 Tryz.ntmps227 ?_
 refine aU8 ?_
 refine o_p (Yv p rfl rfl rfl Tryz.underlying9 rfl (by omega)) rfl ?_
 refine o_h (Z2 rfl rfl Tryz.underlying9 Tryz.underlying139 Tryz.underlying5 rfl (by simp only [maxLen];omega)) rfl (fun ⟨b1,c2⟩ ⟨h3,k4⟩=>?_)
 refine oCq rfl (fun w1 h1=>by have h9:=c255 w1 (some ⟨b1,0,none⟩) (s.drop p).length c2 (s.drop p) (h1.vl_blk aPk) rfl (by omega) (by assumption) (by have hq9 : c2 ≤ maxLen:=(by assumption);simp only [maxLen] at hq9;omega);rw [QeX,Nat.add_zero] at h9;exact h9) ?_
 refine aU2 ?_
 exact rT rfl rfl (fun w' h'=>⟨by rfl,h'.below⟩)
theorem c256 (w : World) (x : Int) : Calls Tryz.prog 256 #[.int .u32 x] w fun en w'=>en = .returned (.bool false) ∧ Below w.heap.size w w':=by
 refine eN1 Tryz.func256 Tryz.ntmps256 ?_
 refine Qfe ?_
 exact rT rfl rfl (fun w' h'=>⟨by simp [Xj],h'.below⟩)
theorem c228 (w : World) (x y : Int) : Calls Tryz.prog 228 #[.int .u32 x,.int .u32 y] w fun en w'=>en = .returned (.int .i64 (XP x y)) ∧ Below w.heap.size w w':=by
 refine eN2 Tryz.func228 Tryz.ntmps228 ?_
 refine aU7 ?_
 refine oCq rfl (fun w1 h1=>c256 w1 _) ?_
 refine aU5 ?_
 refine oCq rfl (fun w1 h1=>c256 w1 _) ?_
 refine aU7 ?_
 refine sCd rfl (fun h1=>?_) fun h1=>?_
 ·exfalso;simp at h1
 refine aU6 ?_
 refine sCd rfl (fun h2=>?_) fun h2=>?_
 ·exfalso;simp at h2
 refine aU8 ?_
 refine sCd rfl (fun h3=>?_) fun h3=>?_
 ·have hz : XP x y = -1:=by have hq:=h3;unfold XP;rw [if_pos hq]
  refine aU4 ?_
  exact rT rfl rfl (fun w' h'=>⟨by rw [hz];rfl,h'.below⟩)
 refine aU8 ?_
 refine sCd rfl (fun h4=>?_) fun h4=>?_
 ·have hz : XP x y = 1:=by have hq:=h4;unfold XP;rw [if_neg (by omega),if_pos hq]
  refine aU4 ?_
  exact rT rfl rfl (fun w' h'=>⟨by rw [hz];rfl,h'.below⟩)
 have hz : XP x y = 0:=by have hq:=h4;unfold XP;rw [if_neg (by omega),if_neg hq]
 refine aU5 ?_
 exact rT rfl rfl (fun w' h'=>⟨by rw [hz];rfl,h'.below⟩)
theorem c226 (w : World) (a b : List UInt8) : Calls Tryz.prog 226 #[.string (bs a),.string (bs b)] w fun en w'=>en = .returned (.int .i64 (Qbf a b)) ∧ Below w.heap.size w w':=by
 refine eN2 Tryz.func226 Tryz.ntmps226 ?_
 refine aU8 ?_
 refine o_q (Qem rfl rfl rfl Qps) rfl ?_
 refine aU2 ?_
 exact rT rfl rfl (fun w' h'=>⟨by rfl,h'.below⟩)
theorem c184 (w : World) (a b : List UInt8) : Calls Tryz.prog 184 #[.string (bs a),.string (bs b)] w fun en w'=>en = .returned (.int .i64 (Qbf a b)) ∧ Below w.heap.size w w':=by
 refine eN2 Tryz.func184 Tryz.ntmps184 ?_
 refine aU8 ?_
 refine oCq rfl (fun w1 h1=>c226 w1 _ _) ?_
 refine aU2 ?_
 exact rT rfl rfl (fun w' h'=>⟨by rfl,h'.below⟩)
instance : TFn Tryz.prog 227:=⟨by kernel_rfl⟩
instance : TFn Tryz.prog 228:=⟨by kernel_rfl⟩
instance : TFn Tryz.prog 189:=⟨by kernel_rfl⟩
def QaK (s : List UInt8) (q : Nat) : Bool:=(List.range q).all fun i=>Qen s (4 * i)
theorem Qmp {s : List UInt8} {q k : Nat} (hk : k < q) (h : 2147483647 < at4 s (4 * k)) : QaK s q = false:=by
  unfold QaK;rw [List.all_eq_false];exact ⟨k,List.mem_range.2 hk,by unfold Qen;simp;omega⟩
theorem Qi7 {s : List UInt8} {k : Nat} (h : QaK s k = true) (h2 : ¬ 2147483647 < at4 s (4 * k)) : QaK s (k + 1) = true:=by
  unfold QaK at h ⊢;rw [List.range_succ,List.all_append,h];unfold Qen;simp;omega
def QbG (a b : List UInt8) : Nat → Nat → Int
  | 0,_=>0
  | f + 1,k=>if XP (at4 a (4 * k)) (at4 b (4 * k)) ≠ 0 then XP (at4 a (4 * k)) (at4 b (4 * k)) else QbG a b f (k + 1)
theorem c189 (w : World) (s : List UInt8) (q : Nat) (hm : s.length ≤ 1000000) (hq : q ≤ 1000) : Calls Tryz.prog 189 #[.string (bs s),.int .i64 ((4 * q : Nat) : Int)] w fun en w'=>en = .returned (.bool (decide (s.length = 4 * q) && QaK s q)) ∧ Below w.heap.size w w':=by
 refine eN2 Tryz.func189 Tryz.ntmps189 ?_
 refine aU8 ?_
 refine o_p (Qf rfl rfl Tryz.underlying9) rfl ?_
 refine aU3 ?_
 refine sCd rfl (fun h1=>?_) fun h1=>?_
 ·have hne : ¬ s.length = 4 * q:=by have hq9:=h1;omega
  refine aU4 ?_
  exact rT rfl rfl (fun w' h'=>⟨by simp [Xj,hne],h'.below⟩)
 have heq : s.length = 4 * q:=by have hq9:=h1;omega
 refine aU7 ?_
 refine Qt (α:=Nat) [4,5,10,11,12,13,14,15,16,17,18] (fun k=>[(5,.int .i64 ((4 * k : Nat) : Int))]) (fun _=>_) (fun k=>k ≤ q ∧ QaK s k = true) (fun k=>q - k) 0 ⟨Nat.zero_le _,rfl⟩ aSx (fun w h=>h) (fun k hx=>?_)
 obtain ⟨hk1,hok⟩:=hx
 refine aU7 ?_
 refine sCd rfl (fun h2=>?_) fun h2=>?_
 ·have hk : k < q:=by omega
  refine aU7 ?_
  refine oCq rfl (fun w1 h1=>Qs3 w1 s (4 * k) (by omega) (by omega)) ?_
  refine aU2 ?_
  refine sCd rfl (fun h3=>?_) fun h3=>?_
  ·have hz:=Qmp hk h3
   refine aU4 ?_
   exact rT rfl rfl (fun w' h'=>⟨by simp [Xj,hz],h'.below⟩)
  have hz:=Qi7 hok h3
  refine aT5 ?_
  refine aU2 ?_
  exact QW (k + 1) (by omega) ⟨by omega,hz⟩ (by rw [show (((4 * k : Nat)) : Int) + 4 = ((4 * (k + 1) : Nat) : Int) from by omega];exact aSx) (fun w h=>h)
 obtain rfl : k = q:=by omega
 refine Qo rfl ?_
 refine aU4 ?_
 exact rT rfl rfl (fun w' h'=>⟨by simp [Xj,heq,hok],h'.below⟩)
theorem c190 (w : World) (a b : List UInt8) (q : Nat) (ha : a.length = 4 * q) (hb : b.length = 4 * q) (hq : q ≤ 1000) : Calls Tryz.prog 190 #[.string (bs a),.string (bs b)] w fun en w'=>en = .returned (.int .i64 (QbG a b q 0)) ∧ Below w.heap.size w w':=by
 refine eN2 Tryz.func190 Tryz.ntmps190 ?_
 refine Qaj ?_
 refine Qt (α:=Nat) [4,5,6,7,8,9,10,11,12,13,14,15,16,17,18,19,20,21,22] (fun k=>[(5,.int .i64 ((4 * k : Nat) : Int))]) (fun _=>_) (fun k=>k ≤ q ∧ QbG a b q 0 = QbG a b (q - k) k) (fun k=>q - k) 0 ⟨Nat.zero_le _,rfl⟩ aSx (fun w h=>h) (fun k hx=>?_)
 obtain ⟨hk1,hx2⟩:=hx
 refine aU5 ?_
 refine o_p (Qf rfl rfl Tryz.underlying9) rfl ?_
 refine aU2 ?_
 refine sCd rfl (fun h1=>?_) fun h1=>?_
 ·have hk : k < q:=by omega
  have hst : QbG a b (q - k) k = if XP (at4 a (4 * k)) (at4 b (4 * k)) ≠ 0 then XP (at4 a (4 * k)) (at4 b (4 * k)) else QbG a b (q - (k + 1)) (k + 1):=by rw [show q - k = (q - (k + 1)) + 1 by omega,QbG]
  refine aU7 ?_
  refine oCq rfl (fun w1 h1=>Qs3 w1 a (4 * k) (by omega) (by omega)) ?_
  refine aU2 ?_
  refine oCq rfl (fun w1 h1=>Qs3 w1 b (4 * k) (by omega) (by omega)) ?_
  refine oCq rfl (fun w1 h1=>c228 w1 _ _) ?_
  refine aU7 ?_
  refine sCd rfl (fun h2=>?_) fun h2=>?_
  ·have hq9 : XP (at4 a (4 * k)) (at4 b (4 * k)) ≠ 0:=h2
   rw [hst,if_pos hq9] at hx2
   refine aU5 ?_
   exact rT rfl rfl (fun w' h'=>⟨by rw [hx2];rfl,h'.below⟩)
  have hq9 : ¬ XP (at4 a (4 * k)) (at4 b (4 * k)) ≠ 0:=by have hq8:=h2;simpa using hq8
  rw [hst,if_neg hq9] at hx2
  refine aT5 ?_
  refine aU2 ?_
  exact QW (k + 1) (by omega) ⟨by omega,hx2⟩ (by rw [show (((4 * k : Nat)) : Int) + 4 = ((4 * (k + 1) : Nat) : Int) from by omega];exact aSx) (fun w h=>h)
 obtain rfl : k = q:=by omega
 rw [Nat.sub_self,QbG] at hx2
 refine Qo rfl ?_
 refine aU4 ?_
 exact rT rfl rfl (fun w' h'=>⟨by rw [hx2];rfl,h'.below⟩)
theorem c188 (w : World) (s : List UInt8) (hm : s.length ≤ 1000000) : Calls Tryz.prog 188 #[.string (bs s)] w fun en w'=>en = .returned (.bool (QB 2 s)) ∧ Below w.heap.size w w':=by
 refine eN1 Tryz.func188 Tryz.ntmps188 ?_
 refine aU7 ?_
 refine oCq rfl (fun w1 h1=>c189 w1 s 1 hm (by decide)) ?_
 refine aU2 ?_
 exact rT rfl rfl (fun w' h'=>⟨by simp [Xj,QB,QaK,List.range_succ,List.range_zero],h'.below⟩)
theorem c191 (w : World) (s : List UInt8) (hm : s.length ≤ 1000000) : Calls Tryz.prog 191 #[.string (bs s)] w fun en w'=>en = .returned (.bool (QB 3 s)) ∧ Below w.heap.size w w':=by
 refine eN1 Tryz.func191 Tryz.ntmps191 ?_
 refine aU7 ?_
 refine oCq rfl (fun w1 h1=>c189 w1 s 2 hm (by decide)) ?_
 refine aU2 ?_
 exact rT rfl rfl (fun w' h'=>⟨by simp [Xj,QB,QaK,List.range_succ,List.range_zero],h'.below⟩)
theorem c183 (w : World) (s : List UInt8) : Calls Tryz.prog 183 #[.string (bs s)] w fun en w'=>en = .returned (.bool (QB 0 s)) ∧ Below w.heap.size w w':=by
 refine eN1 Tryz.func183 Tryz.ntmps183 ?_
 refine aU7 ?_
 refine o_p (Qf rfl rfl Tryz.underlying9) rfl ?_
 refine oCq rfl (fun w1 h1=>QpP w1 _ _ _) ?_
 refine aU2 ?_
 exact rT rfl rfl (fun w' h'=>⟨by simp [Xj,QB,Bool.decide_and];first | done | (congr 1 <;> simp <;> omega) | grind,h'.below⟩)
theorem c185 (w : World) (s : List UInt8) : Calls Tryz.prog 185 #[.string (bs s)] w fun en w'=>en = .returned (.bool (QB 1 s)) ∧ Below w.heap.size w w':=by
 refine eN1 Tryz.func185 Tryz.ntmps185 ?_
 refine aU7 ?_
 refine o_p (Qf rfl rfl Tryz.underlying9) rfl ?_
 refine oCq rfl (fun w1 h1=>QpP w1 _ _ _) ?_
 refine aU2 ?_
 exact rT rfl rfl (fun w' h'=>⟨by simp [Xj,QB,Bool.decide_and];first | done | (congr 1 <;> simp <;> omega) | grind,h'.below⟩)
theorem Qpw : QM Tryz.prog 181 = some [.nilFunc,.nilFunc,.nilFunc,.nilFunc,.nilFunc,.nilFunc,.nilFunc,.nilFunc]:=by kernel_rfl
theorem QhJ : Zc Tryz.prog 164 = some [(0,1),(1,1)]:=by kernel_rfl
theorem Qhf : QM Tryz.prog 164 = some [.nilFunc,.nilFunc]:=by kernel_rfl
theorem Qkw : tar Tryz.prog 181 = some (4,164,2):=by kernel_rfl
theorem Qqk : tsz Tryz.prog 181 = some (8,true):=by kernel_rfl
instance : TSz Tryz.prog 181 8 true:=⟨Qqk⟩
instance : TFn Tryz.prog 127:=⟨by kernel_rfl⟩
theorem QoF : tsz Tryz.prog 164 = some (2,true):=by kernel_rfl
theorem QnF : tfd Tryz.prog 164 0 = some (0,103):=by kernel_rfl
theorem Qt2 : tsz Tryz.prog 103 = some (1,false):=by kernel_rfl
def QdE (co : Int) : Nat:=if co = 0 then 183 else if co = 1 then 185 else if co = 2 then 188 else 191
def QdW (co : Int) : Nat:=if co = 0 then 184 else if co = 1 then 186 else 190
def Qar (f : Nat) : Value:=.func (.func f) #[] #[]
def ordV (co : Int) : Value:=.agg #[Qar (QdE co),Qar (QdW co)]
theorem c127 (w : World)  : Calls Tryz.prog 127 #[] w fun en w'=>en = .returned (.agg #[Qar (QdE 0),Qar (QdW 0),Qar (QdE 1),Qar (QdW 1),Qar (QdE 2),Qar (QdW 2),Qar (QdE 3),Qar (QdW 3)]) ∧ Below w.heap.size w w':=by
 refine eN0 Tryz.func127 Tryz.ntmps127 ?_
 refine aU2 ?_
 refine oAl (fun b1 _=>?_) Qpw
 refine aU3 ?_
 refine o_p (QF (cs:=[_,_]) rfl rfl QhJ Qhf rfl) rfl ?_
 refine o_p (QF (cs:=[_,_]) rfl rfl QhJ Qhf rfl) rfl ?_
 refine o_p (QF (cs:=[_,_]) rfl rfl QhJ Qhf rfl) rfl ?_
 refine o_p (QF (cs:=[_,_]) rfl rfl QhJ Qhf rfl) rfl ?_
 refine o_p (Qel (cs:=[_,_,_,_,_,_,_,_]) rfl rfl Qkw Qpw rfl) rfl ?_
 refine aU2 ?_
 exact Qi (rs:=[.cell 0 181]) rfl (.cell rfl Qqk aPk rfl (.nil)) (fun w' h'=>⟨by rfl,h'.below⟩)
theorem QsX (co : Int) : Xl Tryz.prog (QdE co) = true:=by
  unfold QdE;split
  · kernel_rfl
  · split
    · kernel_rfl
    · split <;> kernel_rfl
theorem Qmf (w : World) (j : Nat) (s : List UInt8) (hj : j ≤ 3) (hm : s.length ≤ 1000000) : Calls Tryz.prog (QdE (j : Int)) #[.string (bs s)] w fun en w'=>en = .returned (.bool (QB (j : Int) s)) ∧ Below w.heap.size w w':=by
  match j,hj with
  | 0,_=>exact c183 w s
  | 1,_=>exact c185 w s
  | 2,_=>exact c188 w s hm
  | 3,_=>exact c191 w s hm
theorem QiX (j : Nat) (hj : j ≤ 3) : Value.agg (cut [Qar (QdE 0),Qar (QdW 0),Qar (QdE 1),Qar (QdW 1),Qar (QdE 2),Qar (QdW 2),Qar (QdE 3),Qar (QdW 3)] (j * 2) 2).toArray = ordV (j : Int):=by
  match j,hj with
  | 0,_=>rfl
  | 1,_=>rfl
  | 2,_=>rfl
  | 3,_=>rfl
theorem c126 (w : World) (j : Nat) (s : List UInt8) (hj : j ≤ 3) (hm : s.length ≤ 1000000) : Calls Tryz.prog 126 #[.int .i64 (j : Int),.string (bs s)] w fun en w'=>en = .returned (.int .i64 (Xq (j : Int) s)) ∧ Below w.heap.size w w':=by
 refine eN2 Tryz.func126 Tryz.ntmps126 ?_
 refine aU6 ?_
 refine oCq rfl (fun w1 h1=>c127 w1) ?_
 refine aU ?_
 refine o_p (QfZ rfl rfl rfl Qkw QoF j rfl (by omega)) rfl ?_
 refine Qk (QiX j hj) ?_
 refine o_p (QfM rfl rfl QnF Qt2 rfl) rfl ?_
 refine aU ?_
 refine o_q (Z9 rfl rfl (QsX _) rfl (fun w1 h1=>Qmf w1 j s hj hm)) rfl ?_
 refine oCq rfl (fun w1 h1=>QtL w1 _ _) ?_
 refine aU2 ?_
 exact rT rfl rfl (fun w' h'=>⟨by simp only [Xj,Xq,cond_eq_ite],h'.below⟩)
instance : TFn Tryz.prog 187:=⟨by kernel_rfl⟩
instance : TFn Tryz.prog 184:=⟨by kernel_rfl⟩
theorem bset {L : List UInt8} {k : Nat} {x : UInt8} {v : Value} (h : k < L.length) (hv : v = bv x) : Qd (L.map bv) (k * 1) [v] = (L.set k x).map bv:=by
  subst hv;have h9:=Qjp (vals:=byV) (sz:=1) (fun _=>rfl) L k 0 [bv x] (L.getD k 0) x (by rw [List.getElem?_eq_getElem h,List.getD_eq_getElem?_getD,List.getElem?_eq_getElem h];rfl) rfl (by simp);rw [Nat.add_zero] at h9;have e : ∀ M : List UInt8,M.flatMap byV = M.map bv:=fun M=>Qog bv M;rw [e,e] at h9;exact h9
def Qb9 (s : List UInt8) (k : Nat) : List UInt8:=(s.map Qbj).take k ++ s.drop k
theorem Qbs {s : List UInt8} {k : Nat} (h : k ≤ s.length) : (Qb9 s k).length = s.length:=by simp [Qb9];omega
theorem QiT {s : List UInt8} {k : Nat} (h : k < s.length) : (Qb9 s k).getD k 0 = s.getD k 0:=by
  unfold Qb9;rw [List.getD_eq_getElem?_getD,List.getElem?_append_right (by simp;omega),List.getElem?_drop,List.getD_eq_getElem?_getD];congr 2;simp;omega
theorem QjA {s : List UInt8} {k : Nat} (h : k < s.length) : (Qb9 s k).set k (Qbj (s.getD k 0)) = Qb9 s (k + 1):=by
  unfold Qb9;apply List.ext_getElem?;intro j;simp only [List.getElem?_set,List.getElem?_append,List.getElem?_take,List.getElem?_drop,List.length_append,List.length_take,List.length_map,List.length_drop,List.getElem?_map,List.getD_eq_getElem?_getD];have hk:=List.getElem?_eq_getElem h
  grind
theorem QtW (s : List UInt8) : Qb9 s 0 = s:=by simp [Qb9]
theorem Qoj (s : List UInt8) : Qb9 s s.length = s.map Qbj:=by
  unfold Qb9;rw [List.drop_length,List.append_nil,List.take_of_length_le (by simp)]
theorem QmW {s : List UInt8} {k : Nat} (h : k < s.length) (hc : Qbj (s.getD k 0) = s.getD k 0) : Qb9 s k = Qb9 s (k + 1):=by
  rw [← QjA h,hc];apply List.ext_getElem?;intro j;rw [List.getElem?_set];split
  · rename_i e;subst e;rw [← QiT h,List.getD_eq_getElem?_getD];rw [if_pos (by rw [Qbs (by omega)];exact h),List.getElem?_eq_getElem (by rw [Qbs (by omega)];exact h)];rfl
  · rfl
theorem Qol {x : UInt8} (h : 97 ≤ x.toNat ∧ x.toNat ≤ 122) : Value.int .u8 (IntKind.u8.wrap (IntKind.u8.wrap ((x.toNat : Int) - 97) + 65)) = bv (Qbj x):=by
  have h2:=Qfk x;unfold Qge at h2;rw [if_pos (by omega)] at h2;rw [show (x.toNat : Int) - 97 = ((x.toNat - 97 : Nat) : Int) by omega,Qk1 _ (by omega),show ((x.toNat - 97 : Nat) : Int) + 65 = ((x.toNat - 32 : Nat) : Int) by omega,Qk1 _ (by omega)];unfold bv;exact congrArg (Value.int .u8) (by omega)
theorem QsE {x : UInt8} (h : ¬ (97 ≤ x.toNat ∧ x.toNat ≤ 122)) : Qbj x = x:=by
  have h2:=Qfk x;unfold Qge at h2;rw [if_neg (by omega)] at h2;exact UInt8.toNat_inj.1 (by omega)
theorem c187 (w : World) (s : List UInt8) (hm : s.length ≤ 1000000) : Calls Tryz.prog 187 #[.string (bs s)] w fun en w'=>en = .returned (.string (bs (s.map Qbj))) ∧ Below w.heap.size w w':=by
 refine eN1 Tryz.func187 Tryz.ntmps187 ?_
 refine aU7 ?_
 refine o_h (Z2 rfl rfl Tryz.underlying9 Tryz.underlying139 Tryz.underlying5 rfl (by simp only [maxLen];omega)) rfl (fun ⟨b1,c2⟩ ⟨h3,k4⟩=>?_)
 refine Qaj ?_
 refine Qt (α:=Nat) [4,5,10,11,12,13,14,15,16,17,18,19,20,21,22,23,24,25,26,27] (fun k=>[(10,.int .i64 (k : Int))]) (fun k=>HS w [] [.blk b1 5 c2 ((Qb9 s k).map bv)]) (fun k=>k ≤ s.length) (fun k=>s.length - k) 0 (Nat.zero_le _) aSx (fun w h=>by rw [QtW];exact h.ent aEt) (fun k hk1=>?_)
 refine aU5 ?_
 refine sCd rfl (fun h5=>?_) fun h5=>?_
 ·have hk : k < s.length:=by omega
  have hb9:=(s.getD k 0).toNat_lt
  refine aU6 ?_
  refine o_p (Qc rfl rfl rfl Qw (k) (by omega) (by omega) rfl) rfl ?_
  refine o_q (Xi rfl rfl QdB (fun w h=>by rw [Nat.zero_add];exact h.rd_blk (Mc:=[]) aPk (by rw [Nat.mul_one,ZR (by rw [Qbs hk1];exact hk),QiT hk]) (by simp))) rfl ?_
  refine aU8 ?_
  refine YS 3 17 20 rfl
   (fun hg6 _=>by
    refine aU4 ?_
    exact oJt 3 20)
   (fun hg8 _=>by
    refine aU2 ?_
    exact oJf 3 20) ?_
  refine aU ?_
  refine Qa2 (α:=Unit) [21,22,23,24,25,26] (fun _=>[]) (fun _=>HS w [] [.blk b1 5 c2 ((Qb9 s (k + 1)).map bv)]) (fun _=>True) ?_ ?_
  ·skip
   refine sCd rfl (fun h10=>?_) fun h10=>?_
   ·have hcc : 97 ≤ (s.getD k 0).toNat ∧ (s.getD k 0).toNat ≤ 122:=by have hq:=h10;omega
    refine aU6 ?_
    try (refine Qk (u8add _ _) ?_)
    refine Qk (Qol hcc) ?_
    refine o_p (Qc rfl rfl rfl Qw (k) (by omega) (by omega) rfl) rfl ?_
    refine Qk (show _ = Value.pointer (some ⟨b1,k * 1,none⟩) from by rw [Nat.zero_add]) ?_
    refine QmN (Z6 rfl rfl rfl QdB rfl aPt (by rw [List.length_map,Qbs hk1];omega) rfl) (fun _ _=>?_)
    refine aU ?_
    exact QH () trivial aSx (fun w h=>by have h2:=HS.blk_to (b:=b1) h aPk (bset (L:=Qb9 s k) (x:=Qbj (s.getD k 0)) (by rw [Qbs hk1];exact hk) rfl);rw [QjA hk] at h2;exact h2.ent aEt)
   have hno : Qbj (s.getD k 0) = s.getD k 0:=QsE (by have hq:=h10;omega)
   refine aU ?_
   exact QH () trivial aSx (fun w h=>by rw [← QmW hk hno];exact h.ent aEt)
  intro _ _
  refine aT3 ?_
  refine aU2 ?_
  exact sBk (k + 1)
 obtain rfl : k = s.length:=by omega
 rw [Qoj]
 refine Qo rfl ?_
 refine aU3 ?_
 refine o_q (Yw rfl rfl Tryz.underlying139 Tryz.underlying9 Tryz.underlying5 aPk (by simp [List.length_map]) (QaH _)) rfl ?_
 refine aU2 ?_
 exact rT rfl rfl (fun w' h'=>⟨by simp only [ZK];rfl,h'.below⟩)
theorem c186 (w : World) (a b : List UInt8) (ha : a.length ≤ 1000000) (hb : b.length ≤ 1000000) : Calls Tryz.prog 186 #[.string (bs a),.string (bs b)] w fun en w'=>en = .returned (.int .i64 (Qbf (a.map Qbj) (b.map Qbj))) ∧ Below w.heap.size w w':=by
 refine eN2 Tryz.func186 Tryz.ntmps186 ?_
 refine aU7 ?_
 refine oCq rfl (fun w1 h1=>c187 w1 a ha) ?_
 refine aU ?_
 refine oCq rfl (fun w1 h1=>c187 w1 b hb) ?_
 refine oCq rfl (fun w1 h1=>c184 w1 _ _) ?_
 refine aU2 ?_
 exact rT rfl rfl (fun w' h'=>⟨by rfl,h'.below⟩)
instance : TFn Tryz.prog 126:=⟨by kernel_rfl⟩
theorem QpT : tfd Tryz.prog 164 1 = some (1,162):=by kernel_rfl
theorem QuE : tsz Tryz.prog 162 = some (1,false):=by kernel_rfl
theorem QrE (a b : List UInt8) : QbG a b 1 0 = Xm 2 a b:=by
  simp only [QbG,Xm,Nat.mul_zero];split
  · rfl
  · rename_i h;simp only [ne_eq,Decidable.not_not] at h;rw [h];rfl
theorem Qro (a b : List UInt8) : QbG a b 2 0 = Xm 3 a b:=by
  have e : Xm 3 a b = if XP (at4 a 0) (at4 b 0) ≠ 0 then XP (at4 a 0) (at4 b 0) else XP (at4 a 4) (at4 b 4):=rfl
  rw [e];show (if XP (at4 a 0) (at4 b 0) ≠ 0 then XP (at4 a 0) (at4 b 0) else if XP (at4 a 4) (at4 b 4) ≠ 0 then XP (at4 a 4) (at4 b 4) else 0) = _
  by_cases h : XP (at4 a 0) (at4 b 0) ≠ 0
  · rw [if_pos h,if_pos h]
  · rw [if_neg h,if_neg h];split
    · rfl
    · rename_i h2;simp only [ne_eq,Decidable.not_not] at h2;exact h2.symm
theorem QeC {s : List UInt8} (h : QB 2 s = true) : s.length = 4:=by
  unfold QB at h;simp at h;exact h.1
theorem QeB {s : List UInt8} (h : QB 3 s = true) : s.length = 8:=by
  unfold QB at h;simp at h;exact h.1
theorem QsZ (co : Int) : Xl Tryz.prog (QdW co) = true:=by
  unfold QdW;split
  · kernel_rfl
  · split <;> kernel_rfl
theorem Qne (w : World) (j : Nat) (a b : List UInt8) (hj : j ≤ 3) (hka : QB (j : Int) a = true) (hkb : QB (j : Int) b = true) (ha : a.length ≤ 1000000) (hb : b.length ≤ 1000000) : Calls Tryz.prog (QdW (j : Int)) #[.string (bs a),.string (bs b)] w fun en w'=>en = .returned (.int .i64 (Xm (j : Int) a b)) ∧ Below w.heap.size w w':=by
  match j,hj with
  | 0,_=>exact c184 w a b
  | 1,_=>exact c186 w a b ha hb
  | 2,_=>
    have h:=c190 w a b 1 (QeC hka) (QeC hkb) (by decide);rw [QrE] at h;exact h
  | 3,_=>
    have h:=c190 w a b 2 (QeB hka) (QeB hkb) (by decide);rw [Qro] at h;exact h
theorem keyE_ok {co : Int} {k : List UInt8} (h : Xq co k = 0) : QB co k = true:=by
  unfold Xq at h;split at h
  · assumption
  · cases h
def Qbg (co : Int) (a b : List UInt8) : Int:=if Qp co = 0 then if Xq co a = 0 then Xq co b else Xq co a else Qp co
theorem QcI {co : Int} (h : Qp co = 0) : ∃ j : Nat,co = (j : Int) ∧ j ≤ 3:=by
  unfold Qp at h;split at h
  · exact ⟨co.toNat,by omega,by omega⟩
  · cases h
theorem c58 (w : World) (co : Int) (a b : List UInt8) (ha : a.length ≤ 1000000) (hb : b.length ≤ 1000000) : Calls Tryz.prog 58 #[.int .i64 co,.string (bs a),.string (bs b)] w fun en w'=>en = .returned (.tuple #[.int .i64 (if Qbg co a b = 0 then Xm co a b else 0),.int .i64 (Qbg co a b)]) ∧ Below w.heap.size w w':=by
 refine eN3 Tryz.func58 Tryz.ntmps58 ?_
 refine aU9 ?_
 refine oCq rfl (fun w1 h1=>c124 w1 _) ?_
 refine aU7 ?_
 refine sCd rfl (fun h1=>?_) fun h1=>?_
 ·have h0 : ¬ Qp co = 0:=h1
  have hz : Qbg co a b = Qp co:=by unfold Qbg;rw [if_neg h0]
  refine aU6 ?_
  exact Qi (rs:=[.tmp 6,.tmp 7]) rfl (.tmp rfl (.tmp rfl (.nil))) (fun w' h'=>⟨by rw [hz,if_neg h0];rfl,h'.below⟩)
 have h0 : Qp co = 0:=h1
 obtain ⟨j,rfl,hj⟩:=QcI h0
 have hz : Qbg (j : Int) a b = Xt [.int .i64 (Xq (j : Int) a),.int .i64 (Xq (j : Int) b)]:=by rw [Qg3];unfold Qbg;rw [if_pos h0]
 refine aU6 ?_
 refine oCq rfl (fun w1 h1=>c126 w1 j a hj ha) ?_
 refine aU2 ?_
 refine oCq rfl (fun w1 h1=>c126 w1 j b hj hb) ?_
 refine o_h (Ql (cs:=[_,_]) rfl rfl Y3 Qcj rfl rfl rfl) rfl (fun b2 _=>?_)
 refine oCq rfl (fun w1 h1=>f125 h1 aPk (by rfl) (by rfl) (by decide)) ?_
 refine aU7 ?_
 refine sCd rfl (fun h3=>?_) fun h3=>?_
 ·have h1 : ¬ Xt [.int .i64 (Xq (j : Int) a),.int .i64 (Xq (j : Int) b)] = 0:=h3
  refine aU6 ?_
  exact Qi (rs:=[.tmp 6,.tmp 7]) rfl (.tmp rfl (.tmp rfl (.nil))) (fun w' h'=>⟨by rw [hz,if_neg h1];rfl,h'.below⟩)
 have h1 : Xt [.int .i64 (Xq (j : Int) a),.int .i64 (Xq (j : Int) b)] = 0:=h3
 obtain ⟨hka,hkb⟩ : Xq (j : Int) a = 0 ∧ Xq (j : Int) b = 0:=by rw [Qg3] at h1;split at h1;exact ⟨by assumption,h1⟩;rename_i h9;exact absurd h1 h9
 refine aU3 ?_
 refine oCq rfl (fun w1 h1=>c127 w1) ?_
 refine aU ?_
 refine o_p (QfZ rfl rfl rfl Qkw QoF j rfl (by omega)) rfl ?_
 refine Qk (QiX j hj) ?_
 refine o_p (QfM rfl rfl QpT QuE rfl) rfl ?_
 refine aU2 ?_
 refine o_q (Z9 rfl rfl (QsZ _) rfl (fun w1 h1=>Qne w1 j a b hj (keyE_ok hka) (keyE_ok hkb) ha hb)) rfl ?_
 refine aU3 ?_
 exact Qi (rs:=[.tmp 6,.tmp 7]) rfl (.tmp rfl (.tmp rfl (.nil))) (fun w' h'=>⟨by rw [hz,if_pos h1,h1];rfl,h'.below⟩)
instance : TFd Tryz.prog 27 0 0 9:=⟨by kernel_rfl⟩
theorem Zw : tsz Tryz.prog 9 = some (1,false):=by kernel_rfl
instance : TSz Tryz.prog 9 1 false:=⟨Zw⟩
instance : TFd Tryz.prog 27 1 1 9:=⟨by kernel_rfl⟩
theorem QnN (co : Int) (x : TEnt) : Ending.returned (Value.int .i64 (if Xq co x.key = 0 then cond (decide ((x.val.length : Int) ≤ 64)) 0 8 else Xq co x.key)) = Ending.returned (Value.int .i64 (Zx co x)):=by
  unfold Zx
  by_cases h : Xq co x.key = 0
  · rw [if_pos h,if_pos h]
    by_cases h2 : x.val.length ≤ 64
    · rw [if_pos h2,decide_eq_true (by omega)];rfl
    · rw [if_neg h2,decide_eq_false (by omega)];rfl
  · rw [if_neg h,if_neg h];unfold Xq at h ⊢;split at h
    · exact absurd rfl h
    · rename_i h3;rw [if_neg h3]
theorem Qsq : Xl Tryz.prog 72 = true:=by kernel_rfl
instance : TFn Tryz.prog 72:=⟨Qsq⟩
instance : TFn Tryz.prog 35:=⟨by kernel_rfl⟩
theorem kok0 (s : List UInt8) : QB ((0 : Nat) : Int) s = (decide ((1 : Int) ≤ (s.length : Int)) && decide ((s.length : Int) ≤ 40)):=by
  rw [Bool.eq_iff_iff];simp [QB];omega
theorem kok1 (s : List UInt8) : QB ((1 : Nat) : Int) s = (decide ((1 : Int) ≤ (s.length : Int)) && decide ((s.length : Int) ≤ 32)):=by
  rw [Bool.eq_iff_iff];simp [QB];omega
theorem kok2 (s : List UInt8) : QB ((2 : Nat) : Int) s = (decide ((s.length : Int) = 4) && (decide (0 ≤ at4 s 0) && decide (at4 s 0 ≤ 2147483647))):=by
  have:=QhG s 0;rw [Bool.eq_iff_iff];simp [QB,Qen];omega
theorem kok3 (s : List UInt8) : QB ((3 : Nat) : Int) s = (decide ((s.length : Int) = 8) && (decide (0 ≤ at4 s 0) && decide (at4 s 0 ≤ 2147483647)) && (decide (0 ≤ at4 s 4) && decide (at4 s 4 ≤ 2147483647))):=by
  have:=QhG s 0;have:=QhG s 4;rw [Bool.eq_iff_iff];simp [QB,Qen];omega
theorem c17 (w : World) (j : Nat) (s : List UInt8) (hj : j ≤ 3) (hm : s.length ≤ 1000000) : Calls Tryz.prog 17 #[.int .i64 (j : Int),.string (bs s)] w fun en w'=>en = .returned (.int .i64 (Xq (j : Int) s)) ∧ Below w.heap.size w w':=by
 refine eN2 Tryz.func17 Tryz.ntmps17 ?_
 refine aU7 ?_
 refine o_p (Qf rfl rfl Tryz.underlying9) rfl ?_
 refine oCq rfl (fun w1 h1=>c40 w1 _ _ _) ?_
 refine Qgd ?_
 refine Qa2 (α:=Unit) [5,12,13,14,15,16,17,18,19,20,21,22,23,24,25,26,27,28,29,30,31,32,33,34,35,36,37,38,39] (fun _=>[(5,.bool (QB (j : Int) s))]) (fun _=>HS w [] []) (fun _=>True) ?_ ?_
 ·skip
  refine sCd rfl (fun h1=>?_) fun h1=>?_
  ·obtain rfl : j = 1:=by have hq:=h1;omega
   refine aU2 ?_
   refine o_p (Qf rfl rfl Tryz.underlying9) rfl ?_
   refine oCq rfl (fun w1 h1=>c40 w1 _ _ _) ?_
   refine aU2 ?_
   exact QH () trivial (by rw [kok1];exact aSx) (fun w h=>h.ent aEt)
  have hn1 : ¬ (j : Int) = 1:=h1
  refine aU5 ?_
  refine sCd rfl (fun h2=>?_) fun h2=>?_
  ·obtain rfl : j = 2:=by have hq:=h2;omega
   refine aU2 ?_
   refine o_p (Qf rfl rfl Tryz.underlying9) rfl ?_
   refine aU2 ?_
   refine YS 4 20 24 rfl
    (fun hg3 _=>by
     refine aU3 ?_
     refine oCq rfl (fun w1 h1=>by have h9:=c72 w1 s 0 4 (by omega) (by omega) (by have hq:=hg3;first | omega | (simp at hq;omega));rw [YU] at h9;exact h9) ?_
     refine aU ?_
     refine oCq rfl (fun w1 h1=>c35 w1 _) ?_
     exact oJt 4 24)
    (fun hg5 _=>by
     refine aU3 ?_
     exact oJf 4 24) ?_
   refine aU2 ?_
   exact QH () trivial (by rw [kok2];exact aSx) (fun w h=>h.ent aEt)
  have hn2 : ¬ (j : Int) = 2:=h2
  refine aU5 ?_
  refine sCd rfl (fun h7=>?_) fun h7=>?_
  ·obtain rfl : j = 3:=by have hq:=h7;omega
   refine aU2 ?_
   refine o_p (Qf rfl rfl Tryz.underlying9) rfl ?_
   refine aU2 ?_
   refine YS 4 30 34 rfl
    (fun hg8 _=>by
     refine aU3 ?_
     refine oCq rfl (fun w1 h1=>by have h9:=c72 w1 s 0 4 (by omega) (by omega) (by have hq:=hg8;first | omega | (simp at hq;omega));rw [YU] at h9;exact h9) ?_
     refine aU ?_
     refine oCq rfl (fun w1 h1=>c35 w1 _) ?_
     exact oJt 4 34)
    (fun hg10 _=>by
     refine aU3 ?_
     exact oJf 4 34) ?_
   refine aU ?_
   refine YS 4 35 39 rfl
    (fun hg12 _=>by
     refine aU3 ?_
     refine oCq rfl (fun w1 h1=>by have h9:=c72 w1 s 4 4 (by omega) (by omega) (by have hq:=hg12;first | omega | (simp at hq;omega));rw [YU] at h9;exact h9) ?_
     refine aU ?_
     refine oCq rfl (fun w1 h1=>c35 w1 _) ?_
     exact oJt 4 39)
    (fun hg14 _=>by
     refine aU3 ?_
     exact oJf 4 39) ?_
   refine aU2 ?_
   exact QH () trivial (by rw [kok3];exact aSx) (fun w h=>h.ent aEt)
  have hn3 : ¬ (j : Int) = 3:=h7
  obtain rfl : j = 0:=by omega
  refine aU ?_
  exact QH () trivial (by rw [kok0];exact aSx) (fun w h=>h.ent aEt)
 intro _ _
 refine aU7 ?_
 refine sCd rfl (fun h16=>?_) fun h16=>?_
 ·have hz : Xq (j : Int) s = 3:=by have hq:=h16;unfold Xq;rw [if_neg (by simpa using hq)]
  refine aU4 ?_
  exact rT rfl rfl (fun w' h'=>⟨by rw [hz];rfl,h'.below⟩)
 have hz : Xq (j : Int) s = 0:=by have hq:=h16;unfold Xq;rw [if_pos (by simpa using hq)]
 refine aU5 ?_
 exact rT rfl rfl (fun w' h'=>⟨by rw [hz];rfl,h'.below⟩)
instance : TFn Tryz.prog 17:=⟨by kernel_rfl⟩
theorem c198 (w : World) (j : Nat) (x : TEnt) (hj : j ≤ 3) (hm : x.key.length ≤ 1000000) : Calls Tryz.prog 198 #[.int .i64 (j : Int),.agg #[.string (bs x.key),.string (bs x.val)]] w fun en w'=>en = .returned (.int .i64 (Zx (j : Int) x)) ∧ Below w.heap.size w w':=by
 refine eN2 Tryz.func198 Tryz.ntmps198 ?_
 refine aU2 ?_
 refine oBx fun b1 _=>?_
 refine aU8 ?_
 refine oCq rfl (fun w1 h1=>c17 w1 j x.key hj hm) ?_
 refine aU7 ?_
 refine sCd rfl (fun h2=>?_) fun h2=>?_
 ·have h0 : ¬ Xq (j : Int) x.key = 0:=h2
  have hz : Zx (j : Int) x = Xq (j : Int) x.key:=by have h9:=QnN (j : Int) x;rw [if_neg h0] at h9;injection h9 with h9;injection h9 with _ h9;exact h9.symm
  refine aU5 ?_
  exact rT rfl rfl (fun w' h'=>⟨by rw [hz];rfl,h'.below⟩)
 have h0 : Xq (j : Int) x.key = 0:=h2
 refine aU6 ?_
 refine o_p (Qf rfl rfl Tryz.underlying9) rfl ?_
 refine aU2 ?_
 refine sCd rfl (fun h3=>?_) fun h3=>?_
 ·have hz : Zx (j : Int) x = 8:=by have hq:=h3;unfold Zx;rw [if_pos h0,if_neg (by omega)]
  refine aU4 ?_
  exact rT rfl rfl (fun w' h'=>⟨by rw [hz];rfl,h'.below⟩)
 have hz : Zx (j : Int) x = 0:=by have hq:=h3;unfold Zx;rw [if_pos h0,if_pos (by omega)]
 refine aU5 ?_
 exact rT rfl rfl (fun w' h'=>⟨by rw [hz];rfl,h'.below⟩)
instance : TFn Tryz.prog 133:=⟨by kernel_rfl⟩
instance : TFn Tryz.prog 134:=⟨by kernel_rfl⟩
def mpK (j : Int) (l : List UInt8) : List UInt8:=if j = 1 then l.map Qbj else l
theorem Z7 (j : Int) (l : List UInt8) : (mpK j l).length = l.length:=by unfold mpK;split <;> simp
theorem Qq5 {j : Nat} (h2 : ¬ (j : Int) = 2) (h3 : ¬ (j : Int) = 3) (a b : List UInt8) : Xm (j : Int) a b = Qbf (mpK (j : Int) a) (mpK (j : Int) b):=by
  unfold Xm mpK;rw [if_neg h2,if_neg h3];split <;> rfl
theorem Qng {x y : List UInt8} {k : Nat} (hx : k < x.length) (hy : k < y.length) : Qbf (x.drop k) (y.drop k) = if XP ((x.getD k 0).toNat : Int) ((y.getD k 0).toNat : Int) ≠ 0 then XP ((x.getD k 0).toNat : Int) ((y.getD k 0).toNat : Int) else Qbf (x.drop (k + 1)) (y.drop (k + 1)):=by
  rw [List.drop_eq_getElem_cons hx,List.drop_eq_getElem_cons hy,List.getD_eq_getElem?_getD,List.getD_eq_getElem?_getD,List.getElem?_eq_getElem hx,List.getElem?_eq_getElem hy];simp only [Qbf,Option.getD_some,XP,UInt8.lt_iff_toNat_lt];split
  · rename_i h;rw [if_pos (by omega),if_pos (by omega)]
  · rename_i h;rw [if_neg (show ¬ ((x[k].toNat : Int) < y[k].toNat) by omega)];split
    · rename_i h2;rw [if_pos (by omega),if_pos (by omega)]
    · rename_i h2;rw [if_neg (by omega)]
theorem Qqj {x y : List UInt8} {k : Nat} (hx : k ≤ x.length) (hy : k ≤ y.length) (h : ¬ (k < x.length ∧ k < y.length)) : Qbf (x.drop k) (y.drop k) = XP (x.length : Int) (y.length : Int):=by
  unfold XP;rcases Nat.lt_or_ge k x.length with h1 | h1
  · have e : y.drop k = []:=List.drop_of_length_le (by omega);rw [e,List.drop_eq_getElem_cons h1,if_neg (by omega),if_pos (by omega)];rfl
  · have e : x.drop k = []:=List.drop_of_length_le h1;rw [e];rcases Nat.lt_or_ge k y.length with h2 | h2
    · rw [List.drop_eq_getElem_cons h2,if_pos (by omega)];rfl
    · have e2 : y.drop k = []:=List.drop_of_length_le h2;rw [e2,if_neg (by omega),if_neg (by omega)];rfl
theorem QlL {a : List UInt8} {k : Nat} (h : k < a.length) : (((mpK 1 a).getD k 0).toNat : Int) = Qge ((a.getD k 0).toNat : Int):=by
  unfold mpK;rw [if_pos rfl,Qfk,List.getD_eq_getElem?_getD,List.getElem?_map,List.getElem?_eq_getElem h,List.getD_eq_getElem?_getD,List.getElem?_eq_getElem h];rfl
theorem Qop {j : Int} (hj : ¬ j = 1) (a : List UInt8) : mpK j a = a:=by unfold mpK;rw [if_neg hj]
theorem c65 (w : World) (j : Nat) (a b : List UInt8) (hj : j ≤ 3) (hka : QB (j : Int) a = true) (hkb : QB (j : Int) b = true) (ha : a.length ≤ 1000000) (hb : b.length ≤ 1000000) : Calls Tryz.prog 65 #[.int .i64 (j : Int),.string (bs a),.string (bs b)] w fun en w'=>en = .returned (.int .i64 (Xm (j : Int) a b)) ∧ Below w.heap.size w w':=by
 refine eN3 Tryz.func65 Tryz.ntmps65 ?_
 refine aU15 ?_
 refine sCd rfl (fun h1=>?_) fun h1=>?_
 ·obtain rfl : j = 2:=by have hq:=h1;omega
  have hl1:=QeC hka
  have hl2:=QeC hkb
  have hz : Xm ((2 : Nat) : Int) a b = XP (at4 a 0) (at4 b 0):=rfl
  refine aU3 ?_
  refine oCq rfl (fun w1 h1=>by have h9:=c72 w1 a 0 4 (by omega) (by omega) (by omega);rw [YU] at h9;exact h9) ?_
  refine aU ?_
  refine oCq rfl (fun w1 h1=>by have h9:=c72 w1 b 0 4 (by omega) (by omega) (by omega);rw [YU] at h9;exact h9) ?_
  refine oCq rfl (fun w1 h1=>Qpi w1 _ _) ?_
  refine aU2 ?_
  exact rT rfl rfl (fun w' h'=>⟨by rw [hz];rfl,h'.below⟩)
 have hn2 : ¬ (j : Int) = 2:=h1
 refine aU5 ?_
 refine sCd rfl (fun h2=>?_) fun h2=>?_
 ·obtain rfl : j = 3:=by have hq:=h2;omega
  have hl1:=QeB hka
  have hl2:=QeB hkb
  have hz : Xm ((3 : Nat) : Int) a b = if XP (at4 a 0) (at4 b 0) ≠ 0 then XP (at4 a 0) (at4 b 0) else XP (at4 a 4) (at4 b 4):=rfl
  refine aU4 ?_
  refine oCq rfl (fun w1 h1=>by have h9:=c72 w1 a 0 4 (by omega) (by omega) (by omega);rw [YU] at h9;exact h9) ?_
  refine aU ?_
  refine oCq rfl (fun w1 h1=>by have h9:=c72 w1 b 0 4 (by omega) (by omega) (by omega);rw [YU] at h9;exact h9) ?_
  refine oCq rfl (fun w1 h1=>Qpi w1 _ _) ?_
  refine aU7 ?_
  refine sCd rfl (fun h3=>?_) fun h3=>?_
  ·have hq9 : XP (at4 a 0) (at4 b 0) ≠ 0:=h3
   rw [if_pos hq9] at hz
   refine aU5 ?_
   exact rT rfl rfl (fun w' h'=>⟨by rw [hz];rfl,h'.below⟩)
  have hq9 : ¬ XP (at4 a 0) (at4 b 0) ≠ 0:=by have hq8:=h3;simpa using hq8
  rw [if_neg hq9] at hz
  refine aU4 ?_
  refine oCq rfl (fun w1 h1=>by have h9:=c72 w1 a 4 4 (by omega) (by omega) (by omega);rw [YU] at h9;exact h9) ?_
  refine aU ?_
  refine oCq rfl (fun w1 h1=>by have h9:=c72 w1 b 4 4 (by omega) (by omega) (by omega);rw [YU] at h9;exact h9) ?_
  refine oCq rfl (fun w1 h1=>Qpi w1 _ _) ?_
  refine aU2 ?_
  exact rT rfl rfl (fun w' h'=>⟨by rw [hz];rfl,h'.below⟩)
 have hn3 : ¬ (j : Int) = 3:=h2
 have hmp:=Qq5 hn2 hn3 a b
 refine aU8 ?_
 refine Qt (α:=Nat) [6,8,9,10,11,35,36,37,38,39,40,41,42,43,44,45,46,47,48,49,50,51,52,53,54,55,56,57,58,59,60,61,62,63,64,65,66] (fun k=>[(8,.int .i64 (k : Int))]) (fun _=>_) (fun k=>k ≤ a.length ∧ k ≤ b.length ∧ Qbf (mpK (j : Int) a) (mpK (j : Int) b) = Qbf ((mpK (j : Int) a).drop k) ((mpK (j : Int) b).drop k)) (fun k=>a.length - k) 0 ⟨Nat.zero_le _,Nat.zero_le _,rfl⟩ aSx (fun w h=>h) (fun k hx=>?_)
 obtain ⟨hk1,hk2,hk3⟩:=hx
 refine aU5 ?_
 refine o_p (Qf rfl rfl Tryz.underlying9) rfl ?_
 refine aU2 ?_
 refine YS 5 39 44 rfl
  (fun hg4 _=>by
   refine aU5 ?_
   refine o_p (Qf rfl rfl Tryz.underlying9) rfl ?_
   refine aU2 ?_
   exact oJt 5 44)
  (fun hg6 _=>by
   refine aU4 ?_
   exact oJf 5 44) ?_
 refine aU ?_
 refine sCd rfl (fun h8=>?_) fun h8=>?_
 ·obtain ⟨hka1,hkb1⟩ : k < a.length ∧ k < b.length:=by have hq:=h8;omega
  have hb1:=(a.getD k 0).toNat_lt
  have hb2:=(b.getD k 0).toNat_lt
  have hst:=Qng (x:=mpK (j : Int) a) (y:=mpK (j : Int) b) (k:=k) (by rw [Z7];exact hka1) (by rw [Z7];exact hkb1)
  refine aU4 ?_
  refine QL [] QZ ?_
  refine dP 0 ?_
  refine dP 1 ?_
  refine dV 2 rfl (Q1 rfl rfl rfl Tryz.underlying9 (k) (by omega) (by omega)) ?_
  refine dV 3 rfl (Qm rfl rfl Zf YY) ?_
  try refine dWr ?_
  refine dP 4 ?_
  refine dP 5 ?_
  refine dV 6 rfl (Q1 rfl rfl rfl Tryz.underlying9 (k) (by omega) (by omega)) ?_
  refine dV 7 rfl (Qm rfl rfl Zf YY) ?_
  try refine dWr ?_
  refine dP 8 ?_
  refine dP 9 ?_
  refine dNi ?_
  refine aU6 ?_
  refine Qj (L':=[(0,_),(1,_),(2,_),(8,_),(9,_),(10,_),(12,_),(13,_),(14,_),(20,_),(21,_),(56,_)]) aSx (fun _ h=>h) ?_
  refine Qa2 (α:=Unit) [9,10,57,58,59,60] (fun _=>[(9,.int .i64 (((mpK (j : Int) a).getD k 0).toNat : Int)),(10,.int .i64 (((mpK (j : Int) b).getD k 0).toNat : Int))]) (fun _=>HS w [] []) (fun _=>True) ?_ ?_
  ·skip
   refine sCd rfl (fun h9=>?_) fun h9=>?_
   ·obtain rfl : j = 1:=by have hq:=h9;omega
    refine aU2 ?_
    refine oCq rfl (fun w1 h1=>c134 w1 _ (by omega)) ?_
    refine aU ?_
    refine oCq rfl (fun w1 h1=>c134 w1 _ (by omega)) ?_
    refine aU3 ?_
    exact QH () trivial (by rw [show (((1 : Nat) : Int)) = 1 from rfl,QlL hka1,QlL hkb1];exact aSx) (fun w h=>h.ent aEt)
   have hn1 : ¬ (j : Int) = 1:=h9
   refine aU ?_
   exact QH () trivial (by rw [Qop hn1,Qop hn1];exact aSx) (fun w h=>h.ent aEt)
  intro _ _
  refine aU4 ?_
  refine oCq rfl (fun w1 h1=>Qpi w1 _ _) ?_
  refine aU7 ?_
  refine sCd rfl (fun h10=>?_) fun h10=>?_
  ·have hq9 : XP (((mpK (j : Int) a).getD k 0).toNat : Int) (((mpK (j : Int) b).getD k 0).toNat : Int) ≠ 0:=h10
   have hz:=hmp.trans (hk3.trans (hst.trans (if_pos hq9)))
   refine aU5 ?_
   exact rT rfl rfl (fun w' h'=>⟨by rw [hz];rfl,h'.below⟩)
  have hq9 : ¬ XP (((mpK (j : Int) a).getD k 0).toNat : Int) (((mpK (j : Int) b).getD k 0).toNat : Int) ≠ 0:=by have hq8:=h10;simpa using hq8
  have hz:=hk3.trans (hst.trans (if_neg hq9))
  refine aT5 ?_
  refine aU2 ?_
  exact QW (k + 1) (by omega) ⟨by omega,by omega,hz⟩ aSx (fun w h=>h)
 have hz:=Qqj (x:=mpK (j : Int) a) (y:=mpK (j : Int) b) (k:=k) (by rw [Z7];exact hk1) (by rw [Z7];exact hk2) (by rw [Z7,Z7];have hq:=h8;omega)
 rw [← hk3,← hmp,Z7,Z7] at hz
 refine Qo rfl ?_
 refine aU3 ?_
 refine o_p (Qf rfl rfl Tryz.underlying9) rfl ?_
 refine aU ?_
 refine o_p (Qf rfl rfl Tryz.underlying9) rfl ?_
 refine oCq rfl (fun w1 h1=>Qpi w1 _ _) ?_
 refine aU2 ?_
 exact rT rfl rfl (fun w' h'=>⟨by rw [hz];rfl,h'.below⟩)
theorem YD : QM Tryz.prog 37 = some [.int .i64 0,.int .i64 0,.int .i64 0,.slice none 0 0]:=by kernel_rfl
theorem QiR : Zc Tryz.prog 69 = some [(0,1),(1,1),(2,1)]:=by kernel_rfl
theorem XS : QM Tryz.prog 69 = some [.bool false,.slice none 0 0,.slice none 0 0]:=by kernel_rfl
theorem Yn : tsl Tryz.prog 35 = some (69,3,56):=by kernel_rfl
theorem Qdx : Zc Tryz.prog 37 = some [(0,1),(1,1),(2,1),(3,1)]:=by kernel_rfl
theorem Yz : tsz Tryz.prog 37 = some (4,true):=by kernel_rfl
instance : TSz Tryz.prog 37 4 true:=⟨Yz⟩
instance : TFn Tryz.prog 155:=⟨by kernel_rfl⟩
theorem Q7 : tsl Tryz.prog 67 = some (27,2,32):=by kernel_rfl
theorem YF : tsz Tryz.prog 27 = some (2,true):=by kernel_rfl
instance : TSz Tryz.prog 27 2 true:=⟨YF⟩
theorem Yb : QM Tryz.prog 27 = some [.string (bs []),.string (bs [])]:=by kernel_rfl
instance : TFd Tryz.prog 37 1 1 3:=⟨by kernel_rfl⟩
theorem Za : tsz Tryz.prog 3 = some (1,false):=by kernel_rfl
instance : TSz Tryz.prog 3 1 false:=⟨Za⟩
instance : TFd Tryz.prog 37 2 2 3:=⟨by kernel_rfl⟩
instance : TFd Tryz.prog 37 0 0 3:=⟨by kernel_rfl⟩
instance : TFd Tryz.prog 69 1 1 67:=⟨by kernel_rfl⟩
theorem Qij : tsz Tryz.prog 67 = some (1,false):=by kernel_rfl
instance : TSz Tryz.prog 67 1 false:=⟨Qij⟩
def tbV (co mo rm : Int) (a : Option Addr) (n cap : Nat) : List Value:=[.int .i64 co,.int .i64 mo,.int .i64 rm,.slice a n cap,Qar (QdE co),Qar (QdW co)]
def TbR (w : World) (M : List Nat) (bt : Nat) (co mo rm : Int) (a : Option Addr) (n cap : Nat) : Prop:=∀ k v,(tbV co mo rm a n cap)[k]? = some v → Rd w M bt k v
section
variable {w w' : World} {M M' : List Nat} {As As' : List HA} {bt : Nat} {co mo rm : Int} {a : Option Addr} {n cap : Nat}
end
def Qga (co mo rm : Int) : Tre:=if (if Qp co = 0 then XO mo rm else Qp co) = 0 then ⟨co,mo,rm,[⟨true,[],[]⟩]⟩ else ⟨0,0,0,[]⟩
theorem Q2 {w0 w : World} {M : List Nat} {As : List HA} (et nt : Nat) (h : HS w0 M As w) : HS w0 M (.nodes et nt none 0 [] :: As) w:=by
  have h1 : HS w0 M (.own (.slice none 0 0) nt 3 0 [] :: .star [] :: As) w:=(h.star_nil).own_nil nt 3;exact HS.row_shut (l:=([] : List LNd)) h1 rfl rfl
theorem Qm1 {w0 w : World} {M : List Nat} {As : List HA} {a : Option Addr} {cap nt : Nat} (et : Nat) (h : HS w0 M (.own (.slice a 1 cap) nt 3 1 [.bool true,.slice none 0 0,.slice none 0 0] :: As) w) : HS w0 M (.nodes et nt a cap [⟨true,none,0,[],none,0,[]⟩] :: As) w:=by
  have h1 : HS w0 M (.star ([(⟨true,none,0,[],none,0,[]⟩ : LNd)].map (Qdl et)) :: As) w:=HS.star_close (Bs:=[_]) (HS.star_close (Bs:=[_,_]) ((h.tail.own_nil 3 1).own_nil et 2));have h2 : HS w0 M (.star [] :: .own (.slice a 1 cap) nt 3 1 [.bool true,.slice none 0 0,.slice none 0 0] :: As) w:=h.star_nil
  have h3 : HS w0 M (.own (.slice a 1 cap) nt 3 1 [.bool true,.slice none 0 0,.slice none 0 0] :: .star ([(⟨true,none,0,[],none,0,[]⟩ : LNd)].map (Qdl et)) :: As) w:=
    HS.perm (HS.star_close (Bs:=[_]) (HS.star_close (Bs:=[_,_]) ((h.own_nil 3 1).own_nil et 2))) (List.Perm.swap ..)
  exact HS.row_shut (l:=[(⟨true,none,0,[],none,0,[]⟩ : LNd)]) h3 rfl rfl
theorem c91 (w : World) (co mo rm : Int) : Calls Tryz.prog 91 #[.int .i64 co,.int .i64 mo,.int .i64 rm] w fun en w'=>∃ g : (Option Addr × Nat) × List LNd,en = .returned (.tuple #[.agg #[.int .i64 (Qga co mo rm).co,.int .i64 (Qga co mo rm).mo,.int .i64 (Qga co mo rm).rm,.slice g.1.1 g.2.length g.1.2],.int .i64 (if Qp co = 0 then XO mo rm else Qp co)]) ∧ pln g.2 = (Qga co mo rm).ns ∧ HS w [] [.nodes 27 69 g.1.1 g.1.2 g.2] w':=by
 refine eN3 Tryz.func91 Tryz.ntmps91 ?_
 refine aU2 ?_
 refine oAl (fun b1 _=>?_) YD
 refine aU8 ?_
 refine oCq rfl (fun w1 h1=>c155 w1 _ _ _) ?_
 refine aU7 ?_
 refine sCd rfl (fun h2=>?_) fun h2=>?_
 ·have hz : Qga co mo rm = ⟨0,0,0,[]⟩:=by unfold Qga;rw [if_neg h2]
  refine aU2 ?_
  refine o_p (QF (cs:=[_,_,_,_]) rfl rfl Qdx YD rfl) rfl ?_
  refine aU4 ?_
  exact Qi (rs:=[.cell 6 37,.tmp 7]) rfl (.cell rfl Yz aPk rfl (.tmp rfl (.nil))) (fun w' h'=>⟨((none,0),[]),by rw [hz];rfl,by rw [hz];rfl,(Q2 27 69 h'.nil).ent aEt⟩)
 have hz : Qga co mo rm = ⟨co,mo,rm,[⟨true,[],[]⟩]⟩:=by unfold Qga;rw [if_pos h2]
 refine aU6 ?_
 refine o_p (QF (cs:=[_,_,_]) rfl rfl QiR XS rfl) rfl ?_
 refine o_h (Ql (cs:=[_,_,_]) rfl rfl Yn XS rfl rfl rfl) rfl (fun b3 _=>?_)
 refine o_p (QF (cs:=[_,_,_,_]) rfl rfl Qdx YD rfl) rfl ?_
 refine aU3 ?_
 exact Qi (rs:=[.cell 6 37,.tmp 7]) rfl (.cell rfl Yz aPk rfl (.tmp rfl (.nil))) (fun w' h'=>⟨((some ⟨b3,0,none⟩,1),[⟨true,none,0,[],none,0,[]⟩]),by rw [hz,h2];rfl,by rw [hz];rfl,(Qm1 27 (HS.own_shut (n:=1) (cap:=1) (sz:=3) (h'.ent (Bs:=[.blk b3 69 (1 * 3) [.bool true,.slice none 0 0,.slice none 0 0]]) aEt) rfl (by decide) (by decide))).ent aEt⟩)
instance : TFd Tryz.prog 37 3 3 35:=⟨by kernel_rfl⟩
instance : TSz Tryz.prog 35 1 false:=⟨by kernel_rfl⟩
theorem QN : tsl Tryz.prog 28 = some (3,1,8):=by kernel_rfl
theorem Qbp : QM Tryz.prog 3 = some [.int .i64 0]:=by kernel_rfl
instance : TFd Tryz.prog 69 2 2 28:=⟨by kernel_rfl⟩
theorem Qbl : tsz Tryz.prog 28 = some (1,false):=by kernel_rfl
instance : TSz Tryz.prog 28 1 false:=⟨Qbl⟩
theorem QmL {co : Int} {ns : List Nd} {key : List UInt8} {f i : Nat} (h : ¬ (fnd co (nth ns i).es key = true ∨ (nth ns i).cs.length = 0)) : Y4 co ns key (f + 1) i = (i :: (Y4 co ns key f ((nth ns i).cs.getD (plc co (nth ns i).es key) 0).toNat).1,(Y4 co ns key f ((nth ns i).cs.getD (plc co (nth ns i).es key) 0).toNat).2):=by
  rw [Y4,if_neg h]
theorem QgG {co : Int} {ns : List Nd} {key : List UInt8} {f i : Nat} (h : fnd co (nth ns i).es key = true ∨ (nth ns i).cs.length = 0) : Y4 co ns key (f + 1) i = ([i],plc co (nth ns i).es key,fnd co (nth ns i).es key):=by
  rw [Y4,if_pos h]
instance : TFd Tryz.prog 69 0 0 4:=⟨by kernel_rfl⟩
theorem Qkx : tsz Tryz.prog 4 = some (1,false):=by kernel_rfl
instance : TSz Tryz.prog 4 1 false:=⟨Qkx⟩
abbrev KI : Int → Value:=fun n=>Value.int .i64 n
theorem Yd : tsz Tryz.prog 69 = some (3,true):=by kernel_rfl
instance : TSz Tryz.prog 69 3 true:=⟨Yd⟩
instance : TFn Tryz.prog 128:=⟨by kernel_rfl⟩
theorem QdS : tsl Tryz.prog 102 = some (4,1,1):=by kernel_rfl
theorem c128 (w : World) (ua : Option Addr) (uc : Nat) (u : List Int) (n : Int) (hu : Rw inV 1 w [] ua u) (hum : u.length ≤ 100000) : Calls Tryz.prog 128 #[.slice ua u.length uc,.int .i64 n] w fun en w'=>en = .returned (.int .i64 (ixI (Qc0 u n))) ∧ Below w.heap.size w w':=by
 refine eN2 Tryz.func128 Tryz.ntmps128 ?_
 refine Qes ?_
 refine Qt (α:=Nat) [4,5,8,9,10,11,12,13,14,15,16,17,18] (fun k=>[(8,.int .i64 (k : Int))]) (fun _=>_) (fun k=>k ≤ u.length ∧ ∀ i,i < k → (Qc0 u n).getD i false = false) (fun k=>u.length - k) 0 ⟨Nat.zero_le _,fun i h=>absurd h (Nat.not_lt_zero i)⟩ aSx (fun w h=>h) (fun k hkk=>?_)
 obtain ⟨hk1,hk2⟩:=hkk
 refine aU5 ?_
 refine sCd rfl (fun h1=>?_) fun h1=>?_
 ·have hk : k < u.length:=by omega
  refine Qgd ?_
  refine o_p (Qc rfl rfl rfl QN (k) (by omega) (by omega) (Rw.some hu (by omega))) rfl ?_
  refine o_q (Qe rfl rfl Za ((hu.rdj 0 hk rfl))) rfl ?_
  refine aU2 ?_
  refine sCd rfl (fun h2=>?_) fun h2=>?_
  ·have hq9 : n = u.getD k 0:=h2
   have e:=QfF (l:=Qc0 u n) (k:=k) (by rw [Qbn];omega) hk2 (fun _=>by rw [Qju hk];exact decide_eq_true hq9)
   refine aU5 ?_
   exact rT rfl rfl (fun w' h'=>⟨by simp only [Xj,ixI,e,Qbn];rw [if_pos hk],h'.below⟩)
  have hq9 : ¬ n = u.getD k 0:=h2
  refine aT4 ?_
  refine aU2 ?_
  exact QW (k + 1) (by omega) ⟨by omega,fun i hi=>(Nat.lt_or_ge i k).elim (hk2 i) (fun h=>by obtain rfl : i = k:=(by omega);rw [Qju hk];exact decide_eq_false hq9)⟩ aSx (fun w h=>h)
 obtain rfl : k = u.length:=by omega
 refine Qo rfl ?_
 refine aU4 ?_
 exact rT rfl rfl (fun w' h'=>⟨by have e:=QfF (l:=Qc0 u n) (k:=u.length) (by rw [Qbn];omega) hk2 (fun h=>by rw [Qbn] at h;omega);simp only [Xj,ixI,e,Qbn];rw [if_neg (by omega)],h'.below⟩)
theorem c62 (w : World) (ua : Option Addr) (uc : Nat) (u : List Int) (n : Int) (hu : Rw inV 1 w [] ua u) (hum : u.length ≤ 100000) : Calls Tryz.prog 62 #[.slice ua u.length uc,.int .i64 n] w fun en w'=>en = .returned (.bool (decide (n ∈ u))) ∧ Below w.heap.size w w':=by
 refine eN2 Tryz.func62 Tryz.ntmps62 ?_
 refine aU8 ?_
 refine oCq rfl (fun w1 h1=>c128 w1 ua uc u n (hu.later h1) hum) ?_
 refine aU3 ?_
 exact rT rfl rfl (fun w' h'=>⟨by rw [← Qoz,← QkN];rfl,h'.below⟩)
def WkC (S : Type) (I : S → Prop) (C : S → HA) (st : S → Vis → S) (er : S → Vis → Int × Int) (q : Nat) (cv : Array Value) (bt : Nat) (j : Nat) (mo rm : Int) (a : Option Addr) (cap : Nat) (L : List LNd) (f : Nat) : Prop:=∀ (w : World) (s : S) (v : Vis) (pl ph : Option Addr) (P : List Nat),(HS w (fps [C s]) [C s] w) → (Xl Tryz.prog q = true) → (∀ s1 s2 : S,(C s1).fp = (C s2).fp) → (∀ s2 v2,I s2 → I (st s2 v2)) → (I s) → (∀ (s2 : S) (v2 : Vis) (p2 p3 : Option Addr) (w1 : World),HS w (fps [C s]) [C s2] w1 → I s2 → v2.i < L.length → KOk (j : Int) v2.lo → KOk (j : Int) v2.hi → Qry w1 (fps [C s2]) p2 v2.lo → Qry w1 (fps [C s2]) p3 v2.hi → Calls Tryz.prog q (#[] ++ [.int .i64 (v2.i : Int),.int .i64 v2.d,.pointer p2,.pointer p3].toArray ++ cv) w1 fun en w2=>∃ g : Unit,en = .returned (.tuple #[.int .i64 (er s2 v2).1,.int .i64 (er s2 v2).2]) ∧ True ∧ HS w1 (fps [C s2]) [C (st s2 v2)] w2) → (TbR w (fps [C s]) bt (j : Int) mo rm a L.length cap) → (Nt w (fps [C s]) a L) → (TOk (j : Int) (pln L)) → (Bd (pln L)) → (Qry w (fps [C s]) pl v.lo) → (Qry w (fps [C s]) ph v.hi) → (0 < L.length) → (Gx.Way (pln L) (v.i :: P)) → (P.length + f = L.length) → (v.d = (P.length : Int) + 1) → (KOk (j : Int) v.lo) → (KOk (j : Int) v.hi) → Calls Tryz.prog 235 #[.pointer (some ⟨bt,0,none⟩),.int .i64 (v.i : Int),.int .i64 v.d,.pointer pl,.pointer ph,.func (.func q) #[] cv] w fun en w'=>∃ g : Unit,en = .returned (.tuple #[.int .i64 (Qre st er s (vis (pln L) f v)).1.1,.int .i64 (Qre st er s (vis (pln L) f v)).1.2]) ∧ True ∧ HS w (fps [C s]) [C (Qre st er s (vis (pln L) f v)).2] w'
instance : TFn Tryz.prog 62:=⟨by kernel_rfl⟩
theorem zr_4 : QM Tryz.prog 4 = some [.bool false]:=by kernel_rfl
theorem Qc3 : Xl Tryz.prog 65 = true:=by kernel_rfl
theorem c15 (w : World) (a b : Option Addr) (c d : Nat) (l m : List Int) (hs : Rw inV 1 w [] a l) (ht : Rw inV 1 w [] b m) (hl : l.length ≤ 100000) (hm : m.length ≤ 100000) : Calls Tryz.prog 15 #[.slice a l.length c,.slice b m.length d] w fun en w'=>en = .returned (.bool (decide (l = m))) ∧ Below w.heap.size w w':=by
 refine eN2 Tryz.func15 Tryz.ntmps15 ?_
 refine Qgd ?_
 refine sCd rfl (fun h1=>?_) fun h1=>?_
 ·have hn9 : l ≠ m:=fun e=>by have hq:=h1;rw [e] at hq;simp at hq
  refine aU4 ?_
  exact rT rfl rfl (fun w' h'=>⟨by rw [decide_eq_false hn9];rfl,h'.below⟩)
 have hlm : l.length = m.length:=by have hq:=h1;omega
 refine aU7 ?_
 refine Qt (α:=Nat) [4,5,11,12,13,14,15,16,17,18,19,20,21,22,23,24,25] (fun k=>[(5,.int .i64 (k : Int))]) (fun _=>HS w [] []) (fun k=>k ≤ l.length ∧ ∀ j,j < k → nth l j = nth m j) (fun k=>l.length - k) 0 ⟨Nat.zero_le _,fun j h=>absurd h (Nat.not_lt_zero j)⟩ aSx (fun w h=>h.ent aEt) (fun k hx=>?_)
 obtain ⟨hk1,hk3⟩:=hx
 refine aU8 ?_
 refine sCd rfl (fun h2=>?_) fun h2=>?_
 ·have hk : k < l.length:=by omega
  have hk2 : k < m.length:=by omega
  refine aU4 ?_
  refine QL [] QZ ?_
  refine dP 0 ?_
  refine dP 1 ?_
  refine dV 2 rfl (Qc rfl rfl rfl QN (k) (by omega) (by omega) (Rw.some hs (by omega))) ?_
  refine dQ 3 [] rfl (Qe rfl rfl Za ((hs.rdj 0 (by omega) rfl))) ?_
  refine dP 4 ?_
  refine dP 5 ?_
  refine dV 6 rfl (Qc rfl rfl rfl QN (k) (by omega) (by omega) (Rw.some ht (by omega))) ?_
  refine dQ 7 [] rfl (Qe rfl rfl Za ((ht.rdj 0 (by omega) rfl))) ?_
  refine dP 8 ?_
  refine dNi ?_
  refine sCd rfl (fun h3=>?_) fun h3=>?_
  ·have hn9 : l ≠ m:=fun e=>by have hq:=h3;rw [e] at hq;simp at hq
   refine aU4 ?_
   exact rT rfl rfl (fun w' h'=>⟨by rw [decide_eq_false hn9];rfl,h'.below⟩)
  have he9 : nth l k = nth m k:=by have hq:=h3;exact hq
  refine aT5 ?_
  refine aU2 ?_
  exact sBk (k + 1) (by omega) ⟨by omega,fun j hj=>(Nat.lt_or_ge j k).elim (hk3 j) (fun h9=>by obtain rfl : j = k:=(by omega);exact he9)⟩
 have hl9 : l = m:=QhT hlm fun j hj=>hk3 j (by omega)
 refine Qo rfl ?_
 refine aU4 ?_
 exact rT rfl rfl (fun w' h'=>⟨by rw [decide_eq_true hl9];rfl,h'.below⟩)
theorem c73 (w : World) (j : Nat) (mo rm : Int) (a : Option Addr) (cap : Nat) (L : List LNd) (i : Nat) (key : List UInt8) (hj : j ≤ 3) (hi : i < L.length) (hs : Nt w [] a L) (hl : L.length ≤ 1000) (hel : (nth L i).es.length ≤ 1000) (hK : ∀ y ∈ (nth L i).es,QB (j : Int) y.key = true ∧ y.key.length ≤ 1000000) (hk : QB (j : Int) key = true) (hkl : key.length ≤ 1000000) : Calls Tryz.prog 73 #[.agg #[.int .i64 (j : Int),.int .i64 mo,.int .i64 rm,.slice a L.length cap],.int .i64 (i : Int),.string (bs key)] w fun en w'=>en = .returned (.tuple #[.int .i64 ((plc (j : Int) (nth L i).es key) : Int),.bool (fnd (j : Int) (nth L i).es key)]) ∧ Below w.heap.size w w':=by
 refine eN3 Tryz.func73 Tryz.ntmps73 ?_
 refine aU2 ?_
 refine oBx fun b1 _=>?_
 refine aU8 ?_
 refine o_p (Qc rfl rfl rfl Yn (i) (by omega) (by omega) (Rw.some hs.1 (by omega))) rfl ?_
 refine aU ?_
 refine o_q (Qe rfl rfl Qij ((hs.1.rdj 1 hi rfl))) rfl ?_
 refine aU8 ?_
 refine Qt (α:=Nat) [9,16,17,18,19,20,21,22,23,24,25,26,27,28,29,30,31,32,33] (fun k=>[(9,.int .i64 (k : Int))]) (fun _=>HS w [] [.blk b1 37 4 [.int .i64 (j : Int),.int .i64 mo,.int .i64 rm,.slice a L.length cap]]) (fun k=>k ≤ (nth L i).es.length ∧ ∀ q,q < k → Xm (j : Int) (nth (nth L i).es q).key key < 0) (fun k=>(nth L i).es.length - k) 0 ⟨Nat.zero_le _,fun j h=>absurd h (Nat.not_lt_zero j)⟩ aSx (fun w h=>h.ent aEt) (fun k hx=>?_)
 obtain ⟨hk1,hk3⟩:=hx
 refine aU2 ?_
 refine Qa2 (α:=Bool) [16,17,18,19,20,21,22,23,24,25,26,27,28,29,30,31] (fun x=>[(31,.bool x)]) (fun _=>HS w [] [.blk b1 37 4 [.int .i64 (j : Int),.int .i64 mo,.int .i64 rm,.slice a L.length cap]]) (fun x=>x = true ↔ (k < (nth L i).es.length ∧ Xm (j : Int) (nth (nth L i).es k).key key < 0)) ?_ ?_
 ·skip
  refine QL [] QZ ?_
  refine dP 0 ?_
  refine dP 1 ?_
  refine dV 2 rfl (Xk rfl rfl Tryz.underlying67) ?_
  refine dP 3 ?_
  refine dP 4 ?_
  apply Yc 20
  ·exact rfl
  ·intro hg2
   have hs3:=hg2;try simp only [dT] at hs3
   refine dFo 5 20 hg2 ?_
   refine dQo 6 20 [] hg2 rfl rfl rfl (YA rfl rfl Za aPk rfl) ?_
   refine dPo 7 20 hg2 ?_
   refine dPo 8 20 hg2 ?_
   refine dVo 9 20 hg2 rfl rfl rfl (Qc rfl rfl rfl Q7 (k) (by omega) (by omega) (Rw.some (hs.es hi) (by omega))) ?_
   refine dFo 10 20 hg2 ?_
   refine dQo 11 20 [] hg2 rfl rfl rfl (Qe rfl rfl Zw (((hs.es hi).rdj 0 (by omega) rfl))) ?_
   refine dPo 12 20 hg2 ?_
   refine dQo 13 20 [] hg2 rfl rfl rfl (QE rfl Qc3 rfl (fun w1 h1=>c65 w1 j (nth (nth L i).es k).key key hj (hK _ (QC (by omega))).1 hk (hK _ (QC (by omega))).2 hkl)) ?_
   refine dPo 14 20 hg2 ?_
   refine dV 15 rfl (X2 rfl rfl hg2 rfl) ?_
   refine dNi ?_
   exact QH (decide (Xm (j : Int) (nth (nth L i).es k).key key < 0)) (by rw [decide_eq_true_eq];omega) aSx (fun w h=>h.ent aEt)
  intro hg4
  have hs5:=hg4;try simp only [dN] at hs5
  refine dOf 5 20 hg4 ?_
  refine dOf 6 20 hg4 ?_
  refine dOf 7 20 hg4 ?_
  refine dOf 8 20 hg4 ?_
  refine dOf 9 20 hg4 ?_
  refine dOf 10 20 hg4 ?_
  refine dOf 11 20 hg4 ?_
  refine dOf 12 20 hg4 ?_
  refine dOf 13 20 hg4 ?_
  refine dOf 14 20 hg4 ?_
  refine dV 15 rfl (XM rfl rfl hg4 rfl) ?_
  refine dNi ?_
  exact QH false (by constructor <;> intro h9 <;> first | (cases h9;done) | omega) aSx (fun w h=>h.ent aEt)
 intro x hx
 refine sCd rfl (fun h6=>?_) fun h6=>?_
 ·obtain ⟨hk5,hk6⟩:=hx.1 (by assumption)
  refine aT5 ?_
  refine aU3 ?_
  exact sBk (k + 1) (by omega) ⟨by omega,fun q hq=>(Nat.lt_or_ge q k).elim (hk3 q) (fun h9=>by obtain rfl : q = k:=(by omega);exact hk6)⟩
 have hno : ¬ (k < (nth L i).es.length ∧ Xm (j : Int) (nth (nth L i).es k).key key < 0):=fun h9=>by have h8:=hx.2 h9;simp_all
 have hpk : (plc (j : Int) (nth L i).es key) = k:=QnQ hk1 hk3 hno
 refine Qo rfl ?_
 refine aU ?_
 refine QL [] QZ ?_
 refine dP 0 ?_
 refine dP 1 ?_
 refine dP 2 ?_
 refine dV 3 rfl (Xk rfl rfl Tryz.underlying67) ?_
 refine dP 4 ?_
 refine dP 5 ?_
 apply Yc 39
 ·exact rfl
 ·intro hg7
  have hs8:=hg7;try simp only [dT] at hs8
  refine dFo 6 39 hg7 ?_
  refine dQo 7 39 [] hg7 rfl rfl rfl (YA rfl rfl Za aPk rfl) ?_
  refine dPo 8 39 hg7 ?_
  refine dPo 9 39 hg7 ?_
  refine dVo 10 39 hg7 rfl rfl rfl (Qc rfl rfl rfl Q7 (k) (by omega) (by omega) (Rw.some (hs.es hi) (by omega))) ?_
  refine dFo 11 39 hg7 ?_
  refine dQo 12 39 [] hg7 rfl rfl rfl (Qe rfl rfl Zw (((hs.es hi).rdj 0 (by omega) rfl))) ?_
  refine dPo 13 39 hg7 ?_
  refine dQo 14 39 [] hg7 rfl rfl rfl (QE rfl Qc3 rfl (fun w1 h1=>c65 w1 j (nth (nth L i).es k).key key hj (hK _ (QC (by omega))).1 hk (hK _ (QC (by omega))).2 hkl)) ?_
  refine dPo 15 39 hg7 ?_
  refine dV 16 rfl (X2 rfl rfl hg7 rfl) ?_
  refine dP 17 ?_
  refine dP 18 ?_
  refine dNi ?_
  exact Qi (rs:=[.tmp 6,.tmp 7]) rfl (.tmp rfl (.tmp rfl (.nil))) (fun w' h'=>⟨by simp only [Xj,fnd];rw [hpk];first | (rw [decide_eq_true (show k < (nth L i).es.length by omega)];rfl) | (rw [decide_eq_false (show ¬ k < (nth L i).es.length by omega)];rfl),h'.below⟩)
 intro hg9
 have hs10:=hg9;try simp only [dN] at hs10
 refine dOf 6 39 hg9 ?_
 refine dOf 7 39 hg9 ?_
 refine dOf 8 39 hg9 ?_
 refine dOf 9 39 hg9 ?_
 refine dOf 10 39 hg9 ?_
 refine dOf 11 39 hg9 ?_
 refine dOf 12 39 hg9 ?_
 refine dOf 13 39 hg9 ?_
 refine dOf 14 39 hg9 ?_
 refine dOf 15 39 hg9 ?_
 refine dV 16 rfl (XM rfl rfl hg9 rfl) ?_
 refine dP 17 ?_
 refine dP 18 ?_
 refine dNi ?_
 exact Qi (rs:=[.tmp 6,.tmp 7]) rfl (.tmp rfl (.tmp rfl (.nil))) (fun w' h'=>⟨by simp only [Xj,fnd];rw [hpk];first | (rw [decide_eq_true (show k < (nth L i).es.length by omega)];rfl) | (rw [decide_eq_false (show ¬ k < (nth L i).es.length by omega)];rfl),h'.below⟩)
instance : TFn Tryz.prog 73:=⟨by kernel_rfl⟩
theorem c18 (w : World) (j : Nat) (mo rm : Int) (a : Option Addr) (cap : Nat) (L : List LNd) (key : List UInt8) (hj : j ≤ 3) (h0 : 0 < L.length) (hB : Bd (pln L)) (hT : TOk (j : Int) (pln L)) (hs : Nt w [] a L) (hk : QB (j : Int) key = true) (hkl : key.length ≤ 1000000) : Calls Tryz.prog 18 #[.agg #[.int .i64 (j : Int),.int .i64 mo,.int .i64 rm,.slice a L.length cap],.string (bs key)] w fun en w'=>∃ g : Option Addr × Nat,en = .returned (.tuple #[.slice g.1 (Qv (j : Int) (pln L) key).1.length g.2,.bool (Qv (j : Int) (pln L) key).2.2]) ∧ True ∧ HS w [] [.own (.slice g.1 ((Qv (j : Int) (pln L) key).1).length g.2) 3 1 ((Qv (j : Int) (pln L) key).1).length (((Qv (j : Int) (pln L) key).1).map fun i : Nat=>Value.int .i64 (i : Int))] w':=by
 have hK : ∀ i,i < L.length → ∀ y ∈ (nth L i).es,QB (j : Int) y.key = true ∧ y.key.length ≤ 1000000:=fun i hi y hy=>Qq7 hT i (by rw [Qr];exact hi) y (by rw [Yx hi];exact hy)
 refine eN2 Tryz.func18 Tryz.ntmps18 ?_
 refine aU2 ?_
 refine oBx fun b1 _=>?_
 refine aU9 ?_
 refine o_h (Ql (cs:=[_]) rfl rfl QN Qbp rfl rfl rfl) rfl (fun b2 _=>?_)
 refine aU3 ?_
 refine Qt (α:=(Option Addr × Nat) × List Nat × Nat × Nat) [4,5,6,7,8,9,11,12,13,14,15,16,17,18,19,20,21,22,23,24,25,26,27,28,29,30,31,32,33,34,35,36,37,38,39,40,41,42,43] (fun x=>[(7,.slice x.1.1 (x.2.1 ++ [x.2.2.1]).length x.1.2),(6,.int .i64 (x.2.2.1 : Int))]) (fun x=>HS w [] [.own (.slice x.1.1 (x.2.1 ++ [x.2.2.1]).length x.1.2) 3 1 (x.2.1 ++ [x.2.2.1]).length ((x.2.1 ++ [x.2.2.1]).map fun i : Nat=>Value.int .i64 (i : Int)),.blk b1 37 4 [.int .i64 (j : Int),.int .i64 mo,.int .i64 rm,.slice a L.length cap]]) (fun x=>x.2.2.1 < L.length ∧ x.2.1.length + x.2.2.2 = L.length ∧ Gx.Way (pln L) (x.2.2.1 :: x.2.1.reverse) ∧ (Qv (j : Int) (pln L) key) = (x.2.1 ++ (Y4 (j : Int) (pln L) key x.2.2.2 x.2.2.1).1,(Y4 (j : Int) (pln L) key x.2.2.2 x.2.2.1).2)) (fun x=>x.2.2.2) ((some ⟨b2,0,none⟩,1),[],0,L.length) ⟨h0,by simp,rfl,by rw [Qv,Qr];rfl⟩ aSx (fun w h=>(HS.own_shut (t:=3) (sz:=1) (n:=1) (cap:=1) (h.pick (A:=.blk b2 3 (1 * 1) [.int .i64 0]) aPk) rfl (by decide) (by decide)).ent aEt) (fun ⟨⟨ga,gc⟩,P,i,f⟩ hx=>?_)
 dsimp only
 obtain ⟨hi,hlen,hway,hpath⟩:=hx
 simp only [] at hi hlen hway hpath
 have hwl:=ZY hT (by rw [Qr];exact h0) hway
 simp only [List.length_cons,List.length_reverse,Qr] at hwl
 obtain ⟨f,rfl⟩ : ∃ f9,f = f9 + 1:=⟨f - 1,by omega⟩
 have hni:=Yx hi
 have hle:=hB.len
 rw [Qr] at hle
 have hes9:=hB.es i (by rw [Qr];exact hi)
 have hcs9:=hB.cs i (by rw [Qr];exact hi)
 rw [hni] at hes9 hcs9
 have hPl : (P ++ [i]).length = P.length + 1:=by simp
 refine aU6 ?_
 refine oCq rfl (fun w1 h1=>c73 w1 j mo rm a cap L i key hj hi (hs.later h1.nil) (by omega) hes9 (hK i hi) hk hkl) ?_
 refine Qfe ?_
 refine oOr 9 19 28 rfl
  (fun hg3 _=>by
   refine aU7 ?_
   refine o_p (Qc rfl rfl rfl Yn (i) (by omega) (by omega) (Rw.some hs.1 (by omega))) rfl ?_
   refine aU3 ?_
   refine o_q (Qe rfl rfl Qbl ((hs.1.rdj 2 hi rfl))) rfl ?_
   refine aU4 ?_
   exact oJf 9 28)
  (fun hg5 _=>by
   refine aU8 ?_
   exact oJt 9 28) ?_
 refine aU ?_
 refine sCd rfl (fun h7=>?_) fun h7=>?_
 ·have hst : fnd (j : Int) (nth (pln L) i).es key = true ∨ (nth (pln L) i).cs.length = 0:=by rw [hni];have hq:=h7;first | exact hq | (simp at hq;simpa [LNd.pl] using hq)
  refine aU7 ?_
  exact Qi (rs:=[.tmp 4,.tmp 5]) rfl (.tmp rfl (.tmp rfl (.nil))) (fun w' h'=>⟨(ga,gc),by rw [hpath,QgG hst,hni];rfl,trivial,by rw [hpath,QgG hst];exact h'.ent aEt⟩)
 have hst : ¬ (fnd (j : Int) (nth (pln L) i).es key = true ∨ (nth (pln L) i).cs.length = 0):=by rw [hni];have hq:=h7;first | exact hq | (simp at hq;simpa [LNd.pl] using hq)
 have hcl : (nth L i).cs.length = (nth L i).es.length + 1:=by rcases hT.shape i (by rw [Qr];exact hi) with h9 | h9;exact absurd (.inr h9) hst;rw [hni] at h9;exact h9
 have hple:=Qd6 (j : Int) key (nth L i).es
 have hpk : plc (j : Int) (nth L i).es key < (nth L i).cs.length:=by omega
 have hkid:=QdG hT (by rw [Qr];exact hi) (i:=i) (k:=plc (j : Int) (nth L i).es key) (by rw [hni];exact hpk)
 rw [hni,Qr] at hkid
 simp only [LNd.pl] at hkid
 have hway2:=Qb3 hway (by rw [Qr];exact hi) (k:=plc (j : Int) (nth L i).es key) (by rw [hni];exact hpk) (by rw [hni];simp only [LNd.pl];omega)
 rw [hni] at hway2
 simp only [LNd.pl] at hway2
 refine aU6 ?_
 refine o_p (Qc rfl rfl rfl Yn (i) (by omega) (by omega) (Rw.some hs.1 (by omega))) rfl ?_
 refine aU ?_
 refine o_q (Qe rfl rfl Qbl ((hs.1.rdj 2 hi rfl))) rfl ?_
 refine aU ?_
 refine o_p (Qc rfl rfl rfl QN (plc (j : Int) (nth L i).es key) (by omega) (by omega) (Rw.some (hs.cs hi) (by omega))) rfl ?_
 refine o_q (Qe rfl rfl Za (((hs.cs hi).rdj 0 (i:=plc (j : Int) (nth L i).es key) hpk rfl))) rfl ?_
 refine aU5 ?_
 refine o_h (Ql (cs:=[_]) rfl rfl QN Qbp rfl rfl rfl) rfl (fun b8 _=>?_)
 refine o_h (Xx [_] rfl rfl rfl QN Tryz.underlying28 Qbp rfl aPk (Xe aPk) rfl (by intro u hu;simp only [List.mem_cons,List.mem_nil_iff,or_false] at hu;subst hu;rfl) (by omega) (by simp only [maxLen];omega)) rfl (fun b9 _=>?_)
 refine aU3 ?_
 exact QW ((b9.1,b9.2),P ++ [i],((nth L i).cs.getD (plc (j : Int) (nth L i).es key) 0).toNat,f) (by (try simp only []);omega) ⟨by simp only [];omega,by simp only [List.length_append,List.length_singleton];omega,by simp only [List.reverse_append,List.reverse_singleton,List.singleton_append];exact hway2,by simp only [];rw [hpath,QmL hst];simp [hni,LNd.pl]⟩ (by simp only [List.length_append (bs:=[((nth L i).cs.getD (plc (j : Int) (nth L i).es key) 0).toNat]),List.length_singleton];rw [Int.toNat_of_nonneg (by omega)];exact aSx) (fun w h=>by have h2:=h;simp only [List.length_append (bs:=[((nth L i).cs.getD (plc (j : Int) (nth L i).es key) 0).toNat]),List.length_singleton,List.map_append (l₂:=[((nth L i).cs.getD (plc (j : Int) (nth L i).es key) 0).toNat]),List.map_cons,List.map_nil];rw [Int.toNat_of_nonneg (by omega)];exact h2.ent aEt)
theorem Quo : Qj7 Tryz.prog 27 = some [1,1]:=by kernel_rfl
instance : TFn Tryz.prog 15:=⟨by kernel_rfl⟩
end Go.Proofs
namespace Gx
open Go Go.RowKit Go.Proofs
section
variable {w0 w : World} {M : List Nat} {As As' : List HA}
end
abbrev siz0 (co mo rm : Int) : Int:=if Qp co = 0 then XO mo rm else Qp co
abbrev cE1 (co : Int) (a : List UInt8) : Int:=if Qp co = 0 then Xq co a else Qp co
end Gx
namespace Gx
open Go Go.RowKit
def QY (n : Nat) (S : List Int) : List Value:=(List.range n).map fun k=>Value.bool (decide (((k : Nat) : Int) ∈ S))
theorem Qat (n : Nat) (S : List Int) : (QY n S).length = n:=by simp [QY]
theorem Qan {n k : Nat} {S : List Int} (h : k < n) : (QY n S)[k]? = some (.bool (decide (((k : Nat) : Int) ∈ S))):=by
 unfold QY;rw [List.getElem?_map,List.getElem?_range h];rfl
theorem QiO {n k : Nat} {S : List Int} (h : k < n) : Qd (QY n S) k [.bool true] = QY n (((k : Nat) : Int) :: S):=by
 apply List.ext_getElem?;intro i;show ((QY n S).set k (.bool true))[i]? = _;rw [List.getElem?_set]
 by_cases hi : i < n
 ·rw [Qan hi]
  by_cases e : k = i
  ·subst e;rw [if_pos rfl,if_pos (by rw [Qat];exact h),Qan h,decide_eq_true (List.mem_cons_self ..)]
  ·rw [if_neg e,Qan hi];congr 2;have hne : ((i : Nat) : Int) ≠ ((k : Nat) : Int):=by omega
   simp [List.mem_cons,hne]
 ·rw [if_neg (by omega),List.getElem?_eq_none (by rw [Qat];omega),List.getElem?_eq_none (by rw [Qat];omega)]
theorem QpQ {n : Nat} {c : Int} {S : List Int} (h : c ∈ S) : QY n (c :: S) = QY n S:=by
 unfold QY;apply List.map_congr_left;intro k _;congr 1
 by_cases e : ((k : Nat) : Int) ∈ S
 ·rw [decide_eq_true e,decide_eq_true (List.mem_cons_of_mem _ e)]
 ·rw [decide_eq_false e,decide_eq_false (fun h2=>by
   rcases List.mem_cons.1 h2 with h3 | h3
   ·exact e (h3 ▸ h)
   ·exact e h3)]
theorem QrY {t : Tre} {i : Nat} {S : List Int} (h : ¬ (nth t.ns i).us = true) : Yg t i S = if (0 < i ∧ i + 1 < t.ns.length) ∧ (nth t.ns i).es.length + (nth t.ns i).cs.length = 0 then (0,S) else (3,S):=by
 unfold Yg;simp only [];rw [if_neg h]
section
variable {t : Tre} {i : Nat} {S : List Int} {n : Nd}
theorem Qra (hn : nth t.ns i = n) (hu : n.us = true) (h : ¬ (n.es.length : Int) ≤ QaD t.mo t.rm i) : Yg t i S = (16,S):=by
 subst hn;unfold Yg;simp only [];rw [if_pos hu,if_neg h]
theorem QrJ (hn : nth t.ns i = n) (hu : n.us = true) (h : (n.es.length : Int) ≤ QaD t.mo t.rm i) (h2 : ¬ (n.cs.length = 0 ∨ n.cs.length = n.es.length + 1)) : Yg t i S = (10,S):=by
 subst hn;unfold Yg;simp only [];rw [if_pos hu,if_pos h,if_neg h2]
theorem QqB (hn : nth t.ns i = n) (hu : n.us = true) (h : (n.es.length : Int) ≤ QaD t.mo t.rm i) (h2 : n.cs.length = 0 ∨ n.cs.length = n.es.length + 1) (h3 : ¬ ZS t.co n.es = 0) : Yg t i S = (ZS t.co n.es,S):=by
 subst hn;unfold Yg;simp only [];rw [if_pos hu,if_pos h,if_pos h2,if_neg h3]
theorem Qk6 (hn : nth t.ns i = n) (hu : n.us = true) (h : (n.es.length : Int) ≤ QaD t.mo t.rm i) (h2 : n.cs.length = 0 ∨ n.cs.length = n.es.length + 1) (h3 : ZS t.co n.es = 0) (h4 : ¬ (Yl t.ns n.cs S).1 = 0) : Yg t i S = Yl t.ns n.cs S:=by
 subst hn;unfold Yg;simp only [];rw [if_pos hu,if_pos h,if_pos h2,if_pos h3,if_neg h4]
theorem Qrs (hn : nth t.ns i = n) (hu : n.us = true) (h : (n.es.length : Int) ≤ QaD t.mo t.rm i) (h2 : n.cs.length = 0 ∨ n.cs.length = n.es.length + 1) (h3 : ZS t.co n.es = 0) (h4 : (Yl t.ns n.cs S).1 = 0) : Yg t i S = (Qbd t.co n.es,(Yl t.ns n.cs S).2):=by
 subst hn;unfold Yg;simp only [];rw [if_pos hu,if_pos h,if_pos h2,if_pos h3,if_pos h4]
end
theorem QiF {es : List Int} {k : Nat} (hk : k < es.length) (h : ∀ j,j < k → es.getD j 0 = 0) (h2 : es.getD k 0 ≠ 0) : X4 es 0 = ((k : Int),es.getD k 0):=by
 have key : ∀ i,i ≤ k → X4 es 0 = X4 (es.drop i) i:=by
  intro i
  induction i with
  | zero=>intro _;rfl
  | succ i ih=>
   intro hi;rw [ih (by omega),QcA (by omega),if_pos (h i (by omega))]
 rw [key k (Nat.le_refl _),QcA hk,if_neg h2]
theorem Qgw {es : List Int} (h : ∀ j,j < es.length → es.getD j 0 = 0) : X4 es 0 = (0,0):=by
 have key : ∀ i,i ≤ es.length → X4 es 0 = X4 (es.drop i) i:=by
  intro i
  induction i with
  | zero=>intro _;rfl
  | succ i ih=>
   intro hi;rw [ih (by omega),QcA (by omega),if_pos (h i (by omega))]
 rw [key _ (Nat.le_refl _),List.drop_length];rfl
theorem Qpp {co : Int} {es : List TEnt} {k : Nat} (hk : k < es.length) (h1 : ∀ q,q < k → Zx co (nth es q) = 0) (h2 : ¬ Zx co (nth es k) = 0) : ZS co es = Zx co (nth es k):=by
 unfold ZS;rw [QiF (es:=es.map (Zx co)) (k:=k) (by rw [List.length_map];exact hk) (fun q hq=>by rw [QcY (by omega)];exact h1 q hq) (by rw [QcY hk];exact h2),QcY hk]
theorem Qo6 {co : Int} {es : List TEnt} (h1 : ∀ q,q < es.length → Zx co (nth es q) = 0) : ZS co es = 0:=by
 unfold ZS;rw [Qgw (fun q hq=>by rw [List.length_map] at hq;rw [QcY hq];exact h1 q hq)]
theorem QnM {co : Int} {es : List TEnt} {k : Nat} (hk : k < es.length) (h1 : ∀ q,q < k → QcE co es q = 0) (h2 : ¬ QcE co es k = 0) : Qbd co es = QcE co es k:=by
 unfold Qbd;rw [QiF (es:=(List.range es.length).map (QcE co es)) (k:=k) (by simpa using hk) (fun q hq=>by rw [QcS (by omega)];exact h1 q hq) (by rw [QcS hk];exact h2),QcS hk]
theorem QpM {co : Int} {es : List TEnt} (h1 : ∀ q,q < es.length → QcE co es q = 0) : Qbd co es = 0:=by
 unfold Qbd;rw [Qgw (fun q hq=>by rw [List.length_map,List.length_range] at hq;rw [QcS hq];exact h1 q hq)]
end Gx
namespace Go.Proofs
open Go Go.RowKit Gx
attribute [local irreducible] Go.Calls Gx.S Gx.O Gx.D Gx.OpP Gx.OpQ Gx.OpH
set_option maxRecDepth 20000
theorem Qut : Xl Tryz.prog 198 = true:=by kernel_rfl
theorem c136 (w : World) (j : Nat) (mo rm : Int) (a : Option Addr) (cap : Nat) (L : List LNd) (i sb scap tot : Nat) (S : List Int) (hw : HS w (fps [.blk sb 4 tot (QY L.length S)]) [.blk sb 4 tot (QY L.length S)] w) (hs : Nt w (fps [.blk sb 4 tot (QY L.length S)]) a L) (hj : j ≤ 3) (hi : i < L.length) (hl : L.length ≤ 1000) (hel : (nth L i).es.length ≤ 1000) (hcl : (nth L i).cs.length ≤ 1000) (hK : ∀ x ∈ (nth L i).es,x.key.length ≤ 1000000) : Calls Tryz.prog 136 #[.agg #[.int .i64 (j : Int),.int .i64 mo,.int .i64 rm,.slice a L.length cap],.int .i64 (i : Int),.slice (some ⟨sb,0,none⟩) L.length scap] w fun en w'=>∃ g : Unit,en = .returned (.int .i64 (Yg (⟨(j : Int),mo,rm,pln L⟩ : Tre) i S).1) ∧ True ∧ HS w (fps [.blk sb 4 tot (QY L.length S)]) [.blk sb 4 tot (QY L.length (Yg (⟨(j : Int),mo,rm,pln L⟩ : Tre) i S).2)] w':=by
 have hNI:=Yx hi
 have hnl : (pln L).length = L.length:=Qr L
 refine eW3 Tryz.func136 Tryz.ntmps136 hw ?_
 refine aU2 ?_
 refine oBx fun b1 _=>?_
 refine aU7 ?_
 refine o_p (Qc rfl rfl rfl Yn (i) (by omega) (by omega) (Rw.some hs.1 (by omega))) rfl ?_
 refine o_q (Zj _ rfl rfl Yd rfl (Rw.rd hs.1 hi)) rfl ?_
 refine oAl (fun b2 _=>?_) XS
 refine aU9 ?_
 refine sCd rfl (fun h3=>?_) fun h3=>?_
 ·have hu9 : ¬ (nth L i).us = true:=by have hq:=h3;simp [hq]
  have hun:=QrY (t:=(⟨(j : Int),mo,rm,pln L⟩ : Tre)) (S:=S) (i:=i) (by rw [show ((⟨(j : Int),mo,rm,pln L⟩ : Tre)).ns = pln L from rfl,hNI];exact hu9)
  rw [show ((⟨(j : Int),mo,rm,pln L⟩ : Tre)).ns = pln L from rfl,hNI,hnl] at hun
  refine aU6 ?_
  refine oOr 7 24 31 rfl
   (fun hg4 _=>by
    refine aT4 ?_
    refine aU8 ?_
    exact oJf 7 31)
   (fun hg6 _=>by
    refine aU6 ?_
    exact oJt 7 31) ?_
  refine aU ?_
  refine oOr 5 32 37 rfl
   (fun hg8 _=>by
    refine aU8 ?_
    exact oJf 5 37)
   (fun hg10 _=>by
    refine aU4 ?_
    exact oJt 5 37) ?_
  refine aU ?_
  refine oOr 5 38 43 rfl
   (fun hg12 _=>by
    refine aU8 ?_
    exact oJf 5 43)
   (fun hg14 _=>by
    refine aU4 ?_
    exact oJt 5 43) ?_
  refine aU ?_
  refine sCd rfl (fun h16=>?_) fun h16=>?_
  ·have hn9 : ¬ ((0 < i ∧ i + 1 < L.length) ∧ (nth L i).es.length + (nth L i).cs.length = 0):=by have hq:=h16;omega
   have hun2 : (Yg (⟨(j : Int),mo,rm,pln L⟩ : Tre) i S) = (3,S):=by rw [hun];exact if_neg hn9
   refine aU4 ?_
   exact rT rfl rfl (fun w' h'=>⟨(),by rw [hun2];rfl,trivial,by rw [hun2];exact h'.ent aEt⟩)
  have hn9 : (0 < i ∧ i + 1 < L.length) ∧ (nth L i).es.length + (nth L i).cs.length = 0:=by have hq:=h16;omega
  have hun2 : (Yg (⟨(j : Int),mo,rm,pln L⟩ : Tre) i S) = (0,S):=by rw [hun];exact if_pos hn9
  refine aU5 ?_
  exact rT rfl rfl (fun w' h'=>⟨(),by rw [hun2];rfl,trivial,by rw [hun2];exact h'.ent aEt⟩)
 have hu9 : (nth L i).us = true:=by have hq:=h3;simpa using hq
 refine Qgd ?_
 refine Qj (L':=[(2,_),(3,_),(6,_),(7,_),(8,_),(47,_)]) aSx (fun _ h=>h) ?_
 refine Qfl (α:=Unit) [8,48,49] (fun _=>[(8,.int .i64 (QaD mo rm i))]) (fun _=>True) ?_ ?_
 ·skip
  refine sCd rfl (fun h17=>?_) fun h17=>?_
  ·have hi0 : i = 0:=by have hq:=h17;omega
   refine aU5 ?_
   exact QH () trivial (by rw [show QaD mo rm i = rm from if_pos hi0];exact aSx) (fun w h=>h)
  have hi0 : ¬ i = 0:=by have hq:=h17;omega
  refine aU ?_
  exact QH () trivial (by rw [show QaD mo rm i = mo from if_neg hi0];exact aSx) (fun w h=>h)
 intro _ _
 refine aU9 ?_
 refine sCd rfl (fun h18=>?_) fun h18=>?_
 ·have h16 : (Yg (⟨(j : Int),mo,rm,pln L⟩ : Tre) i S) = (16,S):=Qra (t:=(⟨(j : Int),mo,rm,pln L⟩ : Tre)) hNI hu9 (by show ¬ ((nth L i).es.length : Int) ≤ QaD mo rm i;have hq:=h18;omega)
  refine aU4 ?_
  exact rT rfl rfl (fun w' h'=>⟨(),by rw [h16];rfl,trivial,by rw [h16];exact h'.ent aEt⟩)
 have hM9 : ((nth L i).es.length : Int) ≤ QaD mo rm i:=by have hq:=h18;omega
 refine aU9 ?_
 refine YS 9 59 68 rfl
  (fun hg19 _=>by
   refine aT14 ?_
   refine aU2 ?_
   exact oJt 9 68)
  (fun hg21 _=>by
   refine aU8 ?_
   exact oJf 9 68) ?_
 refine aU ?_
 refine sCd rfl (fun h23=>?_) fun h23=>?_
 ·have h10 : (Yg (⟨(j : Int),mo,rm,pln L⟩ : Tre) i S) = (10,S):=QrJ (t:=(⟨(j : Int),mo,rm,pln L⟩ : Tre)) hNI hu9 hM9 (by show ¬ ((nth L i).cs.length = 0 ∨ (nth L i).cs.length = (nth L i).es.length + 1);have hq:=h23;omega)
  refine aU4 ?_
  exact rT rfl rfl (fun w' h'=>⟨(),by rw [h10];rfl,trivial,by rw [h10];exact h'.ent aEt⟩)
 have hS9 : (nth L i).cs.length = 0 ∨ (nth L i).cs.length = (nth L i).es.length + 1:=by have hq:=h23;omega
 refine aU7 ?_
 refine Qj (L':=[(2,_),(3,_),(6,_),(7,_),(9,_)]) aSx (fun _ h=>h) ?_
 refine Qt (α:=Nat) [6,9,10,69,70,71,72,73,74,75,76,77,78,79,80,81,82,83,84,85,86] (fun k=>[(9,.int .i64 (k : Int))]) (fun _=>HS w (fps [.blk sb 4 tot (QY L.length S)]) [.blk sb 4 tot (QY L.length S),.blk b1 37 4 [.int .i64 (j : Int),.int .i64 mo,.int .i64 rm,.slice a L.length cap],.blk b2 69 3 (LNd.vals (nth L i))]) (fun k=>k ≤ (nth L i).es.length ∧ ∀ q,q < k → Zx (j : Int) (nth (nth L i).es q) = 0) (fun k=>(nth L i).es.length - k) 0 ⟨Nat.zero_le _,fun j h=>absurd h (Nat.not_lt_zero j)⟩ aSx (fun w h=>h.ent aEt) (fun k hx=>?_)
 obtain ⟨hk1,hk3⟩:=hx
 refine aU9 ?_
 refine sCd rfl (fun h24=>?_) fun h24=>?_
 ·have hk5 : k < (nth L i).es.length:=by omega
  refine aU4 ?_
  refine QL [] QZ ?_
  refine dFa 0 ?_
  refine dLd 1 [] ?_
  refine dFa 2 ?_
  refine dLd 3 [] ?_
  refine dP 4 ?_
  refine dV 5 rfl (Qc rfl rfl rfl Q7 (k) (by omega) (by omega) (Rw.some (hs.es hi) (by omega))) ?_
  refine dQ 6 [] rfl (Zj _ rfl rfl YF rfl (Rw.rd (hs.es hi) hk5)) ?_
  refine dQ 7 [] rfl (QE rfl Qut rfl (fun w1 h1=>c198 w1 j (nth (nth L i).es k) hj (hK _ (QC hk5)))) ?_
  refine dP 8 ?_
  refine dNi ?_
  refine aU5 ?_
  refine sCd rfl (fun h25=>?_) fun h25=>?_
  ·have hz6 : ¬ Zx (j : Int) (nth (nth L i).es k) = 0:=h25
   have hEb:=Qpp hk5 hk3 hz6
   have hEe : (Yg (⟨(j : Int),mo,rm,pln L⟩ : Tre) i S) = (Zx (j : Int) (nth (nth L i).es k),S):=by rw [← hEb];exact QqB (t:=(⟨(j : Int),mo,rm,pln L⟩ : Tre)) hNI hu9 hM9 hS9 (by show ¬ ZS (j : Int) (nth L i).es = 0;rw [hEb];exact hz6)
   refine aU5 ?_
   exact rT rfl rfl (fun w' h'=>⟨(),by rw [hEe];rfl,trivial,by rw [hEe];exact h'.ent aEt⟩)
  have hz6 : Zx (j : Int) (nth (nth L i).es k) = 0:=by have hq:=h25;omega
  refine aT5 ?_
  refine aU2 ?_
  exact sBk (k + 1) (by omega) ⟨by omega,fun q hq=>(Nat.lt_or_ge q k).elim (hk3 q) (fun h9=>by obtain rfl : q = k:=(by omega);exact hz6)⟩
 have hEn : ∀ q,q < (nth L i).es.length → Zx (j : Int) (nth (nth L i).es q) = 0:=fun q hq=>hk3 q (by omega)
 have hE0 : ZS (j : Int) (nth L i).es = 0:=Qo6 hEn
 refine Qo rfl ?_
 refine aU6 ?_
 refine Qt (α:=Nat × List Int) [6,11,12,87,88,89,90,91,92,93,94,95,96,97,98,99,100,101,102,103,104,105,106,107,108,109,110,111,112,113,114,115,116,117,118,119,120,121] (fun y=>[(11,.int .i64 (y.1 : Int))]) (fun y=>HS w (fps [.blk sb 4 tot (QY L.length S)]) [.blk sb 4 tot (QY L.length y.2),.blk b1 37 4 [.int .i64 (j : Int),.int .i64 mo,.int .i64 rm,.slice a L.length cap],.blk b2 69 3 (LNd.vals (nth L i))]) (fun y=>y.1 ≤ (nth L i).cs.length ∧ (Yl (pln L) (nth L i).cs S) = Yl (pln L) ((nth L i).cs.drop y.1) y.2) (fun y=>(nth L i).cs.length - y.1) (0,S) ⟨Nat.zero_le _,rfl⟩ aSx (fun w h=>h.ent aEt) (fun ⟨k,Sk⟩ hx=>?_)
 dsimp only
 obtain ⟨hk1,hk3⟩:=hx
 simp only [] at hk1 hk3
 refine aU9 ?_
 refine sCd rfl (fun h26=>?_) fun h26=>?_
 ·have hk5 : k < (nth L i).cs.length:=by omega
  have hkd9 : nth (nth L i).cs k = ((nth L i).cs.getD k 0):=rfl
  have hst:=Qmt hk5
  rw [hst,Qkj] at hk3
  refine aU8 ?_
  refine o_p (Qc rfl rfl rfl QN (k) (by omega) (by omega) (Rw.some (hs.cs hi) (by omega))) rfl ?_
  refine o_q (Qe rfl rfl Za (((hs.cs hi).rdj 0 hk5 rfl))) rfl ?_
  refine Qk (show _ = Value.int .i64 ((nth L i).cs.getD k 0) from rfl) ?_
  refine Qml ?_
  refine oCq rfl (fun w1 h1=>c40 w1 _ _ _) ?_
  refine aU2 ?_
  refine oOr 8 106 114 rfl
   (fun hg27 _=>by
    refine aU7 ?_
    refine o_p (Qc rfl rfl rfl Yn (((nth L i).cs.getD k 0).toNat) (by omega) (by omega) (Rw.some hs.1 (by omega))) rfl ?_
    refine aU3 ?_
    refine o_q (Qe rfl rfl Qkx ((hs.1.rdj 0 (i:=((nth L i).cs.getD k 0).toNat) (by omega) rfl))) rfl ?_
    refine aU2 ?_
    exact oJf 8 114)
   (fun hg29 _=>by
    refine aU7 ?_
    exact oJt 8 114) ?_
  refine aU ?_
  refine sCd rfl (fun h31=>?_) fun h31=>?_
  ·have hko : ¬ QgW (pln L) ((nth L i).cs.getD k 0):=by rintro ⟨h91,h92⟩;rw [hnl] at h91;rw [Yx (by omega)] at h92;have hq:=h31;exact hq.elim (fun hq=>by omega) (fun hq=>by rw [show (nth L ((nth L i).cs.getD k 0).toNat).pl.us = (nth L ((nth L i).cs.getD k 0).toNat).us from rfl,hq] at h92;cases h92)
   have hk6e : (Yg (⟨(j : Int),mo,rm,pln L⟩ : Tre) i S) = (6,Sk):=by have h8 : Qec (pln L) ((nth L i).cs.getD k 0) Sk = 6:=if_neg hko;have h7 : Qh6 (pln L) ((nth L i).cs.getD k 0) Sk = Sk:=if_neg hko;rw [h8,h7,if_neg (by decide)] at hk3;rw [← hk3];exact Qk6 (t:=(⟨(j : Int),mo,rm,pln L⟩ : Tre)) hNI hu9 hM9 hS9 hE0 (by show ¬ (Yl (pln L) (nth L i).cs S).1 = 0;rw [hk3];show ¬ (6 : Int) = 0;decide)
   refine aU ?_
   refine Qj (L':=[(2,_),(3,_),(7,_),(9,_),(11,_),(12,_),(69,_),(70,_),(71,_),(72,_),(73,_)]) aSx (fun _ h=>h) ?_
   refine aU3 ?_
   exact rT rfl rfl (fun w' h'=>⟨(),by rw [hk6e];rfl,trivial,by rw [hk6e];exact h'.ent aEt⟩)
  have hko : QgW (pln L) ((nth L i).cs.getD k 0):=by have hq:=h31;refine ⟨by rw [hnl];exact hq.1,?_⟩;rw [Yx (by omega)];exact hq.2
  have hko1:=hko.1
  rw [hnl] at hko1
  have hcv2 : ((nth L i).cs.getD k 0).toNat < L.length:=by omega
  have hcc : ((((nth L i).cs.getD k 0).toNat : Nat) : Int) = ((nth L i).cs.getD k 0):=Int.toNat_of_nonneg (by omega)
  have h7 : Qh6 (pln L) ((nth L i).cs.getD k 0) Sk = ((nth L i).cs.getD k 0) :: Sk:=if_pos hko
  rw [h7] at hk3
  have hsv:=QiO (n:=L.length) (S:=Sk) hcv2
  rw [hcc] at hsv
  refine aU3 ?_
  refine Qj (L':=[(2,_),(3,_),(7,_),(9,_),(11,_),(12,_),(69,_),(70,_),(71,_),(72,_),(73,_)]) aSx (fun _ h=>h) ?_
  refine aU3 ?_
  refine o_p (Qc rfl rfl rfl QdS (((nth L i).cs.getD k 0).toNat) (by omega) (by omega) rfl) rfl ?_
  refine Qk (show _ = Value.pointer (some ⟨sb,((nth L i).cs.getD k 0).toNat,none⟩) from by rw [Nat.zero_add,Nat.mul_one]) ?_
  refine o_q (Xi rfl rfl Qkx (fun w h=>h.rd_blk (Mc:=[]) aPk (Qan hcv2) (by simp))) rfl ?_
  refine aU ?_
  refine sCd rfl (fun h32=>?_) fun h32=>?_
  ·have hmem : ((nth L i).cs.getD k 0) ∈ Sk:=by have hq:=h32;rw [hcc] at hq;exact hq
   have h8 : Qec (pln L) ((nth L i).cs.getD k 0) Sk = 23:=by rw [Qec,if_pos hko,if_pos hmem]
   rw [h8,if_neg (by decide)] at hk3
   have hk23 : (Yg (⟨(j : Int),mo,rm,pln L⟩ : Tre) i S) = (23,((nth L i).cs.getD k 0) :: Sk):=by rw [← hk3];exact Qk6 (t:=(⟨(j : Int),mo,rm,pln L⟩ : Tre)) hNI hu9 hM9 hS9 hE0 (by show ¬ (Yl (pln L) (nth L i).cs S).1 = 0;rw [hk3];show ¬ (23 : Int) = 0;decide)
   refine aU4 ?_
   exact rT rfl rfl (fun w' h'=>⟨(),by rw [hk23];rfl,trivial,by rw [hk23,QpQ hmem];exact h'.ent aEt⟩)
  have hmem : ¬ ((nth L i).cs.getD k 0) ∈ Sk:=by have hq:=h32;rw [hcc] at hq;exact hq
  have h8 : Qec (pln L) ((nth L i).cs.getD k 0) Sk = 0:=by rw [Qec,if_pos hko,if_neg hmem]
  rw [h8,if_pos rfl] at hk3
  have hk9:=hk3
  refine aU4 ?_
  refine o_p (Qc rfl rfl rfl QdS (((nth L i).cs.getD k 0).toNat) (by omega) (by omega) rfl) rfl ?_
  refine Qk (show _ = Value.pointer (some ⟨sb,((nth L i).cs.getD k 0).toNat,none⟩) from by rw [Nat.zero_add,Nat.mul_one]) ?_
  refine QmN (Z6 rfl rfl rfl Qkx rfl aPt (by rw [Qat];show _ + 1 ≤ _;omega) rfl) (fun _ _=>?_)
  refine aT5 ?_
  refine aU2 ?_
  exact QW (k + 1,((nth L i).cs.getD k 0) :: Sk) (by (try simp only []);omega) ⟨by (try simp only []);omega,hk9⟩ aSx (fun w h=>by have h2:=h;rw [show Qd (QY L.length Sk) ((nth L i).cs.getD k 0).toNat (Value.cells (.bool true)).toList = QY L.length (((nth L i).cs.getD k 0) :: Sk) from hsv] at h2;exact h2.ent aEt)
 have hdr9 : (nth L i).cs.drop k = []:=List.drop_of_length_le (by omega)
 rw [hdr9] at hk3
 have hK0 : (Yl (pln L) (nth L i).cs S).1 = 0:=by rw [hk3];rfl
 have hK2 : (Yl (pln L) (nth L i).cs S).2 = Sk:=by rw [hk3];rfl
 have hOr : (Yg (⟨(j : Int),mo,rm,pln L⟩ : Tre) i S) = (Qbd (j : Int) (nth L i).es,(Yl (pln L) (nth L i).cs S).2):=by have h9:=Qrs (t:=(⟨(j : Int),mo,rm,pln L⟩ : Tre)) (i:=i) (S:=S) (n:=(nth L i).pl) hNI hu9 hM9 hS9 hE0 hK0;exact h9
 refine Qo rfl ?_
 refine aU6 ?_
 refine Qt (α:=Nat) [6,13,122,123,124,125,126,127,128,129,130,131,132,133,134,135,136,137,138,139,140,141,142,143,144,145] (fun k=>[(13,.int .i64 (k : Int))]) (fun _=>HS w (fps [.blk sb 4 tot (QY L.length S)]) [.blk sb 4 tot (QY L.length (Yl (pln L) (nth L i).cs S).2),.blk b1 37 4 [.int .i64 (j : Int),.int .i64 mo,.int .i64 rm,.slice a L.length cap],.blk b2 69 3 (LNd.vals (nth L i))]) (fun k=>1 ≤ k ∧ ∀ q,q < k → QcE (j : Int) (nth L i).es q = 0) (fun k=>(nth L i).es.length - k) 1 ⟨Nat.le_refl _,fun q h=>if_pos (.inl (by omega))⟩ aSx (fun w h=>by rw [hK2];exact h.ent aEt) (fun k hx=>?_)
 obtain ⟨hk1,hk3b⟩:=hx
 refine aU9 ?_
 refine sCd rfl (fun h33=>?_) fun h33=>?_
 ·have hk5 : k < (nth L i).es.length:=by omega
  have hk6 : k - 1 < (nth L i).es.length:=by omega
  refine aU4 ?_
  refine QL [] QZ ?_
  refine dFa 0 ?_
  refine dLd 1 [] ?_
  refine dFa 2 ?_
  refine dLd 3 [] ?_
  refine dP 4 ?_
  refine dP 5 ?_
  try refine dWr ?_
  refine dV 6 rfl (Qc rfl rfl rfl Q7 (k - 1) (by omega) (by omega) (Rw.some (hs.es hi) (by omega))) ?_
  refine dFa 7 ?_
  refine dQ 8 [] rfl (Qe rfl rfl Zw (((hs.es hi).rdj 0 hk6 rfl))) ?_
  refine dFa 9 ?_
  refine dLd 10 [] ?_
  refine dP 11 ?_
  refine dV 12 rfl (Qc rfl rfl rfl Q7 (k) (by omega) (by omega) (Rw.some (hs.es hi) (by omega))) ?_
  refine dFa 13 ?_
  refine dQ 14 [] rfl (Qe rfl rfl Zw (((hs.es hi).rdj 0 hk5 rfl))) ?_
  refine dQ 15 [] rfl (QE rfl Qc3 rfl (fun w1 h1=>c65 w1 j (nth (nth L i).es (k - 1)).key (nth (nth L i).es k).key hj (QbA (hEn _ hk6)) (QbA (hEn _ hk5)) (hK _ (QC hk6)) (hK _ (QC hk5)))) ?_
  refine dP 16 ?_
  refine dNi ?_
  refine sCd rfl (fun h34=>?_) fun h34=>?_
  ·have hz11 : ¬ QcE (j : Int) (nth L i).es k = 0:=by unfold QcE;rw [if_neg (by have hq:=h34;omega)];decide
   have hOb:=QnM hk5 hk3b hz11
   have hOv : QcE (j : Int) (nth L i).es k = 9:=if_neg (by have hq:=h34;omega)
   refine aU ?_
   refine Qj (L':=[(2,_),(3,_),(7,_),(9,_),(11,_),(13,_),(69,_),(70,_),(71,_),(72,_),(73,_),(87,_),(88,_),(89,_),(90,_),(91,_)]) aSx (fun _ h=>h) ?_
   refine aU3 ?_
   exact rT rfl rfl (fun w' h'=>⟨(),by rw [hOr,hOb,hOv];rfl,trivial,by rw [hOr];exact h'.ent aEt⟩)
  have hz11 : QcE (j : Int) (nth L i).es k = 0:=if_pos (.inr (by have hq:=h34;omega))
  refine aU2 ?_
  refine Qj (L':=[(2,_),(3,_),(7,_),(9,_),(11,_),(13,_),(69,_),(70,_),(71,_),(72,_),(73,_),(87,_),(88,_),(89,_),(90,_),(91,_)]) aSx (fun _ h=>h) ?_
  refine aT3 ?_
  refine aU2 ?_
  exact sBk (k + 1) (by omega) ⟨by omega,fun q hq=>(Nat.lt_or_ge q k).elim (hk3b q) (fun h9=>by obtain rfl : q = k:=(by omega);exact hz11)⟩
 have hO0 : Qbd (j : Int) (nth L i).es = 0:=QpM (fun q hq=>hk3b q (by omega))
 refine Qo rfl ?_
 refine aU4 ?_
 exact rT rfl rfl (fun w' h'=>⟨(),by rw [hOr,hO0];rfl,trivial,by rw [hOr];exact h'.ent aEt⟩)
end Go.Proofs
namespace Gx
open Go Go.RowKit
def mkS (vs : List Vis) (S : List Int) : List Int:=(vs.map fun v=>((v.i : Nat) : Int)).reverse ++ S
theorem QrG (A B : List Vis) (S : List Int) : mkS (A ++ B) S = mkS B (mkS A S):=by simp [mkS]
theorem QrF {vs : List Vis} {c : Int} : c ∈ mkS vs [] ↔ ∃ v ∈ vs,((v.i : Nat) : Int) = c:=by simp [mkS]
end Gx
namespace Go.Proofs
open Go Go.RowKit Gx
attribute [local irreducible] Go.Calls Gx.S Gx.O Gx.D Gx.OpP Gx.OpQ Gx.OpH
set_option maxRecDepth 20000
theorem Qoy : Xl Tryz.prog 137 = true:=by kernel_rfl
def MkC (j : Nat) (mo rm : Int) (a : Option Addr) (cap : Nat) (L : List LNd) (sb scap tot : Nat) (f : Nat) : Prop:=∀ (w : World) (S : List Int) (v : Vis) (P : List Nat),(HS w (fps [.blk sb 4 tot (QY L.length S)]) [.blk sb 4 tot (QY L.length S)] w) → (Nt w (fps [.blk sb 4 tot (QY L.length S)]) a L) → (TOk (j : Int) (pln L)) → (Bd (pln L)) → (0 < L.length) → (Gx.Way (pln L) (v.i :: P)) → P.length + f = L.length → Calls Tryz.prog 137 #[.agg #[.int .i64 (j : Int),.int .i64 mo,.int .i64 rm,.slice a L.length cap],.int .i64 (v.i : Int),.slice (some ⟨sb,0,none⟩) L.length scap] w fun en w'=>∃ g : Unit,en = .returned (.tuple #[]) ∧ True ∧ HS w (fps [.blk sb 4 tot (QY L.length S)]) [.blk sb 4 tot (QY L.length (mkS (vis (pln L) f v) S))] w'
theorem QuT (w : World) (j : Nat) (mo rm : Int) (a : Option Addr) (cap : Nat) (L : List LNd) (sb scap tot : Nat) (S : List Int) (v : Vis) (P : List Nat) (f : Nat) (hw : HS w (fps [.blk sb 4 tot (QY L.length S)]) [.blk sb 4 tot (QY L.length S)] w) (hs : Nt w (fps [.blk sb 4 tot (QY L.length S)]) a L) (hT : TOk (j : Int) (pln L)) (hB : Bd (pln L)) (h0 : 0 < L.length) (hway : Gx.Way (pln L) (v.i :: P)) (hf : P.length + (f + 1) = L.length) (ih : MkC j mo rm a cap L sb scap tot f) : Calls Tryz.prog 137 #[.agg #[.int .i64 (j : Int),.int .i64 mo,.int .i64 rm,.slice a L.length cap],.int .i64 (v.i : Int),.slice (some ⟨sb,0,none⟩) L.length scap] w fun en w'=>∃ g : Unit,en = .returned (.tuple #[]) ∧ True ∧ HS w (fps [.blk sb 4 tot (QY L.length S)]) [.blk sb 4 tot (QY L.length (mkS (vis (pln L) (f + 1) v) S))] w':=by
 have hi0:=Qbz hT (by rw [Qr];exact h0) hway v.i (List.mem_cons_self ..)
 have hi : v.i < L.length:=by rw [Qr] at hi0;exact hi0
 have hn:=Yx hi
 have hle:=hB.len
 rw [Qr] at hle
 have hcl:=hB.cs v.i hi0
 rw [hn] at hcl
 simp only [LNd.pl] at hcl
 refine eW3 Tryz.func137 Tryz.ntmps137 hw ?_
 refine aU2 ?_
 refine oBx fun b1 _=>?_
 refine aU5 ?_
 refine o_p (Qc rfl rfl rfl QdS (v.i) (by omega) (by omega) rfl) rfl ?_
 refine Qk (show _ = Value.pointer (some ⟨sb,v.i,none⟩) from by rw [Nat.zero_add,Nat.mul_one]) ?_
 refine QmN (Z6 rfl rfl rfl Qkx rfl aPt (by rw [Qat];show _ + 1 ≤ _;omega) rfl) (fun _ _=>?_)
 refine aU6 ?_
 refine Qt (α:=Nat) [6,10,11,12,13,14,15,16,17,18,19,20,21,22,23,24,25,26,27,28,29,30,31,32] (fun k=>[(6,.int .i64 (k : Int))]) (fun k=>HS w (fps [.blk sb 4 tot (QY L.length S)]) [.blk sb 4 tot (QY L.length (mkS (Qb5 (pln L) f v k) S)),.blk b1 37 4 [.int .i64 (j : Int),.int .i64 mo,.int .i64 rm,.slice a L.length cap]]) (fun k=>k ≤ (nth L v.i).cs.length) (fun k=>(nth L v.i).cs.length - k) 0 (Nat.zero_le _) aSx (fun w h=>by have h2:=h;rw [show Qd (QY L.length S) v.i (Value.cells (.bool true)).toList = QY L.length (((v.i : Nat) : Int) :: S) from QiO hi] at h2;exact h2.ent aEt) (fun k hk1=>?_)
 refine aU7 ?_
 refine o_p (Qc rfl rfl rfl Yn (v.i) (by omega) (by omega) (Rw.some hs.1 (by omega))) rfl ?_
 refine aU ?_
 refine o_q (Qe rfl rfl Qbl ((hs.1.rdj 2 hi rfl))) rfl ?_
 refine aU3 ?_
 refine sCd rfl (fun h2=>?_) fun h2=>?_
 ·have hkl : k < (nth L v.i).cs.length:=by omega
  have hkid:=QdG hT hi0 (k:=k) (by rw [hn];exact hkl)
  rw [hn,Qr] at hkid
  simp only [LNd.pl] at hkid
  have hway2:=Qb3 hway hi0 (k:=k) (by rw [hn];exact hkl) (by rw [hn];simp only [LNd.pl];omega)
  refine aU3 ?_
  refine QL [11] QZ ?_
  refine dLn 0 [[]] ?_
  refine dFa 1 ?_
  refine dLd 2 [[9,8,6,5,4]] ?_
  refine dP 3 ?_
  refine dV 4 rfl (Qc rfl rfl rfl Yn (v.i) (by omega) (by omega) (Rw.some hs.1 (by omega))) ?_
  refine dFa 5 ?_
  refine dQ 6 [[9,8]] rfl (Qe rfl rfl Qbl ((hs.1.rdj 2 hi rfl))) ?_
  refine dP 7 ?_
  refine dV 8 rfl (Qc rfl rfl rfl QN (k) (by omega) (by omega) (Rw.some (hs.cs hi) (by omega))) ?_
  refine dQ 9 [[]] rfl (Qe rfl rfl Za (((hs.cs hi).rdj 0 (i:=k) hkl rfl))) ?_
  refine QT (show _ = Value.int .i64 ((Yu (pln L) v k).i : Int) from by rw [Yu,hn];exact congrArg (Value.int .i64) (Int.toNat_of_nonneg (show 0 ≤ (nth L v.i).cs.getD k 0 by omega)).symm) ?_
  refine dP 10 ?_
  refine dH 11 rfl (Xg (Cs:=[.blk sb 4 tot (QY L.length (mkS (Qb5 (pln L) f v k) S))]) rfl Qoy rfl aPs (fun w1 h1 hf9=>ih w1 (mkS (Qb5 (pln L) f v k) S) (Yu (pln L) v k) (v.i :: P) hf9 ((hs.keep h1).mono (Qbu aPs)) hT hB h0 hway2 (by simp only [List.length_cons];omega))) (fun _ _=>?_)
  refine dTu [] ?_
  refine dNi ?_
  refine aT4 ?_
  refine aU2 ?_
  exact QW (k + 1) (by omega) (by omega) aSx (fun w h=>by rw [X7,QrG];exact h.ent aEt)
 obtain rfl : k = (nth L v.i).cs.length:=by omega
 refine Qo rfl ?_
 exact Qfw rfl (fun w' h'=>⟨(),rfl,trivial,by rw [QaA,hn];exact h'.ent aEt⟩)
theorem c137 (j : Nat) (mo rm : Int) (a : Option Addr) (cap : Nat) (L : List LNd) (sb scap tot : Nat) : ∀ f,MkC j mo rm a cap L sb scap tot f
  | 0=>fun w S v P hw hs hT hB h0 hway hf=>by
    have h1:=ZY hT (by rw [Qr];exact h0) hway;rw [Qr,List.length_cons] at h1;omega
  | f + 1=>fun w S v P hw hs hT hB h0 hway hf=>QuT w j mo rm a cap L sb scap tot S v P f hw hs hT hB h0 hway hf (c137 j mo rm a cap L sb scap tot f)
end Go.Proofs
namespace Gx
open Go Go.RowKit
def StK (w : World) (p : Option Addr) (n : Nat) (o : Option (List UInt8)) : Prop:=match o with
 | none=>n = 0
 | some k=>n = 1 ∧ ∃ b off,p = some ⟨b,off,none⟩ ∧ Rd w [] b off (.string (bs k))
theorem StK.later {w w' : World} {As : List HA} {p : Option Addr} {n : Nat} {o : Option (List UInt8)} (h : StK w p n o) (hs : HS w [] As w') : StK w' p n o:=by
 cases o with
 | none=>exact h
 | some k=>
  obtain ⟨h1,b,off,h2,h3⟩:=h;exact ⟨h1,b,off,h2,h3.next hs⟩
theorem StK.of_pos {w : World} {p : Option Addr} {n : Nat} {o : Option (List UInt8)} (h : StK w p n o) (hn : 0 < n) : ∃ k b off,o = some k ∧ n = 1 ∧ p = some ⟨b,off,none⟩ ∧ Rd w [] b off (.string (bs k)):=by
 cases o with
 | none=>
  have : n = 0:=h;omega
 | some k=>
  obtain ⟨h1,b,off,h2,h3⟩:=h;exact ⟨k,b,off,rfl,h1,h2,h3⟩
theorem StK.of_no {w : World} {p : Option Addr} {n : Nat} {o : Option (List UInt8)} (h : StK w p n o) (hn : ¬ 0 < n) : o = none:=by
 cases o with
 | none=>rfl
 | some k=>
  obtain ⟨h1,_⟩:=h;omega
theorem StK.new {w : World} {b : Nat} {k : List UInt8} (h : Rd w [] b 0 (.string (bs k))) : StK w (some ⟨b,0,none⟩) 1 (some k):=⟨rfl,b,0,rfl,h⟩
theorem QeA {es : List TEnt} {k : Nat} {lo : Option (List UInt8)} (h : 0 < k) : loK es k lo = some (nth es (k - 1)).key:=if_pos h
theorem QhM {es : List TEnt} {k : Nat} {lo : Option (List UInt8)} (h : ¬ 0 < k) : loK es k lo = lo:=if_neg h
theorem QeH {es : List TEnt} {k : Nat} {hi : Option (List UInt8)} (h : k < es.length) : hiK es k hi = some (nth es k).key:=if_pos h
theorem QhU {es : List TEnt} {k : Nat} {hi : Option (List UInt8)} (h : ¬ k < es.length) : hiK es k hi = hi:=if_neg h
theorem XU {t : Tre} {deep : Int} : ∀ (A B : List Vis),Ym t deep (A ++ B) = if (Ym t deep A).2 = 0 then Ym t deep B else Ym t deep A
 | [],B=>rfl
 | v :: A,B=>by
  rw [List.cons_append,Ym,Ym]
  by_cases h : Qey t deep v = 0
  ·rw [if_pos h,if_pos h];exact XU A B
  ·rw [if_neg h,if_neg h,if_neg h]
theorem Qrf {t : Tre} {v : Vis} {N R : Nd} (hN : nth t.ns v.i = N) (hR : nth t.ns 0 = R) (h1 : R.cs.length = 0 ∨ R.cs.length = R.es.length + 1) (h2 : ∀ c ∈ R.cs,1 ≤ c) : QcG t v = true ↔ (v.i ≠ 0 ∧ (N.es.length : Int) < t.mo / 2) ∨ (((R.es.length = 0 ∧ R.cs.length = 1) ∧ R.cs.getD 0 0 = (v.i : Int)) ∧ (N.es.length : Int) ≤ t.rm):=by
 subst hN hR;unfold QcG;simp only [Bool.and_eq_true,Bool.or_eq_true,decide_eq_true_eq];constructor
 ·rintro ⟨h3,h4 | ⟨⟨h4,h5⟩,h6⟩⟩
  ·exact .inl ⟨by omega,h4⟩
  ·refine .inr ⟨⟨⟨h4,?_⟩,?_⟩,h6⟩
   ·rcases h1 with h1 | h1
    ·rw [List.eq_nil_of_length_eq_zero h1] at h5;cases h5
    ·omega
   ·have hl : (nth t.ns 0).cs.length = 1:=by
     rcases h1 with h1 | h1
     ·rw [List.eq_nil_of_length_eq_zero h1] at h5;cases h5
     ·omega
    obtain ⟨c,hc⟩:=List.length_eq_one_iff.1 hl;rw [hc] at h5 ⊢;exact (List.mem_singleton.1 h5).symm
 ·rintro (⟨h3,h4⟩ | ⟨⟨⟨h4,h5⟩,h6⟩,h7⟩)
  ·exact ⟨by omega,.inl h4⟩
  ·obtain ⟨c,hc⟩:=List.length_eq_one_iff.1 h5;have h8:=h2 c (by rw [hc];exact List.mem_singleton.2 rfl);rw [hc] at h6 ⊢;have h9 : c = (v.i : Int):=h6;exact ⟨by omega,.inr ⟨⟨h4,List.mem_singleton.2 h9.symm⟩,h7⟩⟩
theorem Qjj {t : Tre} {deep : Int} {v : Vis} (h : QcG t v = true) : Qey t deep v = 14:=by rw [QeS,if_pos h]
theorem Qp7 {t : Tre} {deep : Int} {v : Vis} (h : ¬ QcG t v = true) (h2 : Qdt t v = true) : Qey t deep v = 9:=by rw [QeS,if_neg h,if_pos h2]
theorem Qq3 {t : Tre} {deep : Int} {v : Vis} (h : ¬ QcG t v = true) (h2 : ¬ Qdt t v = true) (h3 : (nth t.ns v.i).cs.length = 0 ∧ v.d ≠ deep + 1) : Qey t deep v = 22:=by rw [QeS,if_neg h,if_neg h2,if_pos h3]
theorem Qr0 {t : Tre} {deep : Int} {v : Vis} (h : ¬ QcG t v = true) (h2 : ¬ Qdt t v = true) (h3 : ¬ ((nth t.ns v.i).cs.length = 0 ∧ v.d ≠ deep + 1)) : Qey t deep v = 0:=by rw [QeS,if_neg h,if_neg h2,if_neg h3]
theorem QpW {t : Tre} {v : Vis} {N : Nd} {k : Nat} (hN : nth t.ns v.i = N) (hk : k < N.es.length) (h : QdT t v (nth N.es k) = true) : Qdt t v = true:=by
 subst hN;exact List.any_eq_true.2 ⟨_,QC hk,h⟩
theorem QrC {t : Tre} {v : Vis} {N : Nd} (hN : nth t.ns v.i = N) (h : ∀ q,q < N.es.length → ¬ QdT t v (nth N.es q) = true) : ¬ Qdt t v = true:=fun h2=>by
 subst hN;obtain ⟨x,hx,h3⟩:=List.any_eq_true.1 h2;obtain ⟨q,hq,e⟩:=List.getElem_of_mem hx;have e2 : nth (nth t.ns v.i).es q = x:=Zr (by rw [List.getElem?_eq_getElem hq,e]);exact h q hq (by rw [e2];exact h3)
theorem QcU {t : Tre} {v : Vis} {x : TEnt} : QdT t v x = true ↔ (∃ b,v.lo = some b ∧ 0 ≤ Xm t.co b x.key) ∨ (∃ b,v.hi = some b ∧ 0 ≤ Xm t.co x.key b):=by
 unfold QdT;cases v.lo <;> cases v.hi <;> simp
section
variable {t : Tre} {v : Vis} {x : TEnt} {kl kh : List UInt8}
theorem QuX (h1 : v.lo = some kl) (h : 0 ≤ Xm t.co kl x.key) : (true = true ↔ QdT t v x = true):=⟨fun _=>QcU.2 (.inl ⟨kl,h1,h⟩),fun _=>rfl⟩
theorem Qu8 (h1 : v.lo = some kl) (h : ¬ 0 ≤ Xm t.co kl x.key) (h2 : v.hi = some kh) : (decide (Xm t.co x.key kh ≥ 0) = true ↔ QdT t v x = true):=by
 rw [decide_eq_true_eq,QcU,h1,h2];constructor
 ·exact fun h9=>.inr ⟨kh,rfl,h9⟩
 ·rintro (⟨b,hb,h9⟩ | ⟨b,hb,h9⟩)
  ·cases hb;exact absurd h9 h
  ·cases hb;exact h9
theorem Qvn (h1 : v.lo = some kl) (h : ¬ 0 ≤ Xm t.co kl x.key) (h2 : v.hi = none) : (false = true ↔ QdT t v x = true):=by
 rw [QcU,h1,h2];constructor
 ·exact fun h9=>(nomatch h9)
 ·rintro (⟨b,hb,h9⟩ | ⟨b,hb,h9⟩)
  ·cases hb;exact absurd h9 h
  ·cases hb
theorem Qvi (h1 : v.lo = none) (h2 : v.hi = some kh) : (decide (Xm t.co x.key kh ≥ 0) = true ↔ QdT t v x = true):=by
 rw [decide_eq_true_eq,QcU,h1,h2];constructor
 ·exact fun h9=>.inr ⟨kh,rfl,h9⟩
 ·rintro (⟨b,hb,h9⟩ | ⟨b,hb,h9⟩)
  ·cases hb
  ·cases hb;exact h9
theorem Qva (h1 : v.lo = none) (h2 : v.hi = none) : (false = true ↔ QdT t v x = true):=by
 rw [QcU,h1,h2];constructor
 ·exact fun h9=>(nomatch h9)
 ·rintro (⟨b,hb,h9⟩ | ⟨b,hb,h9⟩) <;> cases hb
end
theorem Qdf {t : Tre} {deep : Int} {f : Nat} {v : Vis} (h : ¬ Qey t deep v = 0) : Ym t deep (vis t.ns (f + 1) v) = ((v.i : Int),Qey t deep v):=by
 rw [vis,Ym,if_neg h]
theorem QtR {t : Tre} {deep : Int} {f : Nat} {v : Vis} (h : Qey t deep v = 0) : (Ym t deep (Qb5 t.ns f v 0)).2 = 0:=by
 rw [Qux,Ym,if_pos h];rfl
end Gx
namespace Go.Proofs
open Go Go.RowKit Gx
attribute [local irreducible] Go.Calls Gx.S Gx.O Gx.D Gx.OpP Gx.OpQ Gx.OpH
set_option maxRecDepth 20000
theorem QdC : tsl Tryz.prog 241 = some (9,1,16):=by kernel_rfl
theorem QsO : QM Tryz.prog 9 = some [.string (bs [])]:=by kernel_rfl
theorem Qe8 : Xl Tryz.prog 138 = true:=by kernel_rfl
instance : TFn Tryz.prog 138:=⟨Qe8⟩
def PlC (j : Nat) (mo rm : Int) (a : Option Addr) (cap : Nat) (L : List LNd) (deep : Int) (f : Nat) : Prop:=∀ (w : World) (v : Vis) (P : List Nat) (lv : Int) (pa qa : Option Addr) (pn pc qn qc : Nat),(Nt w [] a L) → (j ≤ 3) → ((0 ≤ mo ∧ mo ≤ 1000) ∧ (0 ≤ deep ∧ deep ≤ 1000)) → (TOk (j : Int) (pln L)) → (Bd (pln L)) → (0 < L.length) → (Gx.Way (pln L) (v.i :: P)) → (v.d = (P.length : Int) + 1) → (lv = deep + 1 - v.d) → (KOk (j : Int) v.lo) → (KOk (j : Int) v.hi) → (StK w pa pn v.lo) → (StK w qa qn v.hi) → P.length + f = L.length → Calls Tryz.prog 138 #[.agg #[.int .i64 (j : Int),.int .i64 mo,.int .i64 rm,.slice a L.length cap],.int .i64 (v.i : Int),.int .i64 lv,.slice pa pn pc,.slice qa qn qc] w fun en w'=>en = .returned (.tuple #[.int .i64 (Ym (⟨(j : Int),mo,rm,pln L⟩ : Tre) deep (vis (pln L) f v)).1,.int .i64 (Ym (⟨(j : Int),mo,rm,pln L⟩ : Tre) deep (vis (pln L) f v)).2]) ∧ Below w.heap.size w w'
theorem Qvq (w : World) (j : Nat) (mo rm : Int) (a : Option Addr) (cap : Nat) (L : List LNd) (deep : Int) (v : Vis) (P : List Nat) (lv : Int) (pa qa : Option Addr) (pn pc qn qc : Nat) (f : Nat) (hs : Nt w [] a L) (hj : j ≤ 3) (hmo : (0 ≤ mo ∧ mo ≤ 1000) ∧ (0 ≤ deep ∧ deep ≤ 1000)) (hT : TOk (j : Int) (pln L)) (hB : Bd (pln L)) (h0 : 0 < L.length) (hway : Gx.Way (pln L) (v.i :: P)) (hd : v.d = (P.length : Int) + 1) (hlv : lv = deep + 1 - v.d) (hko : KOk (j : Int) v.lo) (hkp : KOk (j : Int) v.hi) (hlo : StK w pa pn v.lo) (hhi : StK w qa qn v.hi) (hf : P.length + (f + 1) = L.length) (ih : PlC j mo rm a cap L deep f) : Calls Tryz.prog 138 #[.agg #[.int .i64 (j : Int),.int .i64 mo,.int .i64 rm,.slice a L.length cap],.int .i64 (v.i : Int),.int .i64 lv,.slice pa pn pc,.slice qa qn qc] w fun en w'=>en = .returned (.tuple #[.int .i64 (Ym (⟨(j : Int),mo,rm,pln L⟩ : Tre) deep (vis (pln L) (f + 1) v)).1,.int .i64 (Ym (⟨(j : Int),mo,rm,pln L⟩ : Tre) deep (vis (pln L) (f + 1) v)).2]) ∧ Below w.heap.size w w':=by
 have hi0:=Qbz hT (by rw [Qr];exact h0) hway v.i (List.mem_cons_self ..)
 have hi : v.i < L.length:=by rw [Qr] at hi0;exact hi0
 have hn:=Yx hi
 have hn0:=Yx h0
 have hle:=hB.len
 rw [Qr] at hle
 have hwl:=ZY hT (by rw [Qr];exact h0) hway
 rw [Qr,List.length_cons] at hwl
 have hcl:=hB.cs v.i hi0
 have hel:=hB.es v.i hi0
 rw [hn] at hcl hel
 simp only [LNd.pl] at hcl hel
 have hsh:=hT.shape v.i hi0
 rw [hn] at hsh
 simp only [LNd.pl] at hsh
 have hgi:=Qrf (t:=(⟨(j : Int),mo,rm,pln L⟩ : Tre)) (v:=v) hn hn0 (hn0 ▸ hT.shape 0 (by rw [Qr];exact h0)) (fun c hc=>(hT.kid 0 (by rw [Qr];exact h0) c (by rw [hn0];exact hc)).1.1)
 simp only [LNd.pl] at hgi
 have hE9:=Qfn hT hi0
 rw [hn] at hE9
 simp only [LNd.pl] at hE9
 refine eN5 Tryz.func138 Tryz.ntmps138 ?_
 refine aU2 ?_
 refine oBx fun b1 _=>?_
 refine aU8 ?_
 refine o_p (Qc rfl rfl rfl Yn (v.i) (by omega) (by omega) (Rw.some hs.1 (by omega))) rfl ?_
 refine o_q (Zj _ rfl rfl Yd rfl (Rw.rd hs.1 hi)) rfl ?_
 refine oAl (fun b2 _=>?_) XS
 refine aU8 ?_
 refine YS 8 27 35 rfl
  (fun hg3 _=>by
   refine Qfe ?_
   refine o_p (XD rfl rfl rfl (by omega) (by omega) (by omega)) rfl ?_
   refine aU2 ?_
   exact oJt 8 35)
  (fun hg5 _=>by
   refine aU7 ?_
   exact oJf 8 35) ?_
 refine aU ?_
 refine sCd rfl (fun h7=>?_) fun h7=>?_
 ·have hgp : QcG (⟨(j : Int),mo,rm,pln L⟩ : Tre) v = true:=hgi.2 (.inl (by have hq:=h7;omega))
  have hV:=Qjj (deep:=deep) hgp
  refine aU6 ?_
  exact Qi (rs:=[.tmp 10,.tmp 11]) rfl (.tmp rfl (.tmp rfl (.nil))) (fun w' h'=>⟨by rw [Qdf (by rw [hV];decide),hV];rfl,h'.below⟩)
 have hng1 : ¬ (v.i ≠ 0 ∧ ((nth L v.i).es.length : Int) < mo / 2):=by have hq:=h7;omega
 refine aU6 ?_
 refine o_p (Qc rfl rfl rfl Yn (0) (by omega) (by omega) (Rw.some hs.1 (by omega))) rfl ?_
 refine aU ?_
 refine o_q (Qe rfl rfl Qij ((hs.1.rdj 1 h0 rfl))) rfl ?_
 refine aU3 ?_
 refine YS 8 44 52 rfl
  (fun hg8 _=>by
   refine aU5 ?_
   refine o_p (Qc rfl rfl rfl Yn (0) (by omega) (by omega) (Rw.some hs.1 (by omega))) rfl ?_
   refine aU3 ?_
   refine o_q (Qe rfl rfl Qbl ((hs.1.rdj 2 h0 rfl))) rfl ?_
   refine aU4 ?_
   exact oJt 8 52)
  (fun hg10 _=>by
   refine aU7 ?_
   exact oJf 8 52) ?_
 refine aU ?_
 refine YS 10 53 63 rfl
  (fun hg12 _=>by
   refine aU5 ?_
   refine o_p (Qc rfl rfl rfl Yn (0) (by omega) (by omega) (Rw.some hs.1 (by omega))) rfl ?_
   refine aU3 ?_
   refine o_q (Qe rfl rfl Qbl ((hs.1.rdj 2 h0 rfl))) rfl ?_
   refine aU ?_
   refine o_p (Qc rfl rfl rfl QN (0) (by omega) (by omega) (Rw.some (hs.cs h0) (by omega))) rfl ?_
   refine aU ?_
   refine o_q (Qe rfl rfl Za (((hs.cs h0).rdj 0 (i:=0) (by omega) rfl))) rfl ?_
   refine aU4 ?_
   exact oJt 10 63)
  (fun hg14 _=>by
   refine aU9 ?_
   exact oJf 10 63) ?_
 refine aU ?_
 refine YS 7 64 71 rfl
  (fun hg16 _=>by
   refine Qes ?_
   exact oJt 7 71)
  (fun hg18 _=>by
   refine aU6 ?_
   exact oJf 7 71) ?_
 refine aU ?_
 refine sCd rfl (fun h20=>?_) fun h20=>?_
 ·have hgp : QcG (⟨(j : Int),mo,rm,pln L⟩ : Tre) v = true:=hgi.2 (.inr (by have hq:=h20;exact ⟨⟨⟨by omega,by omega⟩,hq.1.2⟩,by omega⟩))
  have hV:=Qjj (deep:=deep) hgp
  refine aU ?_
  refine Qj (L':=[(1,_),(2,_),(3,_),(4,_),(5,_),(10,_),(11,_),(12,_)]) aSx (fun _ h=>h) ?_
  refine aU5 ?_
  exact Qi (rs:=[.tmp 10,.tmp 11]) rfl (.tmp rfl (.tmp rfl (.nil))) (fun w' h'=>⟨by rw [Qdf (by rw [hV];decide),hV];rfl,h'.below⟩)
 have hgn : ¬ QcG (⟨(j : Int),mo,rm,pln L⟩ : Tre) v = true:=fun h9=>(hgi.1 h9).elim hng1 (fun h8=>by have hq:=h20;rcases hq with ((hq | hq) | hq) | hq <;> first | omega | exact hq h8.1.2)
 refine aU3 ?_
 refine Qj (L':=[(1,_),(2,_),(3,_),(4,_),(5,_),(10,_),(11,_),(12,_)]) aSx (fun _ h=>h) ?_
 refine aU4 ?_
 refine Qt (α:=Nat) [10,11,13,14,73,74,75,76,77,78,79,80,81,82,83,84,85,86,87,88,89,90,91,92,93,94,95,96,97,98,99,100,101,102,103,104,105,106,107,108,109,110,111,112,113,114] (fun k=>[(13,.int .i64 (k : Int))]) (fun _=>HS w [] [.blk b1 37 4 [.int .i64 (j : Int),.int .i64 mo,.int .i64 rm,.slice a L.length cap],.blk b2 69 3 (LNd.vals (nth L v.i))]) (fun k=>k ≤ (nth L v.i).es.length ∧ ∀ q,q < k → ¬ QdT (⟨(j : Int),mo,rm,pln L⟩ : Tre) v (nth (nth L v.i).es q) = true) (fun k=>(nth L v.i).es.length - k) 0 ⟨Nat.zero_le _,fun q h=>absurd h (Nat.not_lt_zero q)⟩ aSx (fun w h=>h.ent aEt) (fun k hx9=>?_)
 obtain ⟨hk1,hk3⟩:=hx9
 refine aU9 ?_
 refine sCd rfl (fun h21=>?_) fun h21=>?_
 ·have hk5 : k < (nth L v.i).es.length:=by omega
  refine aU8 ?_
  refine o_p (Qc rfl rfl rfl Q7 (k) (by omega) (by omega) (Rw.some (hs.es hi) (by omega))) rfl ?_
  refine aU ?_
  refine o_q (Qe rfl rfl Zw (((hs.es hi).rdj 0 hk5 rfl))) rfl ?_
  refine aU3 ?_
  refine Qj (L':=[(1,_),(2,_),(3,_),(4,_),(5,_),(12,_),(13,_),(14,_)]) aSx (fun _ h=>h) ?_
  refine Qfl (α:=Bool) [86,87,88,89,90,91,92,93,94,95,96,97,98,99,100,101,102,103,104,105,106,107,108,109,110,111,112,113] (fun x=>[(113,.bool x)]) (fun x=>x = true ↔ (QdT (⟨(j : Int),mo,rm,pln L⟩ : Tre) v (nth (nth L v.i).es k)) = true) ?_ ?_
  ·skip
   refine QL [] QZ ?_
   refine dP 0 ?_
   refine dV 1 rfl (Xk rfl rfl Tryz.underlying241) ?_
   refine dP 2 ?_
   refine dP 3 ?_
   apply Yc 89
   ·exact rfl
   ·intro hg22
    have hs23:=hg22;try simp only [dT] at hs23
    refine dFo 4 89 hg22 ?_
    obtain ⟨kl,bl,ol,hlo1,hlo2,hlo3,hlo4⟩:=hlo.of_pos (by omega)
    refine dQo 5 89 [] hg22 rfl rfl rfl (YA rfl rfl Za aPk rfl) ?_
    refine dPo 6 89 hg22 ?_
    refine dVo 7 89 hg22 rfl rfl rfl (Qc rfl rfl rfl QdC (0) (by omega) (by omega) hlo3) ?_
    refine dQo 8 89 [] hg22 rfl rfl rfl (Qe rfl rfl Zw (hlo4)) ?_
    refine dPo 9 89 hg22 ?_
    refine dQo 10 89 [] hg22 rfl rfl rfl (QE rfl Qc3 rfl (fun w1 h1=>c65 w1 j kl (nth (nth L v.i).es k).key hj (hko _ hlo1).1 (hE9 _ (QC hk5)).1 (hko _ hlo1).2 (hE9 _ (QC hk5)).2)) ?_
    refine dPo 11 89 hg22 ?_
    refine dV 12 rfl (X2 rfl rfl hg22 rfl) ?_
    refine dP 13 ?_
    apply Yc 99
    ·exact rfl
    ·intro hg24
     have hs25:=hg24;try simp only [dT] at hs25
     refine dOf 14 99 hg24 ?_
     refine dOf 15 99 hg24 ?_
     refine dOf 16 99 hg24 ?_
     refine dOf 17 99 hg24 ?_
     refine dOu 18 103 ?_
     refine dOu 19 103 ?_
     refine dOu 20 103 ?_
     refine dOu 21 103 ?_
     refine dOu 22 103 ?_
     refine dOu 23 103 ?_
     refine dOu 24 103 ?_
     refine dOu 25 103 ?_
     refine dOf 26 99 hg24 ?_
     refine dV 27 rfl (X2 rfl rfl hg24 rfl) ?_
     refine dNi ?_
     exact QH true (QuX hlo1 (by show 0 ≤ Xm (j : Int) kl _;omega)) aSx (fun w h=>h.ent aEt)
    intro hg26
    have hs27:=hg26;try simp only [dN] at hs27
    refine dPo 14 99 hg26 ?_
    refine dVo 15 99 hg26 rfl rfl rfl (Xk rfl rfl Tryz.underlying241) ?_
    refine dPo 16 99 hg26 ?_
    refine dPo 17 99 hg26 ?_
    apply Yc 103
    ·exact rfl
    ·intro hg28
     have hs29:=hg28;try simp only [dT] at hs29
     refine dFo 18 103 hg28 ?_
     obtain ⟨kh,bh,oh,hhi1,hhi2,hhi3,hhi4⟩:=hhi.of_pos (by omega)
     refine dQo 19 103 [] hg28 rfl rfl rfl (YA rfl rfl Za aPk rfl) ?_
     refine dPo 20 103 hg28 ?_
     refine dPo 21 103 hg28 ?_
     refine dVo 22 103 hg28 rfl rfl rfl (Qc rfl rfl rfl QdC (0) (by omega) (by omega) hhi3) ?_
     refine dQo 23 103 [] hg28 rfl rfl rfl (Qe rfl rfl Zw (hhi4)) ?_
     refine dQo 24 103 [] hg28 rfl rfl rfl (QE rfl Qc3 rfl (fun w1 h1=>c65 w1 j (nth (nth L v.i).es k).key kh hj (hE9 _ (QC hk5)).1 (hkp _ hhi1).1 (hE9 _ (QC hk5)).2 (hkp _ hhi1).2)) ?_
     refine dPo 25 103 hg28 ?_
     refine dVo 26 99 hg26 rfl rfl rfl (X2 rfl rfl hg28 rfl) ?_
     refine dV 27 rfl (XM rfl rfl hg26 rfl) ?_
     refine dNi ?_
     exact QH (decide (Xm (j : Int) (nth (nth L v.i).es k).key kh ≥ 0)) (Qu8 (t:=(⟨(j : Int),mo,rm,pln L⟩ : Tre)) hlo1 (by show ¬ 0 ≤ Xm (j : Int) kl _;omega) hhi1) aSx (fun w h=>h.ent aEt)
    intro hg30
    have hs31:=hg30;try simp only [dN] at hs31
    refine dOf 18 103 hg30 ?_
    refine dOf 19 103 hg30 ?_
    refine dOf 20 103 hg30 ?_
    refine dOf 21 103 hg30 ?_
    refine dOf 22 103 hg30 ?_
    refine dOf 23 103 hg30 ?_
    refine dOf 24 103 hg30 ?_
    refine dOf 25 103 hg30 ?_
    refine dVo 26 99 hg26 rfl rfl rfl (XM rfl rfl hg30 rfl) ?_
    refine dV 27 rfl (XM rfl rfl hg26 rfl) ?_
    refine dNi ?_
    exact QH false (Qvn hlo1 (by show ¬ 0 ≤ Xm (j : Int) kl _;omega) (hhi.of_no (by omega))) aSx (fun w h=>h.ent aEt)
   intro hg32
   have hs33:=hg32;try simp only [dN] at hs33
   refine dOf 4 89 hg32 ?_
   refine dOf 5 89 hg32 ?_
   refine dOf 6 89 hg32 ?_
   refine dOf 7 89 hg32 ?_
   refine dOf 8 89 hg32 ?_
   refine dOf 9 89 hg32 ?_
   refine dOf 10 89 hg32 ?_
   refine dOf 11 89 hg32 ?_
   refine dV 12 rfl (XM rfl rfl hg32 rfl) ?_
   refine dP 13 ?_
   apply Yc 99
   ·exact rfl
   ·intro hg34
    have hs35:=hg34;skip
    refine dOf 14 99 hg34 ?_
    refine dOf 15 99 hg34 ?_
    refine dOf 16 99 hg34 ?_
    refine dOf 17 99 hg34 ?_
    refine dOu 18 103 ?_
    refine dOu 19 103 ?_
    refine dOu 20 103 ?_
    refine dOu 21 103 ?_
    refine dOu 22 103 ?_
    refine dOu 23 103 ?_
    refine dOu 24 103 ?_
    refine dOu 25 103 ?_
    refine dOf 26 99 hg34 ?_
    refine dV 27 rfl (X2 rfl rfl hg34 rfl) ?_
    refine dNi ?_
    exact QH true (by exfalso;simp_all;done) aSx (fun w h=>h.ent aEt)
   intro hg36
   have hs37:=hg36;skip
   refine dPo 14 99 hg36 ?_
   refine dVo 15 99 hg36 rfl rfl rfl (Xk rfl rfl Tryz.underlying241) ?_
   refine dPo 16 99 hg36 ?_
   refine dPo 17 99 hg36 ?_
   apply Yc 103
   ·exact rfl
   ·intro hg38
    have hs39:=hg38;try simp only [dT] at hs39
    refine dFo 18 103 hg38 ?_
    obtain ⟨kh,bh,oh,hhi1,hhi2,hhi3,hhi4⟩:=hhi.of_pos (by omega)
    refine dQo 19 103 [] hg38 rfl rfl rfl (YA rfl rfl Za aPk rfl) ?_
    refine dPo 20 103 hg38 ?_
    refine dPo 21 103 hg38 ?_
    refine dVo 22 103 hg38 rfl rfl rfl (Qc rfl rfl rfl QdC (0) (by omega) (by omega) hhi3) ?_
    refine dQo 23 103 [] hg38 rfl rfl rfl (Qe rfl rfl Zw (hhi4)) ?_
    refine dQo 24 103 [] hg38 rfl rfl rfl (QE rfl Qc3 rfl (fun w1 h1=>c65 w1 j (nth (nth L v.i).es k).key kh hj (hE9 _ (QC hk5)).1 (hkp _ hhi1).1 (hE9 _ (QC hk5)).2 (hkp _ hhi1).2)) ?_
    refine dPo 25 103 hg38 ?_
    refine dVo 26 99 hg36 rfl rfl rfl (X2 rfl rfl hg38 rfl) ?_
    refine dV 27 rfl (XM rfl rfl hg36 rfl) ?_
    refine dNi ?_
    exact QH (decide (Xm (j : Int) (nth (nth L v.i).es k).key kh ≥ 0)) (Qvi (t:=(⟨(j : Int),mo,rm,pln L⟩ : Tre)) (hlo.of_no (by omega)) hhi1) aSx (fun w h=>h.ent aEt)
   intro hg40
   have hs41:=hg40;try simp only [dN] at hs41
   refine dOf 18 103 hg40 ?_
   refine dOf 19 103 hg40 ?_
   refine dOf 20 103 hg40 ?_
   refine dOf 21 103 hg40 ?_
   refine dOf 22 103 hg40 ?_
   refine dOf 23 103 hg40 ?_
   refine dOf 24 103 hg40 ?_
   refine dOf 25 103 hg40 ?_
   refine dVo 26 99 hg36 rfl rfl rfl (XM rfl rfl hg40 rfl) ?_
   refine dV 27 rfl (XM rfl rfl hg36 rfl) ?_
   refine dNi ?_
   exact QH false (Qva (hlo.of_no (by omega)) (hhi.of_no (by omega))) aSx (fun w h=>h.ent aEt)
  intro x hx
  refine sCd rfl (fun h42=>?_) fun h42=>?_
  ·have hV:=Qp7 (deep:=deep) hgn (QpW hn hk5 (hx.1 h42))
   refine aU6 ?_
   exact Qi (rs:=[.tmp 10,.tmp 11]) rfl (.tmp rfl (.tmp rfl (.nil))) (fun w' h'=>⟨by rw [Qdf (by rw [hV];decide),hV];rfl,h'.below⟩)
  have hz3 : ¬ (QdT (⟨(j : Int),mo,rm,pln L⟩ : Tre) v (nth (nth L v.i).es k)) = true:=fun h9=>by have h8:=hx.2 h9;simp_all
  refine aT5 ?_
  refine aU2 ?_
  exact sBk (k + 1) (by omega) ⟨by omega,fun q hq=>(Nat.lt_or_ge q k).elim (hk3 q) (fun h9=>by obtain rfl : q = k:=(by omega);exact hz3)⟩
 have hon : ¬ Qdt (⟨(j : Int),mo,rm,pln L⟩ : Tre) v = true:=QrC hn (fun q hq=>hk3 q (by have hq9:=hq;simp only [LNd.pl] at hq9;omega))
 refine Qo rfl ?_
 refine aU8 ?_
 refine YS 3 119 122 rfl
  (fun hg43 _=>by
   refine aU4 ?_
   exact oJt 3 122)
  (fun hg45 _=>by
   refine aU2 ?_
   exact oJf 3 122) ?_
 refine aU ?_
 refine sCd rfl (fun h47=>?_) fun h47=>?_
 ·have hV:=Qq3 (deep:=deep) hgn hon (by rw [show ((⟨(j : Int),mo,rm,pln L⟩ : Tre)).ns = pln L from rfl,hn];have hq:=h47;simp only [LNd.pl];omega)
  refine aU6 ?_
  exact Qi (rs:=[.tmp 10,.tmp 11]) rfl (.tmp rfl (.tmp rfl (.nil))) (fun w' h'=>⟨by rw [Qdf (by rw [hV];decide),hV];rfl,h'.below⟩)
 have hV0:=Qr0 (deep:=deep) hgn hon (by rw [show ((⟨(j : Int),mo,rm,pln L⟩ : Tre)).ns = pln L from rfl,hn];have hq:=h47;simp only [LNd.pl];omega)
 refine aU7 ?_
 refine Qj (L':=[(1,_),(2,_),(3,_),(4,_),(5,_),(12,_),(13,_),(15,_)]) aSx (fun _ h=>h) ?_
 refine Qt (α:=Nat) [10,11,15,16,17,18,19,124,125,126,127,128,129,130,131,132,133,134,135,136,137,138,139,140,141,142,143,144,145,146,147,148,149,150,151,152,153,154,155,156,157,158,159,160,161,162,163,164,165,166,167,168,169,170,171,172] (fun k=>[(15,.int .i64 (k : Int))]) (fun _=>HS w [] [.blk b1 37 4 [.int .i64 (j : Int),.int .i64 mo,.int .i64 rm,.slice a L.length cap],.blk b2 69 3 (LNd.vals (nth L v.i))]) (fun k=>k ≤ (nth L v.i).cs.length ∧ (Ym (⟨(j : Int),mo,rm,pln L⟩ : Tre) deep (Qb5 (pln L) f v k)).2 = 0) (fun k=>(nth L v.i).cs.length - k) 0 ⟨Nat.zero_le _,QtR hV0⟩ aSx (fun w h=>h.ent aEt) (fun k hx9=>?_)
 obtain ⟨hk1,hk3⟩:=hx9
 refine aU9 ?_
 refine sCd rfl (fun h48=>?_) fun h48=>?_
 ·have hkl : k < (nth L v.i).cs.length:=by omega
  have hkid:=QdG hT hi0 (k:=k) (by rw [hn];exact hkl)
  rw [hn,Qr] at hkid
  simp only [LNd.pl] at hkid
  have hway2:=Qb3 hway hi0 (k:=k) (by rw [hn];exact hkl) (by rw [hn];simp only [LNd.pl];omega)
  refine aU16 ?_
  refine sCd rfl (fun h49=>?_) fun h49=>?_
  ·have hk0 : 0 < k:=by have hq:=h49;omega
   refine aT5 ?_
   refine o_p (Qc rfl rfl rfl Q7 (k - 1) (by omega) (by omega) (Rw.some (hs.es hi) (by omega))) rfl ?_
   refine aU ?_
   refine o_q (Qe rfl rfl Zw (((hs.es hi).rdj 0 (i:=k - 1) (by omega) rfl))) rfl ?_
   refine o_h (Ql (cs:=[_]) rfl rfl QdC QsO rfl rfl rfl) rfl (fun b50 _=>?_)
   refine Qfe ?_
   refine sCd rfl (fun h51=>?_) fun h51=>?_
   ·have hk9 : k < (nth L v.i).es.length:=by have hq:=h51;omega
    refine Qj (L':=[(1,_),(2,_),(3,_),(4,_),(5,_),(12,_),(13,_),(15,_),(16,_),(17,_)]) aSx (fun _ h=>h) ?_
    refine aU4 ?_
    refine o_p (Qc rfl rfl rfl Q7 (k) (by omega) (by omega) (Rw.some (hs.es hi) (by omega))) rfl ?_
    refine aU ?_
    refine o_q (Qe rfl rfl Zw (((hs.es hi).rdj 0 (i:=k) (by omega) rfl))) rfl ?_
    refine o_h (Ql (cs:=[_]) rfl rfl QdC QsO rfl rfl rfl) rfl (fun b52 _=>?_)
    refine aU3 ?_
    refine QL [] QZ ?_
    refine dLn 0 [] ?_
    refine dFa 1 ?_
    refine dLd 2 [] ?_
    refine dP 3 ?_
    refine dV 4 rfl (Qc rfl rfl rfl QN (k) (by omega) (by omega) (Rw.some (hs.cs hi) (by omega))) ?_
    refine dQ 5 [] rfl (Qe rfl rfl Za (((hs.cs hi).rdj 0 (i:=k) hkl rfl))) ?_
    refine QT (show _ = Value.int .i64 ((Yu (pln L) v k).i : Int) from by rw [Yu,hn];exact congrArg (Value.int .i64) (Int.toNat_of_nonneg (show 0 ≤ (nth L v.i).cs.getD k 0 by omega)).symm) ?_
    refine dP 6 ?_
    refine dP 7 ?_
    try refine dWr ?_
    refine dP 8 ?_
    refine dP 9 ?_
    refine dQ 10 [] rfl (QE rfl Qe8 rfl (fun w1 h1=>ih w1 (Yu (pln L) v k) (v.i :: P) (lv - 1) _ _ _ _ _ _ (hs.later h1) hj hmo hT hB h0 hway2 (by simp only [Yu,List.length_cons];omega) (by simp only [Yu];omega) (QhW hT hi0 (by rw [hn];show k ≤ (nth L v.i).es.length;omega) hko) (QhX hT hi0 hkp) (by show StK w1 _ _ (loK (nth (pln L) v.i).es k v.lo);rw [hn];show StK w1 _ _ (loK (nth L v.i).es k v.lo);first | (rw [QeA hk0];exact StK.new (h1.rd_blk (Mc:=[]) aPk rfl (by simp))) | (rw [QhM hk0];exact hlo.later h1)) (by show StK w1 _ _ (hiK (nth (pln L) v.i).es k v.hi);rw [hn];show StK w1 _ _ (hiK (nth L v.i).es k v.hi);first | (rw [QeH hk9];exact StK.new (h1.rd_blk (Mc:=[]) aPk rfl (by simp))) | (rw [QhU hk9];exact hhi.later h1)) (by simp only [List.length_cons];omega))) ?_
    refine dP 11 ?_
    refine dP 12 ?_
    refine dP 13 ?_
    refine dP 14 ?_
    refine dP 15 ?_
    refine dNi ?_
    refine aU ?_
    refine Qj (L':=[(1,_),(2,_),(3,_),(4,_),(5,_),(12,_),(13,_),(15,_),(18,_),(19,_)]) aSx (fun _ h=>h) ?_
    refine aU4 ?_
    refine sCd rfl (fun h53=>?_) fun h53=>?_
    ·have hbad : Ym (⟨(j : Int),mo,rm,pln L⟩ : Tre) deep (vis (pln L) (f + 1) v) = Ym (⟨(j : Int),mo,rm,pln L⟩ : Tre) deep (vis (pln L) f (Yu (pln L) v k)):=by rw [QaA,hn];obtain ⟨B9,hB9⟩:=QbJ (pln L) f v (show k + 1 ≤ (nth L v.i).pl.cs.length by show k + 1 ≤ (nth L v.i).cs.length;omega);rw [hB9,X7,List.append_assoc,XU,if_pos hk3,XU,if_neg h53]
     refine aU7 ?_
     exact Qi (rs:=[.tmp 10,.tmp 11]) rfl (.tmp rfl (.tmp rfl (.nil))) (fun w' h'=>⟨by rw [hbad];rfl,h'.below⟩)
    have hgood : (Ym (⟨(j : Int),mo,rm,pln L⟩ : Tre) deep (Qb5 (pln L) f v (k + 1))).2 = 0:=by rw [X7,XU,if_pos hk3];have hq:=h53;omega
    refine aT5 ?_
    refine aU2 ?_
    exact sBk (k + 1) (by omega) ⟨by omega,hgood⟩
   have hk9 : ¬ k < (nth L v.i).es.length:=by have hq:=h51;omega
   refine aU2 ?_
   refine Qj (L':=[(1,_),(2,_),(3,_),(4,_),(5,_),(12,_),(13,_),(15,_),(16,_),(17,_)]) aSx (fun _ h=>h) ?_
   refine QL [] QZ ?_
   refine dLn 0 [] ?_
   refine dFa 1 ?_
   refine dLd 2 [] ?_
   refine dP 3 ?_
   refine dV 4 rfl (Qc rfl rfl rfl QN (k) (by omega) (by omega) (Rw.some (hs.cs hi) (by omega))) ?_
   refine dQ 5 [] rfl (Qe rfl rfl Za (((hs.cs hi).rdj 0 (i:=k) hkl rfl))) ?_
   refine QT (show _ = Value.int .i64 ((Yu (pln L) v k).i : Int) from by rw [Yu,hn];exact congrArg (Value.int .i64) (Int.toNat_of_nonneg (show 0 ≤ (nth L v.i).cs.getD k 0 by omega)).symm) ?_
   refine dP 6 ?_
   refine dP 7 ?_
   try refine dWr ?_
   refine dP 8 ?_
   refine dP 9 ?_
   refine dQ 10 [] rfl (QE rfl Qe8 rfl (fun w1 h1=>ih w1 (Yu (pln L) v k) (v.i :: P) (lv - 1) _ _ _ _ _ _ (hs.later h1) hj hmo hT hB h0 hway2 (by simp only [Yu,List.length_cons];omega) (by simp only [Yu];omega) (QhW hT hi0 (by rw [hn];show k ≤ (nth L v.i).es.length;omega) hko) (QhX hT hi0 hkp) (by show StK w1 _ _ (loK (nth (pln L) v.i).es k v.lo);rw [hn];show StK w1 _ _ (loK (nth L v.i).es k v.lo);first | (rw [QeA hk0];exact StK.new (h1.rd_blk (Mc:=[]) aPk rfl (by simp))) | (rw [QhM hk0];exact hlo.later h1)) (by show StK w1 _ _ (hiK (nth (pln L) v.i).es k v.hi);rw [hn];show StK w1 _ _ (hiK (nth L v.i).es k v.hi);first | (rw [QeH hk9];exact StK.new (h1.rd_blk (Mc:=[]) aPk rfl (by simp))) | (rw [QhU hk9];exact hhi.later h1)) (by simp only [List.length_cons];omega))) ?_
   refine dP 11 ?_
   refine dP 12 ?_
   refine dP 13 ?_
   refine dP 14 ?_
   refine dP 15 ?_
   refine dNi ?_
   refine aU5 ?_
   refine sCd rfl (fun h54=>?_) fun h54=>?_
   ·have hbad : Ym (⟨(j : Int),mo,rm,pln L⟩ : Tre) deep (vis (pln L) (f + 1) v) = Ym (⟨(j : Int),mo,rm,pln L⟩ : Tre) deep (vis (pln L) f (Yu (pln L) v k)):=by rw [QaA,hn];obtain ⟨B9,hB9⟩:=QbJ (pln L) f v (show k + 1 ≤ (nth L v.i).pl.cs.length by show k + 1 ≤ (nth L v.i).cs.length;omega);rw [hB9,X7,List.append_assoc,XU,if_pos hk3,XU,if_neg h54]
    refine aU7 ?_
    exact Qi (rs:=[.tmp 10,.tmp 11]) rfl (.tmp rfl (.tmp rfl (.nil))) (fun w' h'=>⟨by rw [hbad];rfl,h'.below⟩)
   have hgood : (Ym (⟨(j : Int),mo,rm,pln L⟩ : Tre) deep (Qb5 (pln L) f v (k + 1))).2 = 0:=by rw [X7,XU,if_pos hk3];have hq:=h54;omega
   refine aT5 ?_
   refine aU2 ?_
   exact sBk (k + 1) (by omega) ⟨by omega,hgood⟩
  have hk0 : ¬ 0 < k:=by have hq:=h49;omega
  refine Qaj ?_
  refine sCd rfl (fun h55=>?_) fun h55=>?_
  ·have hk9 : k < (nth L v.i).es.length:=by have hq:=h55;omega
   refine aU4 ?_
   refine o_p (Qc rfl rfl rfl Q7 (k) (by omega) (by omega) (Rw.some (hs.es hi) (by omega))) rfl ?_
   refine aU ?_
   refine o_q (Qe rfl rfl Zw (((hs.es hi).rdj 0 (i:=k) (by omega) rfl))) rfl ?_
   refine o_h (Ql (cs:=[_]) rfl rfl QdC QsO rfl rfl rfl) rfl (fun b56 _=>?_)
   refine aU3 ?_
   refine Qj (L':=[(1,_),(2,_),(3,_),(4,_),(5,_),(12,_),(13,_),(15,_),(16,_),(17,_)]) aSx (fun _ h=>h) ?_
   refine QL [] QZ ?_
   refine dLn 0 [] ?_
   refine dFa 1 ?_
   refine dLd 2 [] ?_
   refine dP 3 ?_
   refine dV 4 rfl (Qc rfl rfl rfl QN (k) (by omega) (by omega) (Rw.some (hs.cs hi) (by omega))) ?_
   refine dQ 5 [] rfl (Qe rfl rfl Za (((hs.cs hi).rdj 0 (i:=k) hkl rfl))) ?_
   refine QT (show _ = Value.int .i64 ((Yu (pln L) v k).i : Int) from by rw [Yu,hn];exact congrArg (Value.int .i64) (Int.toNat_of_nonneg (show 0 ≤ (nth L v.i).cs.getD k 0 by omega)).symm) ?_
   refine dP 6 ?_
   refine dP 7 ?_
   try refine dWr ?_
   refine dP 8 ?_
   refine dP 9 ?_
   refine dQ 10 [] rfl (QE rfl Qe8 rfl (fun w1 h1=>ih w1 (Yu (pln L) v k) (v.i :: P) (lv - 1) _ _ _ _ _ _ (hs.later h1) hj hmo hT hB h0 hway2 (by simp only [Yu,List.length_cons];omega) (by simp only [Yu];omega) (QhW hT hi0 (by rw [hn];show k ≤ (nth L v.i).es.length;omega) hko) (QhX hT hi0 hkp) (by show StK w1 _ _ (loK (nth (pln L) v.i).es k v.lo);rw [hn];show StK w1 _ _ (loK (nth L v.i).es k v.lo);first | (rw [QeA hk0];exact StK.new (h1.rd_blk (Mc:=[]) aPk rfl (by simp))) | (rw [QhM hk0];exact hlo.later h1)) (by show StK w1 _ _ (hiK (nth (pln L) v.i).es k v.hi);rw [hn];show StK w1 _ _ (hiK (nth L v.i).es k v.hi);first | (rw [QeH hk9];exact StK.new (h1.rd_blk (Mc:=[]) aPk rfl (by simp))) | (rw [QhU hk9];exact hhi.later h1)) (by simp only [List.length_cons];omega))) ?_
   refine dP 11 ?_
   refine dP 12 ?_
   refine dP 13 ?_
   refine dP 14 ?_
   refine dP 15 ?_
   refine dNi ?_
   refine aU5 ?_
   refine sCd rfl (fun h57=>?_) fun h57=>?_
   ·have hbad : Ym (⟨(j : Int),mo,rm,pln L⟩ : Tre) deep (vis (pln L) (f + 1) v) = Ym (⟨(j : Int),mo,rm,pln L⟩ : Tre) deep (vis (pln L) f (Yu (pln L) v k)):=by rw [QaA,hn];obtain ⟨B9,hB9⟩:=QbJ (pln L) f v (show k + 1 ≤ (nth L v.i).pl.cs.length by show k + 1 ≤ (nth L v.i).cs.length;omega);rw [hB9,X7,List.append_assoc,XU,if_pos hk3,XU,if_neg h57]
    refine aU7 ?_
    exact Qi (rs:=[.tmp 10,.tmp 11]) rfl (.tmp rfl (.tmp rfl (.nil))) (fun w' h'=>⟨by rw [hbad];rfl,h'.below⟩)
   have hgood : (Ym (⟨(j : Int),mo,rm,pln L⟩ : Tre) deep (Qb5 (pln L) f v (k + 1))).2 = 0:=by rw [X7,XU,if_pos hk3];have hq:=h57;omega
   refine aT5 ?_
   refine aU2 ?_
   exact sBk (k + 1) (by omega) ⟨by omega,hgood⟩
  have hk9 : ¬ k < (nth L v.i).es.length:=by have hq:=h55;omega
  refine aU2 ?_
  refine QL [] QZ ?_
  refine dLn 0 [] ?_
  refine dFa 1 ?_
  refine dLd 2 [] ?_
  refine dP 3 ?_
  refine dV 4 rfl (Qc rfl rfl rfl QN (k) (by omega) (by omega) (Rw.some (hs.cs hi) (by omega))) ?_
  refine dQ 5 [] rfl (Qe rfl rfl Za (((hs.cs hi).rdj 0 (i:=k) hkl rfl))) ?_
  refine QT (show _ = Value.int .i64 ((Yu (pln L) v k).i : Int) from by rw [Yu,hn];exact congrArg (Value.int .i64) (Int.toNat_of_nonneg (show 0 ≤ (nth L v.i).cs.getD k 0 by omega)).symm) ?_
  refine dP 6 ?_
  refine dP 7 ?_
  try refine dWr ?_
  refine dP 8 ?_
  refine dP 9 ?_
  refine dQ 10 [] rfl (QE rfl Qe8 rfl (fun w1 h1=>ih w1 (Yu (pln L) v k) (v.i :: P) (lv - 1) _ _ _ _ _ _ (hs.later h1) hj hmo hT hB h0 hway2 (by simp only [Yu,List.length_cons];omega) (by simp only [Yu];omega) (QhW hT hi0 (by rw [hn];show k ≤ (nth L v.i).es.length;omega) hko) (QhX hT hi0 hkp) (by show StK w1 _ _ (loK (nth (pln L) v.i).es k v.lo);rw [hn];show StK w1 _ _ (loK (nth L v.i).es k v.lo);first | (rw [QeA hk0];exact StK.new (h1.rd_blk (Mc:=[]) aPk rfl (by simp))) | (rw [QhM hk0];exact hlo.later h1)) (by show StK w1 _ _ (hiK (nth (pln L) v.i).es k v.hi);rw [hn];show StK w1 _ _ (hiK (nth L v.i).es k v.hi);first | (rw [QeH hk9];exact StK.new (h1.rd_blk (Mc:=[]) aPk rfl (by simp))) | (rw [QhU hk9];exact hhi.later h1)) (by simp only [List.length_cons];omega))) ?_
  refine dP 11 ?_
  refine dP 12 ?_
  refine dP 13 ?_
  refine dP 14 ?_
  refine dP 15 ?_
  refine dNi ?_
  refine aU ?_
  refine Qj (L':=[(1,_),(2,_),(3,_),(4,_),(5,_),(12,_),(13,_),(15,_),(18,_),(19,_)]) aSx (fun _ h=>h) ?_
  refine aU4 ?_
  refine sCd rfl (fun h58=>?_) fun h58=>?_
  ·have hbad : Ym (⟨(j : Int),mo,rm,pln L⟩ : Tre) deep (vis (pln L) (f + 1) v) = Ym (⟨(j : Int),mo,rm,pln L⟩ : Tre) deep (vis (pln L) f (Yu (pln L) v k)):=by rw [QaA,hn];obtain ⟨B9,hB9⟩:=QbJ (pln L) f v (show k + 1 ≤ (nth L v.i).pl.cs.length by show k + 1 ≤ (nth L v.i).cs.length;omega);rw [hB9,X7,List.append_assoc,XU,if_pos hk3,XU,if_neg h58]
   refine aU7 ?_
   exact Qi (rs:=[.tmp 10,.tmp 11]) rfl (.tmp rfl (.tmp rfl (.nil))) (fun w' h'=>⟨by rw [hbad];rfl,h'.below⟩)
  have hgood : (Ym (⟨(j : Int),mo,rm,pln L⟩ : Tre) deep (Qb5 (pln L) f v (k + 1))).2 = 0:=by rw [X7,XU,if_pos hk3];have hq:=h58;omega
  refine aT5 ?_
  refine aU2 ?_
  exact sBk (k + 1) (by omega) ⟨by omega,hgood⟩
 obtain rfl : k = (nth L v.i).cs.length:=by omega
 have hfin : Ym (⟨(j : Int),mo,rm,pln L⟩ : Tre) deep (vis (pln L) (f + 1) v) = (0,0):=by rw [QaA,hn];exact Qkf hk3
 refine Qo rfl ?_
 refine aU5 ?_
 exact Qi (rs:=[.tmp 10,.tmp 11]) rfl (.tmp rfl (.tmp rfl (.nil))) (fun w' h'=>⟨by rw [hfin];rfl,h'.below⟩)
theorem c138 (j : Nat) (mo rm : Int) (a : Option Addr) (cap : Nat) (L : List LNd) (deep : Int) : ∀ f,PlC j mo rm a cap L deep f
  | 0=>fun w v P lv pa qa pn pc qn qc hs hj hmo hT hB h0 hway hd hlv hko hkp hlo hhi hf=>by
    have h1:=ZY hT (by rw [Qr];exact h0) hway;rw [Qr,List.length_cons] at h1;omega
  | f + 1=>fun w v P lv pa qa pn pc qn qc hs hj hmo hT hB h0 hway hd hlv hko hkp hlo hhi hf=>Qvq w j mo rm a cap L deep v P lv pa qa pn pc qn qc f hs hj hmo hT hB h0 hway hd hlv hko hkp hlo hhi hf (c138 j mo rm a cap L deep f)
end Go.Proofs
namespace Gx
open Go Go.RowKit
theorem QtG {t : Tre} (h : ¬ Qp t.co = 0) : YX t = (0,Qp t.co):=by rw [QdZ (by rw [if_neg h];exact h),if_neg h]
theorem Qtq {t : Tre} (h : Qp t.co = 0) (h2 : ¬ XO t.mo t.rm = 0) : YX t = (0,XO t.mo t.rm):=by rw [QdZ (by rw [if_pos h];exact h2),if_pos h]
theorem Qtp {t : Tre} (h : Qp t.co = 0) (h2 : XO t.mo t.rm = 0) (h3 : ¬ 0 < t.ns.length) : YX t = (0,10):=by
 have e : ZM t.ns.length = 10:=if_neg h3;rw [Qfc (by rw [if_pos h];exact h2) (by rw [e];decide),e]
theorem Qtj {t : Tre} (h : Qp t.co = 0) (h2 : XO t.mo t.rm = 0) (h3 : 0 < t.ns.length) (h4 : ¬ t.ns.length ≤ 120) : YX t = (0,8):=by
 have e : ZM t.ns.length = 8:=by rw [ZM,if_pos h3,if_neg h4]
 rw [Qfc (by rw [if_pos h];exact h2) (by rw [e];decide),e]
theorem QsP {t : Tre} (h : Qp t.co = 0) (h2 : XO t.mo t.rm = 0) (h3 : 0 < t.ns.length) (h4 : t.ns.length ≤ 120) : YX t = if (Yy t t.ns.length 0 []).2 = 0 then Qcc t else Yy t t.ns.length 0 []:=Qgi (by rw [if_pos h];exact h2) (by rw [ZM,if_pos h3,if_pos h4])
theorem QiW (n : Nat) : Xw [Value.bool false] n = QY n []:=by
 rw [Qc5];apply List.ext_getElem?;intro i
 by_cases hi : i < n
 ·rw [Qan hi,List.getElem?_replicate,if_pos hi];rfl
 ·rw [List.getElem?_eq_none (by rw [List.length_replicate];omega),List.getElem?_eq_none (by rw [Qat];omega)]
theorem Qiz {vs : List Vis} {k : Nat} : ((k : Nat) : Int) ∈ mkS vs [] ↔ k ∈ vs.map Vis.i:=by
 rw [QrF,List.mem_map];constructor
 ·rintro ⟨v,hv,h⟩;exact ⟨v,hv,by omega⟩
 ·rintro ⟨v,hv,h⟩;exact ⟨v,hv,by omega⟩
theorem Qiu (ns : List Nd) : ∀ (f i : Nat),0 ≤ ZA ns f i ∧ ZA ns f i ≤ f
 | 0,i=>by rw [ZA];omega
 | f + 1,i=>by
  rw [ZA];split
  ·omega
  ·have:=Qiu ns f ((nth ns i).cs.getD 0 0).toNat;omega
theorem QoU {ns : List Nd} {f i : Nat} (h : (nth ns i).cs.length = 0) : ZA ns f i = 0:=by
 cases f with
 | zero=>rfl
 | succ f=>rw [ZA,if_pos h]
theorem Qmj {ns : List Nd} {f i : Nat} (h0 : 0 < f) (h : ¬ (nth ns i).cs.length = 0) : ZA ns f i = ZA ns (f - 1) ((nth ns i).cs.getD 0 0).toNat + 1:=by
 obtain ⟨g,rfl⟩ : ∃ g,f = g + 1:=⟨f - 1,by omega⟩;rw [ZA,if_neg h];rfl
end Gx
namespace Go.Proofs
open Go Go.RowKit Gx
attribute [local irreducible] Go.Calls Gx.S Gx.O Gx.D Gx.OpP Gx.OpQ Gx.OpH
set_option maxRecDepth 20000
instance : TFn Tryz.prog 96:=⟨by kernel_rfl⟩
instance : TFn Tryz.prog 97:=⟨by kernel_rfl⟩
theorem Quq : Xl Tryz.prog 136 = true:=by kernel_rfl
instance : TFn Tryz.prog 71:=⟨by kernel_rfl⟩
theorem c71 (w : World) (co mo rm : Int) (a : Option Addr) (cap : Nat) (L : List LNd) (hs : Nt w [] a L) (hB : Bd (pln L)) (hkl : ∀ i,i < L.length → ∀ x ∈ (nth L i).es,x.key.length ≤ 1000000) : Calls Tryz.prog 71 #[.agg #[.int .i64 co,.int .i64 mo,.int .i64 rm,.slice a L.length cap]] w fun en w'=>en = .returned (.tuple #[.int .i64 (YX (⟨co,mo,rm,pln L⟩ : Tre)).1,.int .i64 (YX (⟨co,mo,rm,pln L⟩ : Tre)).2]) ∧ Below w.heap.size w w':=by
 have hle:=hB.len
 rw [Qr] at hle
 have hes9 : ∀ i,i < L.length → (nth L i).es.length ≤ 1000:=fun i hi=>by have h9:=hB.es i (by rw [Qr];exact hi);rw [Yx hi] at h9;exact h9
 have hcs9 : ∀ i,i < L.length → (nth L i).cs.length ≤ 1000:=fun i hi=>by have h9:=hB.cs i (by rw [Qr];exact hi);rw [Yx hi] at h9;exact h9
 refine eN1 Tryz.func71 Tryz.ntmps71 ?_
 refine aU2 ?_
 refine oBx fun b1 _=>?_
 refine aU8 ?_
 refine oCq rfl (fun w1 h1=>c96 w1 _) ?_
 refine aU7 ?_
 refine sCd rfl (fun h2=>?_) fun h2=>?_
 ·have hz:=QtG (t:=(⟨co,mo,rm,pln L⟩ : Tre)) h2
  refine aU6 ?_
  exact Qi (rs:=[.tmp 2,.tmp 3]) rfl (.tmp rfl (.tmp rfl (.nil))) (fun w' h'=>⟨by rw [hz];rfl,h'.below⟩)
 have hc0 : Qp co = 0:=by have hq:=h2;omega
 obtain ⟨j,rfl,hj⟩:=QcI hc0
 refine aU8 ?_
 refine oCq rfl (fun w1 h1=>c97 w1 _ _) ?_
 refine aU7 ?_
 refine sCd rfl (fun h3=>?_) fun h3=>?_
 ·have hz:=Qtq (t:=(⟨(j : Int),mo,rm,pln L⟩ : Tre)) hc0 h3
  refine aU6 ?_
  exact Qi (rs:=[.tmp 2,.tmp 3]) rfl (.tmp rfl (.tmp rfl (.nil))) (fun w' h'=>⟨by rw [hz];rfl,h'.below⟩)
 have hc1 : XO mo rm = 0:=by have hq:=h3;omega
 have hsz2 : (3 ≤ mo ∧ mo ≤ 8) ∧ (mo / 2 ≤ rm ∧ rm ≤ mo):=Qtv hc1
 have hTL : ((⟨(j : Int),mo,rm,pln L⟩ : Tre)).ns.length = L.length:=Qr L
 refine aU9 ?_
 refine sCd rfl (fun h4=>?_) fun h4=>?_
 ·have hz:=Qtp (t:=(⟨(j : Int),mo,rm,pln L⟩ : Tre)) hc0 hc1 (by rw [hTL];have hq:=h4;omega)
  refine aU5 ?_
  exact Qi (rs:=[.tmp 2,.tmp 3]) rfl (.tmp rfl (.tmp rfl (.nil))) (fun w' h'=>⟨by rw [hz];rfl,h'.below⟩)
 have h00 : 0 < L.length:=by have hq:=h4;omega
 refine aU9 ?_
 refine sCd rfl (fun h5=>?_) fun h5=>?_
 ·have hz:=Qtj (t:=(⟨(j : Int),mo,rm,pln L⟩ : Tre)) hc0 hc1 (by rw [hTL];exact h00) (by rw [hTL];have hq:=h5;omega)
  refine aU5 ?_
  exact Qi (rs:=[.tmp 2,.tmp 3]) rfl (.tmp rfl (.tmp rfl (.nil))) (fun w' h'=>⟨by rw [hz];rfl,h'.below⟩)
 have h120 : L.length ≤ 120:=by have hq:=h5;omega
 have hz:=QsP (t:=(⟨(j : Int),mo,rm,pln L⟩ : Tre)) hc0 hc1 (by rw [hTL];exact h00) (by rw [hTL];exact h120)
 rw [hTL] at hz
 refine aU6 ?_
 refine o_h (Qkc (n:=L.length) rfl rfl rfl QdS zr_4 (by omega) (by omega)) rfl (fun b6 _=>?_)
 refine Ye (fun w h=>(show HS _ _ [.blk b6 4 L.length (QY L.length []),.blk b1 37 4 [.int .i64 (j : Int),.int .i64 mo,.int .i64 rm,.slice a L.length cap]] w from by have h9:=h;rw [Nat.mul_one,QiW] at h9;exact h9.ent aEt)) ?_
 refine aU4 ?_
 refine Qj (L':=[(1,_),(2,_),(3,_),(6,_)]) aSx (fun _ h=>h) ?_
 refine aU4 ?_
 refine Qt (α:=Nat × List Int) [2,3,7,8,39,40,41,42,43,44,45,46,47,48,49,50,51,52,53] (fun x=>[(7,.int .i64 (x.1 : Int))]) (fun x=>HS w [] [.blk b6 4 L.length (QY L.length x.2),.blk b1 37 4 [.int .i64 (j : Int),.int .i64 mo,.int .i64 rm,.slice a L.length cap]]) (fun x=>x.1 ≤ L.length ∧ (Yy (⟨(j : Int),mo,rm,pln L⟩ : Tre) L.length 0 []) = Yy (⟨(j : Int),mo,rm,pln L⟩ : Tre) (L.length - x.1) x.1 x.2) (fun x=>L.length - x.1) (0,[]) ⟨Nat.zero_le _,rfl⟩ aSx (fun w h=>h.ent aEt) (fun ⟨k,S9⟩ hx=>?_)
 dsimp only
 obtain ⟨hk1,hk3⟩:=hx
 simp only [] at hk1 hk3
 refine aU9 ?_
 refine sCd rfl (fun h7=>?_) fun h7=>?_
 ·have hkl9 : k < L.length:=by omega
  have hst:=QjM (t:=(⟨(j : Int),mo,rm,pln L⟩ : Tre)) (k:=k) (seen:=S9) (by rw [hTL];exact hkl9)
  rw [hTL] at hst
  refine aU8 ?_
  refine o_h (Xg (Cs:=[.blk b6 4 L.length (QY L.length S9)]) rfl Quq rfl aPs (fun w1 h1 hf=>c136 w1 j mo rm a cap L k b6 L.length L.length S9 hf ((hs.keep h1).mono (Qbu aPs)) hj hkl9 (by omega) (hes9 _ hkl9) (hcs9 _ hkl9) (hkl _ hkl9))) rfl (fun _ _=>?_)
  refine aU7 ?_
  refine sCd rfl (fun h8=>?_) fun h8=>?_
  ·have hz3 : (Yy (⟨(j : Int),mo,rm,pln L⟩ : Tre) L.length 0 []) = ((k : Int),(Yg (⟨(j : Int),mo,rm,pln L⟩ : Tre) k S9).1):=by rw [hk3,hst,if_neg h8]
   rw [hz3,if_neg (show ¬ (((k : Int),(Yg (⟨(j : Int),mo,rm,pln L⟩ : Tre) k S9).1) : Int × Int).2 = 0 from h8)] at hz
   refine aU7 ?_
   exact Qi (rs:=[.tmp 2,.tmp 3]) rfl (.tmp rfl (.tmp rfl (.nil))) (fun w' h'=>⟨by rw [hz];rfl,h'.below⟩)
  have hz3 : Yy (⟨(j : Int),mo,rm,pln L⟩ : Tre) (L.length - k) k S9 = Yy (⟨(j : Int),mo,rm,pln L⟩ : Tre) (L.length - (k + 1)) (k + 1) (Yg (⟨(j : Int),mo,rm,pln L⟩ : Tre) k S9).2:=by rw [hst,if_pos (by have hq:=h8;omega)]
  refine aT5 ?_
  refine aU2 ?_
  exact sBk (k + 1,(Yg (⟨(j : Int),mo,rm,pln L⟩ : Tre) k S9).2) (by (try simp only []);omega) ⟨by (try simp only []);omega,by simp only [];rw [hk3,hz3]⟩
 have hnd : (Yy (⟨(j : Int),mo,rm,pln L⟩ : Tre) L.length 0 []) = (0,0):=by rw [hk3,show L.length - k = 0 by omega];rfl
 rw [hnd,if_pos rfl] at hz
 have hT : TOk (j : Int) (pln L):=QnJ (t:=(⟨(j : Int),mo,rm,pln L⟩ : Tre)) (by show (Yy (⟨(j : Int),mo,rm,pln L⟩ : Tre) (pln L).length 0 []).2 = 0;rw [Qr,hnd])
 have hvis : vis (pln L) L.length Qgk = Qb8 (pln L):=by unfold Qb8;rw [Qr]
 refine Qo rfl ?_
 refine aU5 ?_
 refine o_h (Qkc (n:=L.length) rfl rfl rfl QdS zr_4 (by omega) (by omega)) rfl (fun b9 _=>?_)
 refine Ye (fun w h=>(show HS _ _ [.blk b9 4 L.length (QY L.length []),.blk b1 37 4 [.int .i64 (j : Int),.int .i64 mo,.int .i64 rm,.slice a L.length cap]] w from by have h9:=h;rw [Nat.mul_one,QiW] at h9;exact h9.ent aEt)) ?_
 refine aU6 ?_
 refine o_h (Xg (Cs:=[.blk b9 4 L.length (QY L.length [])]) rfl Qoy rfl aPs (fun w1 h1 hf=>c137 j mo rm a cap L b9 L.length L.length L.length w1 [] Qgk [] hf ((hs.keep h1).mono (Qbu aPs)) hT hB h00 rfl (by simp))) rfl (fun _ _=>?_)
 refine aU7 ?_
 refine Qj (L':=[(1,_),(6,_),(7,_),(9,_),(10,_)]) aSx (fun _ h=>h) ?_
 refine Qt (α:=Nat) [2,3,10,61,62,63,64,65,66,67,68,69,70,71,72,73,74,75,76,77,78,79,80,81] (fun k=>[(10,.int .i64 (k : Int))]) (fun _=>HS w [] [.blk b9 4 L.length (QY L.length (mkS (vis (pln L) L.length Qgk) [])),.blk b1 37 4 [.int .i64 (j : Int),.int .i64 mo,.int .i64 rm,.slice a L.length cap]]) (fun k=>k ≤ L.length ∧ QdM (pln L) ((Qb8 (pln L)).map Vis.i) L.length 0 = QdM (pln L) ((Qb8 (pln L)).map Vis.i) (L.length - k) k) (fun k=>L.length - k) 0 ⟨Nat.zero_le _,rfl⟩ aSx (fun w h=>h.ent aEt) (fun k hx=>?_)
 obtain ⟨hk1,hk2⟩:=hx
 refine aU9 ?_
 refine sCd rfl (fun h10=>?_) fun h10=>?_
 ·have hkl9 : k < L.length:=by omega
  have hst:=Qnd (ns:=pln L) (below:=((Qb8 (pln L)).map Vis.i)) (k:=k) (by rw [Qr];exact hkl9)
  rw [Qr,Yx hkl9] at hst
  refine aU8 ?_
  refine o_p (Qc rfl rfl rfl Yn (k) (by omega) (by omega) (Rw.some hs.1 (by omega))) rfl ?_
  refine aU ?_
  refine o_q (Qe rfl rfl Qkx ((hs.1.rdj 0 hkl9 rfl))) rfl ?_
  refine aU ?_
  refine YS 6 74 80 rfl
   (fun hg11 _=>by
    refine aU5 ?_
    refine o_p (Qc rfl rfl rfl QdS (k) (by omega) (by omega) rfl) rfl ?_
    refine Qk (show _ = Value.pointer (some ⟨b9,k,none⟩) from by rw [Nat.zero_add,Nat.mul_one]) ?_
    refine aU ?_
    refine o_q (Xi rfl rfl Qkx (fun w h=>h.rd_blk (Mc:=[]) aPk (Qan hkl9) (by simp))) rfl ?_
    refine aU2 ?_
    exact oJt 6 80)
   (fun hg13 _=>by
    refine aU5 ?_
    exact oJf 6 80) ?_
  refine aU ?_
  refine sCd rfl (fun h15=>?_) fun h15=>?_
  ·have hz7 : (nth L k).pl.us = true ∧ k ∉ ((Qb8 (pln L)).map Vis.i):=by have hq:=h15;rw [← Qiz,← hvis];simp only [LNd.pl];simpa using hq
   have hz8:=hz.trans (QjT (t:=(⟨(j : Int),mo,rm,pln L⟩ : Tre)) (i:=k) (show QdM (pln L) _ (pln L).length 0 = some k from by rw [Qr,hk2,hst,if_pos hz7]))
   refine aU6 ?_
   exact Qi (rs:=[.tmp 2,.tmp 3]) rfl (.tmp rfl (.tmp rfl (.nil))) (fun w' h'=>⟨by rw [hz8];rfl,h'.below⟩)
  have hz7 : ¬ ((nth L k).pl.us = true ∧ k ∉ ((Qb8 (pln L)).map Vis.i)):=by have hq:=h15;rw [← Qiz,← hvis];simp only [LNd.pl];intro h9;exact hq.elim (fun h8=>by rw [h8] at h9;cases h9.1) (fun h8=>h9.2 h8)
  refine aT5 ?_
  refine aU2 ?_
  exact sBk (k + 1) (by omega) ⟨by omega,by rw [hk2,hst,if_neg hz7]⟩
 have hnone : QdM (pln L) ((Qb8 (pln L)).map Vis.i) L.length 0 = none:=by rw [hk2,show L.length - k = 0 by omega];rfl
 have hz8:=hz.trans (QjW (t:=(⟨(j : Int),mo,rm,pln L⟩ : Tre)) (show QdM (pln L) _ (pln L).length 0 = none from by rw [Qr];exact hnone))
 refine Qo rfl ?_
 refine Qaj ?_
 refine Qt (α:=Nat × Nat × List Nat) [11,12,82,83,84,85,86,87,88,89,90,91,92,93,94,95,96,97,98,99] (fun y=>[(11,.int .i64 (y.1 : Int)),(12,.int .i64 (y.2.1 : Int))]) (fun _=>HS w [] [.blk b1 37 4 [.int .i64 (j : Int),.int .i64 mo,.int .i64 rm,.slice a L.length cap]]) (fun y=>Gx.Way (pln L) (y.2.1 :: y.2.2) ∧ y.2.2.length = y.1 ∧ ZA (pln L) L.length 0 = (y.1 : Int) + ZA (pln L) (L.length - y.1) y.2.1) (fun y=>L.length - y.1) (0,0,[]) ⟨rfl,rfl,by simp⟩ aSx (fun w h=>h.ent aEt) (fun ⟨d,i,P⟩ hx=>?_)
 dsimp only
 obtain ⟨hway,hpl,hdp⟩:=hx
 simp only [] at hway hpl hdp
 have hil0:=Qbz hT (by rw [Qr];exact h00) hway i (List.mem_cons_self ..)
 have hil : i < L.length:=by rw [Qr] at hil0;exact hil0
 have hnI:=Yx hil
 have hwl:=ZY hT (by rw [Qr];exact h00) hway
 rw [Qr,List.length_cons] at hwl
 have hcl:=hcs9 i hil
 refine aU6 ?_
 refine o_p (Qc rfl rfl rfl Yn (i) (by omega) (by omega) (Rw.some hs.1 (by omega))) rfl ?_
 refine aU ?_
 refine o_q (Qe rfl rfl Qbl ((hs.1.rdj 2 hil rfl))) rfl ?_
 refine aU3 ?_
 refine sCd rfl (fun h16=>?_) fun h16=>?_
 ·have hcl0 : 0 < (nth L i).cs.length:=by have hq:=h16;omega
  have hkid:=QdG hT (by rw [Qr];exact hil) (i:=i) (k:=0) (by rw [hnI];exact hcl0)
  rw [hnI,Qr] at hkid
  simp only [LNd.pl] at hkid
  have hway2:=Qb3 hway (by rw [Qr];exact hil) (k:=0) (by rw [hnI];exact hcl0) (by rw [hnI];simp only [LNd.pl];omega)
  rw [hnI] at hway2
  have hwl2:=ZY hT (by rw [Qr];exact h00) hway2
  rw [Qr,List.length_cons,List.length_cons] at hwl2
  have hdm:=Qmj (ns:=pln L) (f:=L.length - d) (i:=i) (by omega) (by rw [hnI];show ¬ (nth L i).cs.length = 0;omega)
  rw [hnI] at hdm
  refine aU7 ?_
  refine o_p (Qc rfl rfl rfl Yn (i) (by omega) (by omega) (Rw.some hs.1 (by omega))) rfl ?_
  refine aU ?_
  refine o_q (Qe rfl rfl Qbl ((hs.1.rdj 2 hil rfl))) rfl ?_
  refine o_p (Qc rfl rfl rfl QN (0) (by omega) (by omega) (Rw.some (hs.cs hil) (by omega))) rfl ?_
  refine o_q (Qe rfl rfl Za (((hs.cs hil).rdj 0 (i:=0) (by omega) rfl))) rfl ?_
  refine Qk (show _ = Value.int .i64 (((nth L i).cs.getD 0 0).toNat : Int) from congrArg (Value.int .i64) (Int.toNat_of_nonneg (show 0 ≤ (nth L i).cs.getD 0 0 by omega)).symm) ?_
  refine aT6 ?_
  refine aU2 ?_
  exact sBk (d + 1,((nth L i).cs.getD 0 0).toNat,i :: P) (by (try simp only []);omega) ⟨hway2,by simp [hpl],by simp only [] at *;rw [show L.length - (d + 1) = L.length - d - 1 by omega];have h9 : (nth L i).pl.cs = (nth L i).cs:=rfl;rw [h9] at hdm;omega⟩
 have hde:=QoU (ns:=pln L) (f:=L.length - d) (i:=i) (by rw [hnI];show (nth L i).cs.length = 0;have hq:=h16;omega)
 rw [hde,Int.add_zero] at hdp
 have hdl:=Qiu (pln L) L.length 0
 refine Qo rfl ?_
 refine aU4 ?_
 refine oCq rfl (fun w1 h1=>c138 j mo rm a cap L (d : Int) L.length w1 Qgk [] (d : Int) none none 0 0 0 0 (hs.later h1) hj (by omega) hT hB h00 rfl rfl (by show (d : Int) = d + 1 - 1;omega) (fun _ h=>by cases h) (fun _ h=>by cases h) rfl rfl (by simp)) ?_
 refine aU5 ?_
 exact Qi (rs:=[.tmp 2,.tmp 3]) rfl (.tmp rfl (.tmp rfl (.nil))) (fun w' h'=>⟨by rw [hz8,show ZA ((⟨(j : Int),mo,rm,pln L⟩ : Tre)).ns ((⟨(j : Int),mo,rm,pln L⟩ : Tre)).ns.length 0 = (d : Int) from by rw [hTL];exact hdp,show Qb8 ((⟨(j : Int),mo,rm,pln L⟩ : Tre)).ns = vis (pln L) L.length Qgk from hvis.symm];rfl,h'.below⟩)
end Go.Proofs
