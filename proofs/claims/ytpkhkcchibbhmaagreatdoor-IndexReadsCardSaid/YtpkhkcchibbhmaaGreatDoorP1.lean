/- Contracts of the program's functions, proved by walking them with the rules of the Gx texts; without conditions beyond those that each contract names. -/
import Derived.WalkKit
import Derived.Deep.Draws
import Derived.TacticsIn
import Derived.OrdersIn
import Derived.RangeFuncLeaves
import Derived.Lib.Strings
import Derived.Laws.BytesArg
import Derived.Laws.IdiomStrings
import Derived.Deep.Quiet
import Derived.ProofKit
import Derived.OpenShut
import Derived.Laws.StructEq
import Derived.ChangeKeysEq
import Derived.Laws.Externs
import Derived.Lib.Overlaps
import Derived.Carry
import Derived.Laws.Small
import Derived.Lib.Bytealg
import Derived.Lib.Builder
import Derived.Laws.Pointers
import Derived.RangeFuncRecord
import Derived.Test.YtpkhkcchibbhmaaGreatDoorProg
import Derived.KernelRfl
import Derived.SizedLaws
import Derived.ChangeSame
import Derived.Handed
import Derived.Test.YtpkhkcchibbhmaaGreatDoorTie
import Derived.Test.YtpkhkcchibbhmaaGreatDoorCards
import Derived.SevenTiedAt
import Derived.LaidMore
import Derived.Lay
import Derived.Stop.Joined
import Derived.Test.YtpkhkcchibbhmaaGreatDoorP0
set_option linter.unusedSimpArgs false
set_option maxHeartbeats 1000000
set_option linter.unusedVariables false
set_option linter.unusedSectionVars false
set_option linter.unnecessarySimpa false
namespace Gx
open Go Go.RowKit
structure TOk (co : Int) (ns : List Nd) : Prop where
 kid : ∀ i,i < ns.length → ∀ c ∈ (nth ns i).cs,(1 ≤ c ∧ c ≤ (ns.length : Int) - 1) ∧ (nth ns c.toNat).us = true
 once : (ns.flatMap Nd.cs).Nodup
 shape : ∀ i,i < ns.length → (nth ns i).cs.length = 0 ∨ (nth ns i).cs.length = (nth ns i).es.length + 1
 free : ∀ i,i < ns.length → (nth ns i).us = false → (0 < i ∧ i + 1 < ns.length) ∧ (nth ns i).es = [] ∧ (nth ns i).cs = []
 asc : ∀ i,i < ns.length → Asc co (nth ns i).es
 ents : ∀ i,i < ns.length → ∀ x ∈ (nth ns i).es,Y0 co x = 0
theorem QjQ {ns : List Nd} : ∀ {cs seen : List Int},(X7 ns cs seen).1 = 0 → (∀ c ∈ cs,(1 ≤ c ∧ c ≤ (ns.length : Int) - 1) ∧ (nth ns c.toNat).us = true) ∧ (X7 ns cs seen).2 = cs.reverse ++ seen ∧ (seen.Nodup → (cs.reverse ++ seen).Nodup)
 | [],seen,_=>⟨fun c hc=>(nomatch hc),rfl,fun h=>h⟩
 | c :: cs,seen,h=>by
  unfold X7 at h ⊢;split at h
  ·rename_i h1;split at h
   ·cases h
   ·rename_i h2;rw [if_pos h1,if_neg h2];obtain ⟨h3,h4,h5⟩:=QjQ h
    grind
  ·cases h
theorem Qmz {t : Tre} {i : Nat} {seen : List Int} (h : (XS t i seen).1 = 0) :
  ((nth t.ns i).us = true → (∀ c ∈ (nth t.ns i).cs,(1 ≤ c ∧ c ≤ (t.ns.length : Int) - 1) ∧ (nth t.ns c.toNat).us = true) ∧ ((nth t.ns i).es.length : Int) ≤ YU t.mo t.rm i ∧ ((nth t.ns i).cs.length = 0 ∨ (nth t.ns i).cs.length = (nth t.ns i).es.length + 1) ∧ ZA t.co (nth t.ns i).es = 0 ∧ Qbd t.co (nth t.ns i).es = 0) ∧
  ((nth t.ns i).us = false → (0 < i ∧ i + 1 < t.ns.length) ∧ (nth t.ns i).es = [] ∧ (nth t.ns i).cs = []) ∧
  (XS t i seen).2 = (nth t.ns i).cs.reverse ++ seen ∧ (seen.Nodup → ((nth t.ns i).cs.reverse ++ seen).Nodup):=by
 unfold XS at h ⊢;simp only [] at h ⊢;split at h
 ·rename_i hu;split at h
  ·rename_i h1;split at h
   ·rename_i h2;split at h
    ·rename_i h3;split at h
     ·rename_i h4;obtain ⟨k1,k2,k3⟩:=QjQ h4;rw [if_pos hu,if_pos h1,if_pos h2,if_pos h3,if_pos h4];exact ⟨fun _=>⟨k1,h1,h2,h3,h⟩,fun hf=>absurd (hu.symm.trans hf) (by decide),k2,k3⟩
     ·rename_i h4;exact absurd h h4
    ·rename_i h3;exact absurd h h3
   ·cases h
  ·cases h
 ·rename_i hu;split at h
  ·rename_i h1;obtain ⟨h2,h3⟩:=h1;have e1 : (nth t.ns i).es = []:=List.eq_nil_of_length_eq_zero (by omega);have e2 : (nth t.ns i).cs = []:=List.eq_nil_of_length_eq_zero (by omega);rw [if_neg hu,if_pos ⟨h2,h3⟩,e2];exact ⟨fun h9=>absurd h9 hu,fun _=>⟨h2,e1,rfl⟩,rfl,fun h9=>h9⟩
  ·cases h
theorem Qef {t : Tre} : ∀ {f i : Nat} {seen : List Int},i + f = t.ns.length → (X5 t f i seen).2 = 0 → seen.Nodup → (∀ j,i ≤ j → j < t.ns.length → ∃ s,(XS t j s).1 = 0) ∧ ((seen.reverse ++ (t.ns.drop i).flatMap Nd.cs)).Nodup
 | 0,i,seen,hi,h,hs=>by grind
 | f + 1,i,seen,hi,h,hs=>by
  unfold X5 at h;split at h
  ·rename_i h1;obtain ⟨h2,h3,h4,h5⟩:=Qmz h1;obtain ⟨h6,h7⟩:=Qef (f:=f) (i:=i + 1) (by omega) h (by rw [h4];exact h5 hs);refine ⟨fun j hj1 hj2=>?_,?_⟩
   ·grind
   ·rw [h4,List.reverse_append,List.reverse_reverse,List.append_assoc] at h7;rw [List.drop_eq_getElem_cons (show i < t.ns.length by omega),List.flatMap_cons];have e : t.ns[i] = nth t.ns i:=(Y2 (List.getElem?_eq_getElem (by omega))).symm;rw [e];exact h7
  grind
theorem QnB {co : Int} {es : List TEnt} (h : ZA co es = 0) : ∀ x ∈ es,Y0 co x = 0:=fun x hx=>Qih.1 h _ (List.mem_map.2 ⟨x,hx,rfl⟩)
theorem Qha {t : Tre} (h : (X5 t t.ns.length 0 []).2 = 0) : TOk t.co t.ns:=by
 obtain ⟨h1,h2⟩:=Qef (f:=t.ns.length) (i:=0) (by omega) h List.nodup_nil;have key:=fun i (hi : i < t.ns.length)=>Qmz (h1 i (Nat.zero_le _) hi).choose_spec;have hF : ∀ i,i < t.ns.length → (nth t.ns i).us = false → (0 < i ∧ i + 1 < t.ns.length) ∧ (nth t.ns i).es = [] ∧ (nth t.ns i).cs = []:=fun i hi=>(key i hi).2.1;refine ⟨fun i hi c hc=>?_,by simpa using h2,fun i hi=>?_,hF,fun i hi=>?_,fun i hi x hx=>?_⟩
 ·grind
 ·grind
 ·cases e : (nth t.ns i).us with
  | true=>exact QqK ((key i hi).1 e).2.2.2.2
  | false=>
   rw [(hF i hi e).2.1];intro k hk
   grind
 grind [nth,QnB,hi]
theorem QhL {α : Type} : ∀ {A B : List α} {x : α},(A ++ B).Nodup → x ∈ A → x ∈ B → False:=fun h h1 h2=>(List.nodup_append.1 h).2.2 _ h1 _ h2 rfl
theorem Qfj {α β : Type} [Inhabited α] {f : α → List β} : ∀ {l : List α},(l.flatMap f).Nodup → ∀ {i j : Nat} {c : β},i < l.length → j < l.length → c ∈ f (nth l i) → c ∈ f (nth l j) → i = j
 | [],_,i,j,c,hi,_,_,_=>absurd hi (Nat.not_lt_zero _)
 | x :: l,h,i,j,c,hi,hj,h1,h2=>by
  rw [List.flatMap_cons] at h;have hm : ∀ k,k < l.length → c ∈ f (nth l k) → c ∈ l.flatMap f:=fun k hk hc=>List.mem_flatMap.2 ⟨_,Qv hk,hc⟩;cases i with
  | zero=>
   cases j with
   | zero=>rfl
   | succ j=>exact (QhL h h1 (hm j (by simpa using hj) h2)).elim
  | succ i=>
   cases j with
   | zero=>exact (QhL h h2 (hm i (by simpa using hi) h1)).elim
   | succ j=>rw [Qfj (List.nodup_append.1 h).2.1 (by simpa using hi) (by simpa using hj) h1 h2]
def Way (ns : List Nd) : List Nat → Prop
 | []=>False
 | [r]=>r = 0
 | c :: p :: P=>((c : Int) ∈ (nth ns p).cs ∧ p < ns.length) ∧ Way ns (p :: P)
theorem Qdv {co : Int} {ns : List Nd} (ht : TOk co ns) (h0 : 0 < ns.length) : ∀ {P : List Nat},Way ns P → ∀ x ∈ P,x < ns.length
 | [],h,_,_=>h.elim
 | [r],h,x,hx=>by
  rw [List.mem_singleton.1 hx,show r = 0 from h];exact h0
 | c :: p :: P,h,x,hx=>by
  rcases List.mem_cons.1 hx with rfl | hx
  ·have:=(ht.kid p h.1.2 _ h.1.1).1;omega
  ·exact Qdv ht h0 h.2 x hx
theorem QmK {ns : List Nd} : ∀ {P : List Nat},Way ns P → ∀ j,j + 1 < P.length → ((nth P j : Nat) : Int) ∈ (nth ns (nth P (j + 1))).cs ∧ nth P (j + 1) < ns.length
 | [],h,_,_=>h.elim
 | [r],h,j,hj=>absurd hj (by simp)
 | c :: p :: P,h,0,hj=>h.1
 | c :: p :: P,h,j + 1,hj=>QmK h.2 j (by simpa using hj)
theorem Qjs {ns : List Nd} : ∀ {P : List Nat},Way ns P → nth P (P.length - 1) = 0
 | [],h=>h.elim
 | [r],h=>h
 | c :: p :: P,h=>by
  have h1:=Qjs h.2
  grind [nth]
theorem QhE {co : Int} {ns : List Nd} (ht : TOk co ns) : ∀ {P : List Nat},Way ns P → P.Nodup
 | [],h=>h.elim
 | [r],h=>by simp
 | c :: p :: P,h=>by
  have h1:=QhE ht h.2;refine List.nodup_cons.2 ⟨fun hc=>?_,h1⟩;obtain ⟨j,hj,e⟩:=List.getElem_of_mem hc;have e2 : nth (p :: P) j = c:=Y2 (by rw [List.getElem?_eq_getElem hj,e]);have hk:=ht.kid p h.1.2 _ h.1.1;rcases Nat.lt_or_ge (j + 1) (p :: P).length with h2 | h2
  ·have h3:=QmK h.2 j h2;rw [e2] at h3;have h4:=Qfj ht.once h.1.2 h3.2 h.1.1 h3.1
   have h5 : (p :: P)[0]? = (p :: P)[j + 1]?:=by
    rw [Z2 h2,← h4];rfl
   have:=(List.getElem?_inj (by simp) h1).1 h5;omega
  ·have h3:=Qjs h.2
   grind
theorem Qkv : ∀ (n : Nat) (l : List Nat),l.Nodup → (∀ x ∈ l,x < n) → l.length ≤ n
 | 0,l,_,h=>by
  cases l with
  | nil=>exact Nat.le_refl _
  | cons x l=>exact absurd (h x (List.mem_cons_self ..)) (Nat.not_lt_zero _)
 | n + 1,l,hd,h=>by
  have h1:=Qkv n (l.erase n) (hd.erase n) (fun x hx=>by
   have h2:=(hd.mem_erase_iff).1 hx;have:=h x h2.2;omega)
  have h2:=List.length_erase_le (a:=n) (l:=l);rw [List.length_erase] at h1;split at h1 <;> omega
theorem QbS {co : Int} {ns : List Nd} (ht : TOk co ns) (h0 : 0 < ns.length) {P : List Nat} (h : Way ns P) : P.length ≤ ns.length:=Qkv _ _ (QhE ht h) (Qdv ht h0 h)
end Gx
namespace Gx
open Go Go.RowKit
theorem Qjp : ∀ a b,Lib.compareBytes a b = Qb7 a b
 | [],[]=>rfl
 | [],_ :: _=>rfl
 | _ :: _,[]=>rfl
 | a :: x,b :: y=>by
  unfold Lib.compareBytes Qb7;rw [Qjp x y]
section
variable {P : Program} {o : Oper} {L : Qc}
def QvG (P : Program) (f : FuncId) : Prop := ∃ fn, P.funcs[f]? = some fn ∧ (fn.name == "runtime.NumGoroutine") = false ∧ fn.body.isNone = true ∧ Extern.findNext fn = none ∧ Extern.find fn = some Extern.BytealgCompare.compare
theorem Qfw {f : FuncId} {x y : Operand} {a b : List UInt8} {at' : Array TypeId} {C : World → Prop} (ho : o.op = .call { callee:=.value (.func f),args:=#[x,y],argTypes:=at' }) (hx : ev L x = some (.string (bs a))) (hy : ev L y = some (.string (bs b))) (hf : QvG P f) : OpQ P o L C (.int .i64 (Qb7 a b)):=by
 intro ρ w hρ hw;obtain ⟨fn,h1,h2,h3,h4,h5⟩:=hf;have hcall:=run_callFunc_extern h1 h2 h3 h4 h5 #[.string (bs a),.string (bs b)] w;rw [Lib.run_compareString,bs_data,bs_data,Qjp] at hcall
 have : (execOp ρ o).run P w = .ok (.value (.int .i64 (Qb7 a b))) w:=by
  unfold execOp;simp only [ho,resolve,Sem.run_bind,hρ (.func f) _ rfl,Deferred.ofValue,Sem.run_pure,Result.andThen_ok,invoke,List.map_toArray,List.map_cons,List.map_nil,hρ _ _ hx,hρ _ _ hy,Array.empty_append,Array.append_empty,hcall]
 rw [this];exact ⟨rfl,Below.refl _ _⟩
end
end Gx
namespace Gx
open Go Go.RowKit
theorem HS.own_at {w0 w : World} {M : List Nat} {As As' : List HA} {g n n' cap t sz : Nat} {xs : List Value} (h : HS w0 M As w) (hp : QM As (.own (.slice (some ⟨g,0,none⟩) n' cap) t sz n xs) As') : HS w0 M (.blk g t (cap * sz) xs :: As') w:=by
 have h1:=h.pick hp;refine h1.turn (fun b hb=>by simpa [HA.fp_own,HA.fp_blk,Value.ownBlock] using hb) fun ho=>?_;obtain ⟨_,⟨e,_⟩ | ⟨g',cap',e,_,_,hb⟩⟩:=ho
 ·grind
 ·injection e with e1 e2 e3
  injection e1 with e1
  injection e1 with e1
  subst e1 e3;exact hb
end Gx
namespace Gx
open Go Go.RowKit
section
variable {S : Type} (st : S → Vis → S) (er : S → Vis → Int × Int)
def XJ : S → List Vis → (Int × Int) × S
 | s,[]=>((0,0),s)
 | s,v :: vs=>if (er s v).2 = 0 then XJ (st s v) vs else (er s v,st s v)
theorem Qcv : ∀ (A B : List Vis) (s : S),XJ st er s (A ++ B) = if (XJ st er s A).1.2 = 0 then XJ st er (XJ st er s A).2 B else XJ st er s A
 | [],B,s=>rfl
 | v :: A,B,s=>by
  rw [List.cons_append,XJ,XJ]
  by_cases h : (er s v).2 = 0
  ·simp_all [Qcv]
  grind
theorem Qsj {A B : List Vis} {s : S} (h : ¬ (XJ st er s A).1.2 = 0) : XJ st er s (A ++ B) = XJ st er s A:=by rw [Qcv,if_neg h]
theorem QmY {A B : List Vis} {s : S} (h : (XJ st er s A).1.2 = 0) : XJ st er s (A ++ B) = XJ st er (XJ st er s A).2 B:=by rw [Qcv,if_pos h]
theorem QqT : ∀ {A : List Vis} {s : S},(XJ st er s A).1.2 = 0 → (XJ st er s A).1 = (0,0)
 | [],s,_=>rfl
 | v :: A,s,h=>by
  rw [XJ] at h ⊢;split at h
  ·simp_all [QqT]
  grind
end
def XW (ns : List Nd) (v : Vis) (k : Nat) : Vis:=⟨((nth ns v.i).cs.getD k 0).toNat,v.d + 1,loK (nth ns v.i).es k v.lo,hiK (nth ns v.i).es k v.hi⟩
def Qbf (ns : List Nd) (f : Nat) (v : Vis) (k : Nat) : List Vis:=v :: (List.range k).flatMap fun k=>vis ns f (XW ns v k)
theorem QlR (ns : List Nd) (f : Nat) (v : Vis) : Qbf ns f v 0 = [v]:=rfl
theorem X0 (ns : List Nd) (f : Nat) (v : Vis) (k : Nat) : Qbf ns f v (k + 1) = Qbf ns f v k ++ vis ns f (XW ns v k):=by
 unfold Qbf;rw [List.range_succ,List.flatMap_append,List.flatMap_singleton];rfl
theorem Zn (ns : List Nd) (f : Nat) (v : Vis) : vis ns (f + 1) v = Qbf ns f v (nth ns v.i).cs.length:=rfl
theorem QaZ (ns : List Nd) (f : Nat) (v : Vis) {k m : Nat} (h : k ≤ m) : ∃ B,Qbf ns f v m = Qbf ns f v k ++ B:=by
 induction m with
 | zero=>simp_all
 | succ m ih=>
  rcases Nat.lt_or_ge m k with h1 | h1
  ·obtain rfl : k = m + 1:=by omega
   simp_all
  grind [vis,XW,X0]
theorem QeF {ns : List Nd} {i : Nat} {P : List Nat} (h : Way ns (i :: P)) (hi : i < ns.length) {k : Nat} (hk : k < (nth ns i).cs.length) (hc : 0 ≤ (nth ns i).cs.getD k 0) : Way ns (((nth ns i).cs.getD k 0).toNat :: i :: P):=by
 refine ⟨⟨?_,hi⟩,h⟩
 grind
theorem Qg0 {co : Int} {ns : List Nd} (ht : TOk co ns) {i k : Nat} (hi : i < ns.length) (hk : k < (nth ns i).cs.length) : 1 ≤ (nth ns i).cs.getD k 0 ∧ (nth ns i).cs.getD k 0 ≤ (ns.length : Int) - 1 ∧ (nth ns ((nth ns i).cs.getD k 0).toNat).us = true:=by
 have hm : (nth ns i).cs.getD k 0 ∈ (nth ns i).cs:=by grind
 have h:=ht.kid i hi _ hm
 grind
def Qvj (co : Int) (ns : List Nd) (key : List UInt8) : Nat → Nat → List Nat × Nat × Bool
 | 0,_=>([],0,false)
 | f + 1,i=>if fnd co (nth ns i).es key = true ∨ (nth ns i).cs.length = 0 then ([i],plc co (nth ns i).es key,fnd co (nth ns i).es key)
   else (i :: (Qvj co ns key f ((nth ns i).cs.getD (plc co (nth ns i).es key) 0).toNat).1,(Qvj co ns key f ((nth ns i).cs.getD (plc co (nth ns i).es key) 0).toNat).2)
def Xg (co : Int) (ns : List Nd) (key : List UInt8) : List Nat × Nat × Bool:=Qvj co ns key ns.length 0
structure Bd (ns : List Nd) : Prop where
 len : ns.length ≤ 1000
 es : ∀ i,i < ns.length → (nth ns i).es.length ≤ 1000
 cs : ∀ i,i < ns.length → (nth ns i).cs.length ≤ 1000
theorem Qe (L : List LNd) : (pln L).length = L.length:=by simp
theorem Q0 {L : List LNd} {i : Nat} (h : i < L.length) : nth (pln L) i = (nth L i).pl:=by simp_all [Y2,Z2]
theorem Qex (L M : List LNd) : pln (L ++ M) = pln L ++ pln M:=by simp
def Qap (w : World) (M : List Nat) (p : Option Addr) (o : Option (List UInt8)) : Prop:=match o with
 | none=>p = none
 | some k=>∃ b off,p = some ⟨b,off,none⟩ ∧ Rd w M b off (.string (bs k))
theorem Qap.keep {w w' : World} {M : List Nat} {As : List HA} {p : Option Addr} {o : Option (List UInt8)} (h : Qap w M p o) (hs : HS w M As w') : Qap w' (fps As) p o:=by
 cases o with
 | none=>exact h
 | some k=>
  obtain ⟨b,off,e,hr⟩:=h;exact ⟨b,off,e,hs.keep hr⟩
theorem Qap.mono {w : World} {M M' : List Nat} {p : Option Addr} {o : Option (List UInt8)} (h : Qap w M p o) (hM : ∀ b ∈ M',b ∈ M) : Qap w M' p o:=by
 cases o with
 | none=>exact h
 | some k=>
  obtain ⟨b,off,e,hr⟩:=h;exact ⟨b,off,e,hr.mono hM⟩
theorem Qap.of_some {w : World} {M : List Nat} {p : Option Addr} {o : Option (List UInt8)} (h : Qap w M p o) (hp : p.isSome = true) : ∃ k b off,o = some k ∧ p = some ⟨b,off,none⟩ ∧ Rd w M b off (.string (bs k)):=by
 cases o with
 | none=>
  have : p = none:=h
  grind
 | some k=>
  obtain ⟨b,off,e,hr⟩:=h
  grind
theorem Qap.of_none {w : World} {M : List Nat} {p : Option Addr} {o : Option (List UInt8)} (h : Qap w M p o) (hp : p.isSome = false) : o = none:=by
 cases o with
 | none=>rfl
 | some k=>
  obtain ⟨b,off,e,hr⟩:=h;subst e;cases hp
theorem Q9 {As Cs Ds : List HA} (h : Qa3 As Cs Ds) : ∀ b ∈ fps Cs,b ∈ fps As:=fun b hb=>by
 obtain ⟨A,hA,hb⟩:=List.mem_flatMap.1 hb;exact List.mem_flatMap.2 ⟨A,(List.Perm.mem_iff h).2 (List.mem_append_left _ hA),hb⟩
theorem HS.rd_blkF {w0 w : World} {M : List Nat} {As Cs Ds Es : List HA} {b i t tot : Nat} {cs : List Value} {v : Value} (h : HS w0 M As w) (hp : Qa3 As Cs Ds) (hp2 : QM Ds (.blk b t tot cs) Es) (hv : cs[i]? = some v) : Rd w (fps Cs) b i v:=by
 have h1 : HS w0 M (Cs ++ Ds) w:=h.perm hp;refine ⟨(h1.ok _ (List.mem_append_right _ hp2.mem) |> QY.lt),fun hb=>?_,QY.cell (h1.ok _ (List.mem_append_right _ hp2.mem)) hv⟩;obtain ⟨A,hA,hb⟩:=List.mem_flatMap.1 hb;exact (List.pairwise_append.1 h1.sep).2.2 A hA _ hp2.mem b hb (List.mem_singleton.2 rfl)
section
variable (t : Tre) (i : Nat)
def nE1 : Int:=if ((nth t.ns i).es.length : Int) ≤ YU t.mo t.rm i then if (nth t.ns i).cs.length = 0 ∨ (nth t.ns i).cs.length = (nth t.ns i).es.length + 1 then 0 else 10 else 16
def nE2 : Int:=if nE1 t i = 0 then ZA t.co (nth t.ns i).es else nE1 t i
def nE3 (seen : List Int) : Int × List Int:=if nE2 t i = 0 then X7 t.ns (nth t.ns i).cs seen else (nE2 t i,seen)
def nE4 (seen : List Int) : Int:=if (nE3 t i seen).1 = 0 then Qbd t.co (nth t.ns i).es else (nE3 t i seen).1
theorem Qon {seen : List Int} (h : (nth t.ns i).us = true) : XS t i seen = (nE4 t i seen,(nE3 t i seen).2):=by
 unfold XS nE4 nE3 nE2 nE1
 grind
theorem QxN (h : nE2 t i = 0) : ZA t.co (nth t.ns i).es = 0:=by grind [nE2]
theorem Qxg {seen : List Int} (h : (nE3 t i seen).1 = 0) : nE2 t i = 0:=by grind [nE3]
end
def Qdg (ns : List Nd) (c : Int) : Prop:=(1 ≤ c ∧ c ≤ (ns.length : Int) - 1) ∧ (nth ns c.toNat).us = true
instance (ns : List Nd) (c : Int) : Decidable (Qdg ns c):=inferInstanceAs (Decidable (_ ∧ _))
def Qcs (ns : List Nd) (c : Int) (seen : List Int) : Int:=if Qdg ns c then if c ∈ seen then 23 else 0 else 6
def Qd5 (ns : List Nd) (c : Int) (seen : List Int) : List Int:=if Qdg ns c then c :: seen else seen
theorem Qbv (ns : List Nd) (c : Int) (cs seen : List Int) : X7 ns (c :: cs) seen = if Qcs ns c seen = 0 then X7 ns cs (Qd5 ns c seen) else (Qcs ns c seen,Qd5 ns c seen):=by grind [Qcs,Qd5,X7,Qdg,nth]
theorem QcL {cs : List Int} {k : Nat} (h : k < cs.length) : cs.drop k = cs.getD k 0 :: cs.drop (k + 1):=by simp_all
theorem Qcx {co : Int} {es : List TEnt} {k : Nat} (h : k < es.length) : (es.map (Y0 co)).getD k 0 = Y0 co (nth es k):=by
 rw [Qcw (d:=default) h];rfl
theorem Qch {co : Int} {es : List TEnt} {k : Nat} (h : k < es.length) : ((List.range es.length).map (Qbj co es)).getD k 0 = Qbj co es k:=by grind
theorem Qd0 {co : Int} {x : TEnt} (h : Y0 co x = 0) : QU co x.key = true:=by grind [Y0,Yf]
theorem QoO {co : Int} {k : List UInt8} (h : QU co k = true) : 1 ≤ k.length ∧ k.length ≤ 40:=by grind [QU]
theorem HS.thenF {w w1 w2 : World} {M : List Nat} {As Bs : List HA} (h : HS w M As w1) (hc : HS w1 (fps As) Bs w2) : HS w M Bs w2:=by
 have h1 : HS w M (As ++ []) w1:=by rw [List.append_nil];exact h
 have h2:=h1.callM (Mc:=fps As) (fun b hb=>by obtain ⟨A,hA,hb⟩:=List.mem_flatMap.1 hb;exact ⟨A,hA,hb⟩) hc
 grind
def Qea (cs : List Int) (n : Int) : List Bool:=cs.map fun c=>decide (n = c)
theorem QcB (cs : List Int) (n : Int) : (Qea cs n).length = cs.length:=by simp [Qea]
theorem Qjq {cs : List Int} {n : Int} {k : Nat} (h : k < cs.length) : (Qea cs n).getD k false = decide (n = cs.getD k 0):=by grind [Qea,Qcw]
theorem Qph (cs : List Int) (n : Int) : (Qea cs n).any id = decide (n ∈ cs):=by
 unfold Qea;rw [List.any_map]
 grind
def Qaj (t : Tre) (v : Vis) : Bool:=decide (0 < v.i) && (decide (((nth t.ns v.i).es.length : Int) < t.mo / 2) || ((decide ((nth t.ns 0).es.length = 0) && decide ((v.i : Int) ∈ (nth t.ns 0).cs)) && decide (((nth t.ns v.i).es.length : Int) ≤ t.rm)))
def Qat (t : Tre) (v : Vis) (x : TEnt) : Bool:=(v.lo.any fun b=>decide (0 ≤ Xm t.co b x.key)) || (v.hi.any fun b=>decide (0 ≤ Xm t.co x.key b))
def ZI (t : Tre) (v : Vis) : Bool:=(nth t.ns v.i).es.any (Qat t v)
def erV (t : Tre) (s : Int) (v : Vis) : Int × Int:=((v.i : Int),if Qaj t v = true then 14 else if ZI t v = true then 9 else if (nth t.ns v.i).cs.length = 0 then (if (if s = 0 then v.d else s) = v.d then 0 else 22) else 0)
def stV (t : Tre) (s : Int) (v : Vis) : Int:=if Qaj t v = true then s else if ZI t v = true then s else if (nth t.ns v.i).cs.length = 0 then (if s = 0 then v.d else s) else s
theorem Qc6 (t : Tre) (deep : Int) (v : Vis) : QdB t deep v = if Qaj t v = true then 14 else if ZI t v = true then 9 else if (nth t.ns v.i).cs.length = 0 ∧ v.d ≠ deep + 1 then 22 else 0:=by
 unfold QdB;simp only [];have h : Qaj t v = true ↔ (0 < v.i ∧ (((nth t.ns v.i).es.length : Int) < t.mo / 2 ∨ ((nth t.ns 0).es.length = 0 ∧ (v.i : Int) ∈ (nth t.ns 0).cs) ∧ ((nth t.ns v.i).es.length : Int) ≤ t.rm)):=by grind [Qaj]
 by_cases h1 : Qaj t v = true
 ·grind
 ·rw [if_neg (fun h2=>h1 (h.2 h2)),if_neg h1];rfl
theorem QhO (t : Tre) : ∀ (vs : List Vis) (s : Int),s ≠ 0 → (XJ (stV t) (erV t) s vs).1 = X8 t (s - 1) vs
 | [],s,_=>rfl
 | v :: vs,s,hs=>by
  have he : (erV t s v).2 = QdB t (s - 1) v:=by grind [Qc6,erV,Qaj,ZI,nth]
  have hst : stV t s v = s:=by grind [stV]
  rw [XJ,X8,he,hst];split
  ·exact QhO t vs s hs
  grind [erV]
theorem QhH {t : Tre} (hT : TOk t.co t.ns) (h0 : 0 < t.ns.length) (deep : Int) : ∀ (f : Nat) (v : Vis) (P : List Nat) (rest : List Vis),Gx.Way t.ns (v.i :: P) → P.length + f = t.ns.length → 1 ≤ v.d → deep + 1 = v.d + Y5 t.ns f v.i → (XJ (stV t) (erV t) 0 (vis t.ns f v ++ rest)).1 = X8 t deep (vis t.ns f v ++ rest)
 | 0,v,P,rest,hw,hf,_,_=>by
  have:=QbS hT h0 hw
  grind
 | f + 1,v,P,rest,hw,hf,hd,he=>by
  have hi:=Qdv hT h0 hw v.i (List.mem_cons_self ..);rw [Y5] at he;rw [vis,List.cons_append,XJ,X8,Qc6]
  by_cases h1 : Qaj t v = true
  ·grind [erV]
  ·rw [if_neg h1]
   by_cases h2 : ZI t v = true
   ·grind [erV]
   ·rw [if_neg h2]
    by_cases h3 : (nth t.ns v.i).cs.length = 0
    ·grind [erV,stV,nth,QhO]
    ·rw [if_neg h3] at he;have e1 : (erV t 0 v).2 = 0:=by unfold erV;simp only [if_neg h1,if_neg h2,if_neg h3]
     have e2 : stV t 0 v = 0:=by unfold stV;rw [if_neg h1,if_neg h2,if_neg h3]
     have hk:=Qg0 hT hi (k:=0) (by omega);have e3 : (if (nth t.ns v.i).cs.length = 0 ∧ v.d ≠ deep + 1 then (22 : Int) else 0) = 0:=if_neg (fun h5=>h3 h5.1);rw [e1,if_pos rfl,e2,e3,if_pos rfl];obtain ⟨m,hm⟩ : ∃ m,(nth t.ns v.i).cs.length = m + 1:=⟨(nth t.ns v.i).cs.length - 1,by omega⟩;rw [hm,List.range_succ_eq_map,List.flatMap_cons,List.append_assoc];refine QhH hT h0 deep f _ (v.i :: P) _ (QeF hw hi (by omega) (by omega)) (by simp only [List.length_cons];omega) (by show 1 ≤ v.d + 1;omega) ?_
     grind
theorem run_shape {t : Tre} (hT : TOk t.co t.ns) (h0 : 0 < t.ns.length) : (XJ (stV t) (erV t) 0 (YT t.ns)).1 = X8 t (Y5 t.ns t.ns.length 0) (YT t.ns):=by
 have h:=QhH hT h0 (Y5 t.ns t.ns.length 0) t.ns.length Qcd [] [] rfl (by simp) (by decide) (by show _ = 1 + _;rw [show Qcd.i = 0 from rfl];omega);rw [List.append_nil] at h;exact h
def Qhu (s : List Bool) (v : Vis) : List Bool:=s.set v.i true
theorem Qny : ∀ (vs : List Vis) (s : List Bool),(XJ Qhu (fun _ _=>(0,0)) s vs).1 = (0,0) ∧ (XJ Qhu (fun _ _=>(0,0)) s vs).2.length = s.length ∧ ∀ i,i < s.length → (XJ Qhu (fun _ _=>(0,0)) s vs).2.getD i false = (s.getD i false || decide (i ∈ vs.map Vis.i))
 | [],s=>⟨rfl,rfl,fun i _=>by simp [XJ]⟩
 | v :: vs,s=>by
  obtain ⟨h1,h2,h3⟩:=Qny vs (Qhu s v)
  grind [XJ,Qhu,hi]
theorem Qjv {S : Type} {st : S → Vis → S} {er : S → Vis → Int × Int} {I : S → Prop} (hI : ∀ s v,I s → I (st s v)) : ∀ (vs : List Vis) (s : S),I s → I (XJ st er s vs).2
 | [],s,h=>h
 | v :: vs,s,h=>by
  rw [XJ];split
  ·simp_all [Qjv]
  ·exact hI _ _ h
def KOk (co : Int) (o : Option (List UInt8)) : Prop:=∀ k,o = some k → QU co k = true ∧ k.length ≤ 1000000
theorem Qek {co : Int} {ns : List Nd} (hT : TOk co ns) {i : Nat} (hi : i < ns.length) : ∀ x ∈ (nth ns i).es,QU co x.key = true ∧ x.key.length ≤ 1000000:=fun x hx=>by
 have h:=Qd0 (hT.ents i hi x hx)
 grind [QoO]
theorem Qg4 {co : Int} {ns : List Nd} (hT : TOk co ns) {v : Vis} (hi : v.i < ns.length) {k : Nat} (hk : k ≤ (nth ns v.i).es.length) (h : KOk co v.lo) : KOk co (XW ns v k).lo:=by
 intro x hx;unfold XW loK at hx;simp only [] at hx;split at hx
 ·grind [Qek,hi,Qv]
 ·exact h x hx
theorem Qgy {co : Int} {ns : List Nd} (hT : TOk co ns) {v : Vis} (hi : v.i < ns.length) {k : Nat} (h : KOk co v.hi) : KOk co (XW ns v k).hi:=by
 intro x hx;unfold XW hiK at hx;simp only [] at hx;split at hx
 ·grind [Qek,hi,Qv]
 ·exact h x hx
def QbZ (t : Tre) : Int × Int:=match Qas t.ns ((YT t.ns).map Vis.i) t.ns.length 0 with
 | some i=>((i : Int),21)
 | none=>X8 t (Y5 t.ns t.ns.length 0) (YT t.ns)
theorem Qlq {t : Tre} {deep : Int} : ∀ {vs : List Vis},(X8 t deep vs).2 = 0 → X8 t deep vs = (0,0)
 | [],_=>rfl
 | v :: vs,h=>by
  rw [X8] at h ⊢;split at h
  ·simp_all [Qlq]
  grind
theorem QmS {t : Tre} (h : (QbZ t).2 = 0) : (QbZ t).1 = 0:=by grind [QbZ,Qlq]
def Zi (n : Nat) : Int:=if 0 < n then if n ≤ 120 then 0 else 8 else 10
theorem Qc2 {t : Tre} (h : ¬ (if Qs t.co = 0 then XG t.mo t.rm else Qs t.co) = 0) : Yx t = (0,if Qs t.co = 0 then XG t.mo t.rm else Qs t.co):=by grind [Yx,Qs,XG]
theorem QiL {t : Tre} (h : (if Qs t.co = 0 then XG t.mo t.rm else Qs t.co) = 0) : Qs t.co = 0 ∧ XG t.mo t.rm = 0:=by grind
theorem Qrn {mo rm : Int} (h : XG mo rm = 0) : (3 ≤ mo ∧ mo ≤ 8) ∧ (mo / 2 ≤ rm ∧ rm ≤ mo):=by grind [XG]
theorem QdZ {t : Tre} (h : (if Qs t.co = 0 then XG t.mo t.rm else Qs t.co) = 0) (h2 : ¬ Zi t.ns.length = 0) : Yx t = (0,Zi t.ns.length):=by grind [QiL,Yx,Zi]
theorem Ql9 {n : Nat} (h : Zi n = 0) : 0 < n ∧ n ≤ 120:=by grind [Zi]
theorem Qe8 {t : Tre} (h : (if Qs t.co = 0 then XG t.mo t.rm else Qs t.co) = 0) (h2 : Zi t.ns.length = 0) : Yx t = if (X5 t t.ns.length 0 []).2 = 0 then QbZ t else X5 t t.ns.length 0 []:=by
 obtain ⟨h3,h4⟩:=QiL h;obtain ⟨h5,h6⟩:=Ql9 h2;unfold Yx;rw [if_pos h3,if_pos h4,if_pos h5,if_pos h6];rfl
theorem QgM {t : Tre} (h : (Yx t).2 = 0) : Qs t.co = 0 ∧ XG t.mo t.rm = 0 ∧ 0 < t.ns.length ∧ t.ns.length ≤ 120 ∧ (X5 t t.ns.length 0 []).2 = 0 ∧ (QbZ t).2 = 0 ∧ Yx t = (0,0):=by
 by_cases h1 : (if Qs t.co = 0 then XG t.mo t.rm else Qs t.co) = 0
 ·grind [Zi,Qe8,QiL,Ql9,QmS,QdZ]
 grind [Qc2]
theorem Qso {l : List Bool} {k : Nat} (h : k < l.length) : (l.map Value.bool)[k]? = some (.bool (l.getD k false)):=by grind
theorem QgJ {t : Tre} {k : Nat} {seen : List Int} (h : k < t.ns.length) : X5 t (t.ns.length - k) k seen = if (XS t k seen).1 = 0 then X5 t (t.ns.length - (k + 1)) (k + 1) (XS t k seen).2 else ((k : Int),(XS t k seen).1):=by
 rw [show t.ns.length - k = t.ns.length - (k + 1) + 1 by omega,X5]
theorem Qh9 {ns : List Nd} {below : List Nat} {k : Nat} (h : k < ns.length) : Qas ns below (ns.length - k) k = if (nth ns k).us = true ∧ k ∉ below then some k else Qas ns below (ns.length - (k + 1)) (k + 1):=by
 rw [show ns.length - k = ns.length - (k + 1) + 1 by omega,Qas]
theorem Qdx {t : Tre} {i : Nat} (h : Qas t.ns ((YT t.ns).map Vis.i) t.ns.length 0 = some i) : QbZ t = ((i : Int),21):=by
 unfold QbZ;rw [h]
theorem QdA {t : Tre} (h : Qas t.ns ((YT t.ns).map Vis.i) t.ns.length 0 = none) : QbZ t = X8 t (Y5 t.ns t.ns.length 0) (YT t.ns):=by
 unfold QbZ;rw [h]
theorem QqC {L : List LNd} {k : Nat} (hk : k < L.length) {D : List LNd} (hD : pln D = (pln L).take k) {x : LNd} (hx : x.pl = (nth L k).pl) : pln (D ++ [x]) = (pln L).take (k + 1):=by
 rw [Qex,hD,List.take_succ_eq_append_getElem (by rw [Qe];exact hk)]
 simp_all [pln,Qe,nth,Y2,Q0]
end Gx
namespace Gx
open Go Go.RowKit
section
variable {P : Program} {o : Oper} {L : Qc} {w0 : World} {M : List Nat} {As As' : List HA}
def Qrx (P : Program) (t te : TypeId) : Prop:=P.underlying t = some (.pointer te) ∧ ∃ j,P.info? te = some j ∧ j.size ≠ 0
theorem Qmr {t te : TypeId} {n : Nat} {b : Bool} (h : P.underlying t = some (.pointer te)) (h2 : tsz P te = some (n,b)) (hn : n ≠ 0) : Qrx P t te:=by
 refine ⟨h,?_⟩
 grind [tsz,hi]
theorem ptee {t te : TypeId} (h : P.underlying t = some (.pointer te)) : P.underlying t = some (.pointer (P.pointee t)):=by
 rw [h];simp [Program.pointee,h]
theorem QhD {t t' te : TypeId} {x y : Operand} {p : Option Addr} (ho : o.op = .binOp .eql t x y t') (hx : ev L x = some (.pointer p)) (hy : ev L y = some (.pointer none)) (ht : Qrx P t te) : OpP P o L (.bool p.isNone):=by
 intro ρ w hρ;have hg : (eqGuard .eql t x y (.pointer p) (.pointer none)).run P w = .ok () w:=by unfold eqGuard;simp
 simp only [execOp,ho,hρ _ _ hx,hρ _ _ hy,Sem.run_bind,hg,run_eql_pointer_nil w t p (ptee ht.1),Result.andThen_ok,Sem.run_pure]
theorem Qck {t t' te : TypeId} {x y : Operand} {p : Option Addr} (ho : o.op = .binOp .neq t x y t') (hx : ev L x = some (.pointer p)) (hy : ev L y = some (.pointer none)) (ht : Qrx P t te) : OpP P o L (.bool p.isSome):=by
 intro ρ w hρ;have hg : (eqGuard .neq t x y (.pointer p) (.pointer none)).run P w = .ok () w:=by unfold eqGuard;simp
 have h:=run_neq_pointer_nil w t p (ptee ht.1);simp only [execOp,ho,hρ _ _ hx,hρ _ _ hy,Sem.run_bind,hg,h,Result.andThen_ok,Sem.run_pure];cases p <;> rfl
end
end Gx
namespace Gx
open Go Go.RowKit
section
variable {P : Program} {o : Oper} {L : Qc} {w0 : World} {M : List Nat} {As As' : List HA}
end
theorem Rw.cut {α : Type} [Inhabited α] {vals : α → List Value} {sz : Nat} {w : World} {M : List Nat} {a : Option Addr} {l : List α} (h : Rw vals sz w M a l) {cap i : Nat} (hc : l.length ≤ cap) : Rw vals sz w M (XV a cap i sz) (l.drop i):=
 ⟨fun hn=>by
  rw [List.length_drop] at hn;obtain ⟨b,o,rfl,h2⟩:=h.at_ (by omega);refine ⟨b,o + i * sz,?_,fun j hj=>?_⟩
  ·unfold XV;rw [if_neg (by omega)];simp [XB]
  ·rw [List.length_drop] at hj;have e : nth (l.drop i) j = nth l (i + j):=Y2 (by rw [List.getElem?_drop];exact Z2 (by omega));have h3:=h2 (i + j) (by omega);simp only [e];refine ⟨h3.1,fun q v hv=>?_⟩;have h4:=h3.2 q v hv;rw [show o + (i + j) * sz + q = o + i * sz + j * sz + q by rw [Nat.add_mul];omega] at h4;exact h4⟩
section
variable {w0 w : World} {M : List Nat} {As As' As'' : List HA} {gn cap et nt' : Nat} {a : Option Addr} {L : List LNd}
end
def usN (ns : List Nd) (i : Nat) (us : Bool) : List Nd:=ns.set i { nth ns i with us:=us }
def esN (ns : List Nd) (i : Nat) (es : List TEnt) : List Nd:=ns.set i { nth ns i with es:=es }
def csN (ns : List Nd) (i : Nat) (cs : List Int) : List Nd:=ns.set i { nth ns i with cs:=cs }
def QlJ (ns : List Nd) : Nat:=ixB (ns.map fun n=>!n.us)
def Qbo (ns : List Nd) : Nat × List Nd:=if QlJ ns < ns.length then (QlJ ns,usN ns (QlJ ns) true) else (ns.length,ns ++ [⟨true,[],[]⟩])
def Z1 (i : Int) : List Nd → Nat → Nat × Nat
 | [],_=>(0,0)
 | n :: ns,p=>if ixB (Qea n.cs i) < n.cs.length then (p,ixB (Qea n.cs i)) else Z1 i ns (p + 1)
def Qaq (mo : Int) : Nat:=((mo + 1) / 2).toNat
def Zs (mo : Int) (ns : List Nd) (i : Nat) : List Nd:=
 if (nth (Qbo ns).2 i).cs.length = 0 then esN (esN (Qbo ns).2 (Qbo ns).1 ((nth (Qbo ns).2 i).es.drop (Qaq mo + 1))) i ((nth (Qbo ns).2 i).es.take (Qaq mo))
 else csN (csN (esN (esN (Qbo ns).2 (Qbo ns).1 ((nth (Qbo ns).2 i).es.drop (Qaq mo + 1))) i ((nth (Qbo ns).2 i).es.take (Qaq mo))) (Qbo ns).1 ((nth (Qbo ns).2 i).cs.drop (Qaq mo + 1))) i ((nth (Qbo ns).2 i).cs.take (Qaq mo + 1))
def addP (ns : List Nd) (p k : Nat) (up : TEnt) (own : Nat) : List Nd:=csN (esN ns p (Qdk (nth ns p).es k up)) p (Qdk (nth ns p).cs (k + 1) (own : Int))
def splN (mo : Int) (ns : List Nd) (i : Nat) : List Nd:=addP (Zs mo ns i) (Z1 (i : Int) (Zs mo ns i) 0).1 (Z1 (i : Int) (Zs mo ns i) 0).2 (nth (nth (Qbo ns).2 i).es (Qaq mo)) (Qbo ns).1
structure SplOk (mo : Int) (ns : List Nd) (i : Nat) : Prop where
 mo0 : 0 ≤ mo ∧ mo ≤ 1000
 bd : Bd ns
 lt : i < ns.length
 us : (nth ns i).us = true
 es : Qaq mo < (nth ns i).es.length
 cs : (nth ns i).cs.length = 0 ∨ Qaq mo + 1 ≤ (nth ns i).cs.length
 par : (Z1 (i : Int) (Zs mo ns i) 0).1 < (Zs mo ns i).length
 parE : (Z1 (i : Int) (Zs mo ns i) 0).2 ≤ (nth (Zs mo ns i) (Z1 (i : Int) (Zs mo ns i) 0).1).es.length
 parC : (Z1 (i : Int) (Zs mo ns i) 0).2 + 1 ≤ (nth (Zs mo ns i) (Z1 (i : Int) (Zs mo ns i) 0).1).cs.length
def QeN (ns : List Nd) : Nat × List Nd:=((Qbo ns).1,csN (esN (csN (esN (Qbo ns).2 (Qbo ns).1 (nth ns 0).es) (Qbo ns).1 (nth ns 0).cs) 0 []) 0 [((Qbo ns).1 : Int)])
def Qv3 (mo : Int) (ns : List Nd) (i : Nat) : List Nd:=if 0 < i ∧ mo < ((nth ns i).es.length : Int) then splN mo ns i else ns
def Qu9 (mo : Int) (ns : List Nd) (P : List Nat) : List Nd:=P.foldl (Qv3 mo) ns
def grwR (mo rm : Int) (ns : List Nd) : List Nd:=if rm < ((nth ns 0).es.length : Int) then if mo < ((nth (QeN ns).2 (QeN ns).1).es.length : Int) then splN mo (QeN ns).2 (QeN ns).1 else (QeN ns).2 else ns
def grwN (mo rm : Int) (ns : List Nd) (P : List Nat) : List Nd:=grwR mo rm (Qu9 mo ns P)
def insN (co mo rm : Int) (ns : List Nd) (x : TEnt) : List Nd:=
 let p:=Xg co ns x.key
 let leaf:=nth p.1 (p.1.length - 1)
 grwN mo rm (esN ns leaf (Qdk (nth ns leaf).es p.2.1 x)) p.1.reverse
abbrev LNd.noE (n : LNd) : LNd:={ n with ea:=none,ec:=0,es:=[] }
abbrev LNd.noC (n : LNd) : LNd:={ n with ca:=none,cc:=0,cs:=[] }
abbrev ownE (et : Nat) (n : LNd) : HA:=.own (.slice n.ea n.es.length n.ec) et 2 n.es.length (n.es.flatMap TEnt.vals)
abbrev ownC (n : LNd) : HA:=.own (.slice n.ca n.cs.length n.cc) 3 1 n.cs.length (n.cs.flatMap inV)
section
variable {w0 w : World} {M : List Nat} {As As' As'' : List HA} {et : Nat} {L : List LNd} {i : Nat}
end
structure NdSet (L L' : List LNd) (i : Nat) (x : LNd) : Prop where
 lt : i < L.length
 eq : L' = L.set i x
section
variable {w0 w : World} {M : List Nat} {As A1 A2 A3 : List HA} {et : Nat} {L : List LNd} {i gn cap nt' : Nat}
end
def Sm (m : Nat) (ns : List Nd) : Prop:=∀ k,(nth ns k).es.length ≤ m ∧ (nth ns k).cs.length ≤ m
theorem Qaw {α : Type} [Inhabited α] {l : List α} {k : Nat} (h : l.length ≤ k) : nth l k = default:=by grind [nth]
structure SpOk (mo : Int) (ns : List Nd) (i : Nat) : Prop where
 mo0 : 0 ≤ mo ∧ mo ≤ 1000
 len : ns.length ≤ 900
 sm : Sm 900 ns
 lt : i < ns.length
 us : (nth ns i).us = true
 es : Qaq mo < (nth ns i).es.length
 cs : (nth ns i).cs.length = 0 ∨ Qaq mo + 1 ≤ (nth ns i).cs.length
 par : (Z1 (i : Int) (Zs mo ns i) 0).1 < (Zs mo ns i).length
 parE : (Z1 (i : Int) (Zs mo ns i) 0).2 ≤ (nth (Zs mo ns i) (Z1 (i : Int) (Zs mo ns i) 0).1).es.length
 parC : (Z1 (i : Int) (Zs mo ns i) 0).2 + 1 ≤ (nth (Zs mo ns i) (Z1 (i : Int) (Zs mo ns i) 0).1).cs.length
abbrev LNd.non (n : LNd) : LNd:=⟨n.us,none,0,[],none,0,[]⟩
section
variable {w0 w : World} {M : List Nat} {As A1 A2 A3 : List HA} {et : Nat} {L : List LNd} {i j gn cap nt' : Nat}
end
end Gx
namespace Gx
open Go Go.RowKit
def HA.obj (b : Nat) (o : Obj) : HA:=⟨[b],fun w=>w.heap[b]? = some o,fun w w' h hk=>(h b (List.mem_singleton.2 rfl)).trans hk⟩
section
variable {w0 w : World} {M : List Nat} {As As' : List HA}
theorem HS.allocObj (h : HS w0 M As w) (o : Obj) : HS w0 M (.obj w.heap.size o :: As) (w.alloc o):=h.alloc o _ rfl (World.alloc_heap_new w o)
theorem HS.obj_get {b : Nat} {o : Obj} (h : HS w0 M As w) (hp : QM As (.obj b o) As') : w.heap[b]? = some o:=h.ok _ hp.mem
theorem HS.putObj {b : Nat} {o : Obj} (h : HS w0 M As w) (hp : QM As (.obj b o) As') (o' : Obj) : HS w0 M (.obj b o' :: As') (w.putObj b o'):=by
 have h1:=h.pick hp;have hb : w.heap[b]? = some o:=h1.head;have hlt : b < w.heap.size:=(Array.getElem?_eq_some_iff.1 hb).1;refine h1.swap (fun _ hx=>hx) rfl rfl rfl (by simp [World.putObj]) (fun c hc=>World.putObj_heap_other (fun e=>hc (by subst e;exact List.mem_singleton.2 rfl))) (World.putObj_heap_same hlt)
end
def Qiy (P : Program) (l : Nat) (args : Array Value) (w : World) (R : Ending → World → Prop) : Prop:=
 ∃ f tmps assign body,(Instr.yield l args).run P w = .ok (.round l f tmps assign body) w ∧ RoundIn Fence.wide 0 P l f tmps assign body w R
section
variable {P : Program} {o : Oper} {L : Qc}
theorem Qs4 {C : World → Prop} {G : Type} {V : G → Value} {F : G → Prop} {C' : G → World → Prop} {x : Operand} {args : Array Operand} {vs : List Value} {ts : Array TypeId} {l : Nat} (ho : o.op = .call { callee:=.value x,args:=args,argTypes:=ts }) (hx : ev L x = some (.func (.yield l) #[] #[]))
  (ha : evs L args.toList = some vs) (hy : ∀ w,C w → Qiy P l vs.toArray w fun e w'=>∃ g,e = .returned (V g) ∧ F g ∧ C' g w') : OpH P o L C V F C':=by
 intro ρ w hρ hw;obtain ⟨f,tmps,assign,body,hr,hR⟩:=hy w hw;have e1 : args.map ρ = vs.toArray:=by rw [← Qeq hρ ha,← List.map_toArray]
 unfold execOp;simp only [ho,resolve,Sem.run_bind,hρ _ _ hx,Deferred.ofValue,e1,Sem.run_pure,Result.andThen_ok,invoke,Array.empty_append,hr];exact RoundIn.mono hR fun e w' ⟨g,he,hf,hc⟩=>⟨V g,he,g,rfl,hf,hc⟩
end
def rdy (fid : FuncId) (tmps : Array Value) (ps : Array Tmp) (assign body : Code) (D : Nat) : Loop:={ state:=.ready,pending:=none,fn:=fid,tmps:=tmps,params:=ps,assign:=assign,body:=body,defers:=D }
section
variable {X : Ctx} {k : List KI} {L : Qc} {w0 : World} {M : List Nat} {As As' : List HA}
theorem Qkw {C : World → Prop} {l : Nat} (hrd : X.rd = some l) (h : ∀ w,C w → ∃ r,w.heap[l]? = some (.loop r) ∧ X.R (.returned (.bool true)) (w.putObj l (.loop { r with state:=.ready,pending:=none }))) : S X [] L C:=by
 intro a w ha hw;show (match X.rd with | none=>bodyPostM X.F 0 X.P X.fn X.R .normal a w | some l=>roundPost X.P l X.R .normal a w);rw [hrd];obtain ⟨r,h1,h2⟩:=h w hw;exact ⟨_,_,run_endRound none h1,h2⟩
theorem Qrg {l D : Nat} {fid : FuncId} {tmps : Array Value} {ps : Array Tmp} {assign body : Code} (hrd : X.rd = some l) (hp : QM As (.obj l (.loop { rdy fid tmps ps assign body D with state:=.busy })) As') (h : ∀ w,HS w0 M (.obj l (.loop (rdy fid tmps ps assign body D)) :: As') w → X.R (.returned (.bool true)) w) : S X [] L (HS w0 M As):=
 Qkw hrd fun w hw=>⟨_,hw.obj_get hp,h _ (hw.putObj hp _)⟩
theorem QfS (d : List Nat) : ∀ k,post { X with df:=d } k = post X k
 | []=>by funext e a w;rfl
 | Sum.inl c :: k=>by funext e a w;cases e <;> simp only [post,QfS d k]
 | Sum.inr (Sum.inl id) :: k=>by funext e a w;cases e <;> simp only [post,QfS d k]
 | Sum.inr (Sum.inr J) :: k=>by funext e a w;cases e <;> simp only [post,QfS d k]
theorem QsB {g : Operand} {ps : Array Tmp} {assign body : Code} {gf : FuncId} {lb : Array Value} {G : Type} {Bs : G → List HA} (hrd : X.rd = none) (hdf : X.df = []) (hg : ev L g = some (.func (.func gf) #[] lb)) (hfn : QK X.P gf = true)
  (hit : ∀ (fid : FuncId) (D l : Nat) (a : Act) (w1 : World) (ob : Obj),ob = .loop (rdy fid a.tmps ps assign body D) → FR X.n [] L a → HS w0 M (.obj l ob :: .obj D (.deferred (some [])) :: As) w1 →
   Calls X.P gf (#[.func (.yield l) #[] #[]] ++ lb) w1 fun e w2=>(∃ v,e = .returned v) ∧ ∃ x,HS w0 M (.obj l ob :: .obj D (.deferred (some [])) :: Bs x) w2)
  (next : ∀ D x,S { X with df:=[D] } k L (HS w0 M (.obj D (.deferred (some [])) :: Bs x))) : S X (.c (.rangeFunc g ps assign body) :: k) L (HS w0 M As):=by
 intro a w ha hw;have ha0 : FR X.n [] L a:=by rw [← hdf];exact ha
 refine wpIn_rangeFunc (F:=X.F) (n:=0) fun fid _=>?_;have hro : X.F.round = none:=hrd;rw [hro];have hw1:=(hw.allocObj (.deferred (some []))).allocObj (.loop (rdy fid a.tmps ps assign body w.heap.size));rw [World.size_alloc] at hw1;have hen:=run_enterLoop_outer (P:=X.P) (w:=w) fid a.tmps ps assign body;obtain ⟨W1,hW1⟩ : ∃ W1,(w.alloc (.deferred (some []))).alloc (.loop (rdy fid a.tmps ps assign body w.heap.size)) = W1:=⟨_,rfl⟩;rw [hW1] at hw1;rw [show (Loop.mk .ready none fid a.tmps ps assign body w.heap.size) = rdy fid a.tmps ps assign body w.heap.size from rfl,hW1] at hen
 refine ⟨w.heap.size + 1,[{ target:=.collected w.heap.size,args:=#[] }],W1,{ target:=.fn (.func gf) lb,args:=#[.func (.yield (w.heap.size + 1)) #[] #[]] },W1,gf,
  #[.func (.yield (w.heap.size + 1)) #[] #[]] ++ lb,W1,hen,?_,fun _ _=>trivial,?_,fun h=>(by cases h),?_⟩
 ·simp only [resolve,ha.evl hg];simp [go_sem]
 ·simp [invoke,go_sem,Qeg hfn]
 ·refine CallsIn.mono (X.callsIn (hit fid _ _ a _ _ rfl ha0 hw1)) fun e w2 he=>?_;obtain ⟨⟨v,rfl⟩,x,hx⟩:=he;refine ⟨none,_,run_endLoop (hx.obj_get .here) (by simp [rdy]),?_⟩;have h3:=next w.heap.size x { a with defers:=[{ target:=.collected w.heap.size,args:=#[] }] ++ a.defers } _ ⟨by show _ ++ a.defers = _;rw [ha0.defers];rfl,ha0.size,ha0.slot⟩ (hx.putObj .here (.loop { rdy fid a.tmps ps assign body w.heap.size with state:=.exhausted })).tail
  rw [QfS] at h3;exact h3
end
end Gx
namespace Gx
open Go Go.RowKit
theorem Qi7 {X : Ctx} {k : List KI} {L : Qc} {C : World → Prop} {α : Type} {c : Code} (md : List Nat) (Lm : α → Qc) (I : α → Prop) (h1 : S X (.c c :: .join (AtI X.n X.df (fun x=>Lm x ++ Qdc md L) (fun _=>C) I) :: k) L C) (h2 : ∀ x,I x → S X k (Lm x ++ Qdc md L) C) : S X (.c c :: k) L C:=
 Yo md Lm (fun _=>C) I h1 h2
end Gx
namespace Gx
open Go Go.RowKit
def HA.pure (p : Prop) : HA:=⟨[],fun _=>p,fun _ _ _ h=>h⟩
section
variable {w0 w : World} {M : List Nat} {As As' : List HA} {p : Prop}
theorem Qwy {X : Ctx} {L : Qc} {D : Nat} (hr : X.fn.results = #[]) (hp : QM As (.obj D (.deferred (some []))) As') (h : ∀ w,HS w0 M As' w → X.R (.returned (.tuple #[])) w) (hrd : X.rd = none:=by rfl) (hdf : X.df = [D]:=by rfl) : S X [] L (HS w0 M As):=by
 intro a w ha hw;show (match X.rd with | none=>bodyPostM X.F 0 X.P X.fn X.R .normal a w | some l=>roundPost X.P l X.R .normal a w);rw [hrd];show LeavesInM X.F 0 X.P X.fn a.tmps X.R a.defers .returning w;rw [ha.defers,hdf];have h1:=(hw.putObj hp (.deferred none)).tail;exact ⟨by simp,.inl ⟨D,_,rfl,run_takeDeferred (hw.obj_get hp),.tuple #[],results_none hr _ _ _,h _ h1⟩⟩
end
end Gx
namespace Gx
open Go Go.RowKit
abbrev iN (P : List Nat) : List Int:=P.map fun i : Nat=>(i : Int)
def Quj (mo : Int) : List Nd → List Nat → Prop
 | _,[]=>True
 | ns,i :: P=>(i < ns.length ∧ (0 < i → mo < ((nth ns i).es.length : Int) → SpOk mo ns i)) ∧ Quj mo (Qv3 mo ns i) P
structure RootOk (mo rm : Int) (ns : List Nd) : Prop where
 lt : 0 < ns.length
 len : ns.length ≤ 900
 us : (nth ns 0).us = true
 spl : rm < ((nth ns 0).es.length : Int) → mo < ((nth (QeN ns).2 (QeN ns).1).es.length : Int) → SpOk mo (QeN ns).2 (QeN ns).1
def Qfm (co : Int) (ns : List Nd) (key : List UInt8) : Nat:=nth (Xg co ns key).1 ((Xg co ns key).1.length - 1)
def Qrv (co : Int) (ns : List Nd) (x : TEnt) : List Nd:=esN ns (Qfm co ns x.key) (Qdk (nth ns (Qfm co ns x.key)).es (Xg co ns x.key).2.1 x)
def insT (co mo rm : Int) (ns : List Nd) (x : TEnt) : List Nd:=if (Xg co ns x.key).2.2 = true then ns else grwN mo rm (Qrv co ns x) (Xg co ns x.key).1.reverse
def insE (co mo rm : Int) (ns : List Nd) (x : TEnt) : Int:=if (Xg co ns x.key).2.2 = true then 5 else if (insT co mo rm ns x).length ≤ 120 then 0 else 16
structure InsOk (co mo rm : Int) (ns : List Nd) (x : TEnt) : Prop where
 ne : 0 < (Xg co ns x.key).1.length
 len : (Xg co ns x.key).1.length ≤ 900
 lf : Qfm co ns x.key < ns.length
 es : (nth ns (Qfm co ns x.key)).es.length ≤ 900
 pl : (Xg co ns x.key).2.1 ≤ (nth ns (Qfm co ns x.key)).es.length
 grw : Quj mo (Qrv co ns x) (Xg co ns x.key).1.reverse
 root : RootOk mo rm (Qu9 mo (Qrv co ns x) (Xg co ns x.key).1.reverse)
section
variable {w0 w : World} {M : List Nat} {As As' : List HA} {a : Option Addr} {cap : Nat} {P : List Nat}
theorem HS.kids_some {l : List Int} (hn : 0 < l.length) (h : HS w0 M As w) (hp : QM As (.kids a cap l) As') : ∃ g,a = some ⟨g,0,none⟩:=by
 obtain ⟨g,e,_⟩:=HS.own_blk hn hp h;exact ⟨g,e⟩
end
section
variable {w0 w : World} {M : List Nat} {As A1 A2 A3 : List HA} {et : Nat} {L : List LNd} {i t gn cap nt' : Nat} {y : LNd}
end
section
variable {w0 w : World} {M : List Nat} {As A1 A2 A3 : List HA} {et : Nat} {L : List LNd} {i gn cap nt' : Nat}
end
def givF (ns : List Nd) (p k f t : Nat) : List Nd:=
 let P:=nth ns p;let F:=nth ns f;let T:=nth ns t
 let n:=esN (esN (esN ns t (Qdk T.es 0 (nth P.es k))) p (P.es.set k (nth F.es (F.es.length - 1)))) f (F.es.take (F.es.length - 1))
 if F.cs.length = 0 then n else csN (csN n t (Qdk T.cs 0 (F.cs.getD (F.cs.length - 1) 0))) f (F.cs.take (F.cs.length - 1))
def givB (ns : List Nd) (p k f t : Nat) : List Nd:=
 let P:=nth ns p;let F:=nth ns f;let T:=nth ns t
 let n:=esN (esN (esN ns t (T.es ++ [nth P.es k])) p (P.es.set k (nth F.es 0))) f (Qe9 F.es 0)
 if F.cs.length = 0 then n else csN (csN n t (T.cs ++ [F.cs.getD 0 0])) f (Qe9 F.cs 0)
structure GivOk (ns : List Nd) (p k f t : Nat) : Prop where
 pl : p < ns.length
 fl : f < ns.length
 tl : t < ns.length
 pf : p ≠ f
 pt : p ≠ t
 ft : f ≠ t
 ke : k < (nth ns p).es.length
 kc : k + 1 < (nth ns p).cs.length
 fe : 0 < (nth ns f).es.length
 len : ns.length ≤ 900
 sm : Sm 900 ns
abbrev LNd.gone : LNd:=⟨false,none,0,[],none,0,[]⟩
section
variable {w0 w : World} {M : List Nat} {As A1 A2 A3 : List HA} {et : Nat} {L : List LNd} {i j gn cap nt' : Nat}
end
def mrgN (ns : List Nd) (p k t f : Nat) : List Nd:=
 (csN (esN (csN (esN ns t ((nth ns t).es ++ nth (nth ns p).es k :: (nth ns f).es)) t ((nth ns t).cs ++ (nth ns f).cs)) p (Qe9 (nth ns p).es k)) p (Qe9 (nth ns p).cs (k + 1))).set f ⟨false,[],[]⟩
structure MrgOk (ns : List Nd) (p k f t : Nat) : Prop where
 pl : p < ns.length
 fl : f < ns.length
 tl : t < ns.length
 pf : p ≠ f
 pt : p ≠ t
 ft : f ≠ t
 ke : k < (nth ns p).es.length
 kc : k + 1 < (nth ns p).cs.length
 len : ns.length ≤ 900
 sm : Sm 900 ns
def kdN (ns : List Nd) (p k : Nat) : Nat:=((nth ns p).cs.getD k 0).toNat
def Quc (mo : Int) (ns : List Nd) (p : Nat) (x : Int) : Bool:=(decide (0 ≤ x) && decide (x ≤ ((nth ns p).cs.length : Int) - 1)) && decide (mo / 2 < ((nth ns (kdN ns p x.toNat)).es.length : Int))
def filP (mo : Int) (ns : List Nd) (p k : Nat) : List Nd:=
 if Quc mo ns p ((k : Int) - 1) = true then givF ns p (k - 1) (kdN ns p (k - 1)) (kdN ns p k)
 else if Quc mo ns p ((k : Int) + 1) = true then givB ns p k (kdN ns p (k + 1)) (kdN ns p k)
 else if 0 < k then mrgN ns p (k - 1) (kdN ns p (k - 1)) (kdN ns p k)
 else if 1 < (nth ns p).cs.length then mrgN ns p k (kdN ns p k) (kdN ns p (k + 1))
 else ns
def filN (mo : Int) (ns : List Nd) (i : Nat) : List Nd:=filP mo ns (Z1 (i : Int) ns 0).1 (Z1 (i : Int) ns 0).2
structure FilOk (mo : Int) (ns : List Nd) (p k : Nat) : Prop where
 mo0 : 0 ≤ mo ∧ mo ≤ 1000
 pl : p < ns.length
 kl : k < (nth ns p).cs.length
 sh : (nth ns p).cs.length = (nth ns p).es.length + 1
 kid : ∀ x,x < (nth ns p).cs.length → 0 ≤ (nth ns p).cs.getD x 0 ∧ kdN ns p x < ns.length ∧ p ≠ kdN ns p x
 dis : ∀ x y,x < (nth ns p).cs.length → y < (nth ns p).cs.length → x ≠ y → kdN ns p x ≠ kdN ns p y
 len : ns.length ≤ 900
 sm : Sm 900 ns
section
variable {mo : Int} {ns : List Nd} {p k : Nat}
end
def tln (ns : List Nd) : Nat → Nat
 | 0=>0
 | n + 1=>if (nth ns n).us = true then n + 1 else tln ns n
def trmN (ns : List Nd) : List Nd:=ns.take (tln ns ns.length)
section
variable {w0 w : World} {M : List Nat} {As As' : List HA} {et : Nat} {L : List LNd}
end
def rgtN (ns : List Nd) : Nat → Nat → List Nat
 | 0,i=>[i]
 | f + 1,i=>if (nth ns i).cs.length = 0 then [i] else i :: rgtN ns f (kdN ns i ((nth ns i).cs.length - 1))
def QuF (ns : List Nd) : Nat → Nat → Prop
 | 0,_=>False
 | f + 1,i=>i < ns.length ∧ ((nth ns i).cs.length = 0 ∨ (0 ≤ (nth ns i).cs.getD ((nth ns i).cs.length - 1) 0 ∧ QuF ns f (kdN ns i ((nth ns i).cs.length - 1))))
def Q5 (P : List Nat) : Nat:=nth P (P.length - 1)
def ZZ (ns : List Nd) (P : List Nat) (at' : Nat) : List Nat:=if (nth ns (Q5 P)).cs.length = 0 then P else P ++ rgtN ns ns.length (kdN ns (Q5 P) at')
def Qu5 (ns : List Nd) (P : List Nat) (at' : Nat) : Nat:=if (nth ns (Q5 P)).cs.length = 0 then at' else (nth ns (Q5 (ZZ ns P at'))).es.length - 1
def QoP (ns : List Nd) (P : List Nat) (at' : Nat) : List Nd:=if (nth ns (Q5 P)).cs.length = 0 then ns else esN ns (Q5 P) ((nth ns (Q5 P)).es.set at' (nth (nth ns (Q5 (ZZ ns P at'))).es ((nth ns (Q5 (ZZ ns P at'))).es.length - 1)))
def Qqq (ns : List Nd) (P : List Nat) (at' : Nat) : List Nd:=esN (QoP ns P at') (Q5 (ZZ ns P at')) (Qe9 (nth (QoP ns P at') (Q5 (ZZ ns P at'))).es (Qu5 ns P at'))
def Qvm (mo : Int) (ns : List Nd) (i : Nat) : List Nd:=if 0 < i ∧ ((nth ns i).es.length : Int) < mo / 2 then filN mo ns i else ns
def Qu3 (mo : Int) (ns : List Nd) (P : List Nat) : List Nd:=P.foldl (Qvm mo) ns
def rotN (rm : Int) (ns : List Nd) : List Nd:=
 if (nth ns 0).es.length = 0 ∧ (nth ns 0).cs.length = 1 then
  if ((nth ns (kdN ns 0 0)).es.length : Int) ≤ rm then (ns.set 0 (nth ns (kdN ns 0 0))).set (kdN ns 0 0) ⟨false,[],[]⟩ else ns
 else ns
def remN (mo rm : Int) (ns : List Nd) (P : List Nat) (at' : Nat) : List Nd:=trmN (rotN rm (Qu3 mo (Qqq ns P at') (ZZ ns P at').reverse))
def Qp0 (mo : Int) : List Nd → List Nat → Prop
 | _,[]=>True
 | ns,i :: P=>(i < ns.length ∧ (0 < i → ((nth ns i).es.length : Int) < mo / 2 → FilOk mo ns (Z1 (i : Int) ns 0).1 (Z1 (i : Int) ns 0).2)) ∧ Qp0 mo (Qvm mo ns i) P
structure RotOk (rm : Int) (ns : List Nd) : Prop where
 lt : 0 < ns.length
 len : ns.length ≤ 900
 us : (nth ns 0).us = true
 kid : (nth ns 0).cs.length = 1 → 0 < (nth ns 0).cs.getD 0 0 ∧ kdN ns 0 0 < ns.length ∧ (nth ns (kdN ns 0 0)).us = true
structure RemOk (mo rm : Int) (ns : List Nd) (P : List Nat) (at' : Nat) : Prop where
 mo0 : 0 ≤ mo ∧ mo ≤ 1000
 ne : 0 < P.length
 len : P.length ≤ 900
 nl : ns.length ≤ 900
 sm : Sm 900 ns
 lst : Q5 P < ns.length
 atk : at' < (nth ns (Q5 P)).es.length
 rgt : 0 < (nth ns (Q5 P)).cs.length → at' < (nth ns (Q5 P)).cs.length ∧ 0 ≤ (nth ns (Q5 P)).cs.getD at' 0 ∧ QuF ns ns.length (kdN ns (Q5 P) at') ∧ Q5 P ≠ Q5 (ZZ ns P at') ∧ 0 < (nth ns (Q5 (ZZ ns P at'))).es.length ∧ Q5 (ZZ ns P at') < ns.length
 qn : 0 < (ZZ ns P at').length ∧ (ZZ ns P at').length ≤ 1900
 ql : Q5 (ZZ ns P at') < ns.length
 dl : Qu5 ns P at' < (nth (QoP ns P at') (Q5 (ZZ ns P at'))).es.length
 sm1 : Sm 900 (QoP ns P at')
 fil : Qp0 mo (Qqq ns P at') (ZZ ns P at').reverse
 rot : RotOk rm (Qu3 mo (Qqq ns P at') (ZZ ns P at').reverse)
abbrev ownP (a : Option Addr) (c : Nat) (P : List Nat) : HA:=.own (.slice a P.length c) 3 1 P.length (P.map fun i : Nat=>Value.int .i64 (i : Int))
section
variable {w0 w : World} {M : List Nat} {As A1 A2 A3 : List HA} {a : Option Addr} {c : Nat} {P : List Nat}
end
section
variable {w0 w : World} {M : List Nat} {As A1 A2 A3 : List HA} {et : Nat} {L : List LNd} {i j gn cap nt' : Nat}
end
section
variable {ns : List Nd} {P : List Nat} {k : Nat} {I F : Nd} {rm : Int}
end
theorem QdU {α : Type} [Inhabited α] {l m : List α} (hl : l.length = m.length) (h : ∀ j,j < l.length → nth l j = nth m j) : l = m:=by
 apply List.ext_getElem?
 grind [Z2]
def QeK (a b : List Nd) (k : Nat) : List Nat:=(List.range k).filter fun i=>decide (nth a i ≠ nth b i)
def Qi8 (a b : List Nd) : List Nat:=QeK a b (max a.length b.length)
theorem Qts {a b : List Nd} {k : Nat} (h : nth a k = nth b k) : QeK a b (k + 1) = QeK a b k:=by
 unfold QeK;rw [List.range_succ,List.filter_append];simp [h]
theorem Qt3 {a b : List Nd} {k : Nat} (h : nth a k ≠ nth b k) : QeK a b (k + 1) = QeK a b k ++ [k]:=by
 unfold QeK;rw [List.range_succ,List.filter_append];simp [h]
theorem Qpj (a b : List Nd) (k : Nat) : (QeK a b k).length ≤ k:=by
 have:=List.length_filter_le (fun i=>decide (nth a i ≠ nth b i)) (List.range k);rw [List.length_range] at this;exact this
theorem QsM {x y : TEnt} (h1 : (bs x.key).data.toList = (bs y.key).data.toList) (h2 : (bs x.val).data.toList = (bs y.val).data.toList) : x = y:=by
 cases x
 simp_all
theorem QL (L : List LNd) (k : Nat) : nth (pln L) k = (nth L k).pl:=by
 rcases Nat.lt_or_ge k L.length with h | h
 ·exact Q0 h
 ·rw [Qaw (by rw [Qe];exact h),Qaw h];rfl
theorem Rw.nilR {α : Type} [Inhabited α] {vals : α → List Value} {sz : Nat} {w : World} {M : List Nat} {a : Option Addr} : Rw vals sz w M a ([] : List α):=⟨fun h=>absurd h (Nat.lt_irrefl _)⟩
theorem Nt.esA {w : World} {M : List Nat} {a : Option Addr} {L : List LNd} (h : Nt w M a L) (k : Nat) : Rw TEnt.vals 2 w M (nth L k).ea (nth L k).es:=by
 rcases Nat.lt_or_ge k L.length with hk | hk
 ·exact h.es hk
 ·rw [Qaw hk];exact Rw.nilR
theorem Nt.csA {w : World} {M : List Nat} {a : Option Addr} {L : List LNd} (h : Nt w M a L) (k : Nat) : Rw inV 1 w M (nth L k).ca (nth L k).cs:=by
 rcases Nat.lt_or_ge k L.length with hk | hk
 ·exact h.cs hk
 ·rw [Qaw hk];exact Rw.nilR
theorem Qxu (n m : Nd) : decide (n = m) = (decide (n.us = m.us) && (decide (n.es = m.es) && decide (n.cs = m.cs))):=by
 cases n;cases m
 grind
theorem Qrz (n m : LNd) : ((n.us == m.us && decide (n.es = m.es)) && decide (n.cs = m.cs)) = decide (n.pl = m.pl):=by
 rw [Qxu,Bool.and_assoc];rfl
theorem keyE_ok {co : Int} {k : List UInt8} (h : Yf co k = 0) : QU co k = true:=by grind [Yf]
abbrev LNd.fre : LNd:=⟨true,none,0,[],none,0,[]⟩
section
variable {w0 w : World} {M : List Nat} {As A1 A2 A3 : List HA} {et : Nat} {L : List LNd} {i j gn cap nt' : Nat}
end
section
variable {w0 w : World} {M : List Nat} {As A1 A2 A3 : List HA} {et : Nat} {L : List LNd} {i gn cap nt' : Nat}
end
def frsI (ns : List Nd) : Nat → Nat → Nat
 | 0,i=>i
 | f + 1,i=>if i < ns.length then if (nth ns i).us = true then frsI ns f (i + 1) else i else i
def QuU (ns : List Nd) : Nat:=frsI ns ns.length 1
def Qg1 (ns : List Nd) : Nat × List Nd:=if QuU ns < ns.length then (QuU ns,ns.set (QuU ns) ⟨true,[],[]⟩) else (ns.length,ns ++ [⟨true,[],[]⟩])
def ixR (cs : List Int) (c : Int) : Nat:=if ixB (Qea cs c) < cs.length then ixB (Qea cs c) else 0
def Qdm (mo : Int) (ns : List Nd) (i : Nat) : List Nd:=
 let F:=(Qg1 ns).2;let o:=(Qg1 ns).1;let x:=nth F i
 let n:=esN (esN F o (x.es.drop (Qaq mo + 1))) i (x.es.take (Qaq mo))
 if x.cs.length = 0 then n else csN (csN n o (x.cs.drop (Qaq mo + 1))) i (x.cs.take (Qaq mo + 1))
def Qt2 (mo : Int) (ns : List Nd) (p i : Nat) : List Nd:=addP (Qdm mo ns i) p (ixR (nth (Qdm mo ns i) p).cs (i : Int)) (nth (nth (Qg1 ns).2 i).es (Qaq mo)) (Qg1 ns).1
def Qe3 (ns : List Nd) : Nat × List Nd:=((Qg1 ns).1,csN (esN (csN (esN (Qg1 ns).2 (Qg1 ns).1 (nth (Qg1 ns).2 0).es) (Qg1 ns).1 (nth (Qg1 ns).2 0).cs) 0 []) 0 [((Qg1 ns).1 : Int)])
def Qm8 (mo : Int) (P : List Nat) : Nat → List Nd → List Nd
 | 0,ns=>ns
 | k + 1,ns=>Qm8 mo P k (if mo < ((nth ns (nth P (k + 1))).es.length : Int) then Qt2 mo ns (nth P k) (nth P (k + 1)) else ns)
def Qxa (mo rm : Int) (ns : List Nd) : List Nd:=if rm < ((nth ns 0).es.length : Int) then if mo < ((nth (Qe3 ns).2 (Qe3 ns).1).es.length : Int) then Qt2 mo (Qe3 ns).2 0 (Qe3 ns).1 else (Qe3 ns).2 else ns
def insR (co mo rm : Int) (ns : List Nd) (x : TEnt) : List Nd:=
 let P:=(Xg co ns x.key).1;let lf:=Q5 P
 Qxa mo rm (Qm8 mo P (P.length - 1) (esN ns lf (Qdk (nth ns lf).es (plc co (nth ns lf).es x.key) x)))
structure SpROk (mo : Int) (ns : List Nd) (p i : Nat) : Prop where
 mo0 : 0 ≤ mo ∧ mo ≤ 1000
 len : ns.length ≤ 900
 sm : Sm 900 ns
 lt : i < ns.length
 us : (nth ns i).us = true
 es : Qaq mo < (nth ns i).es.length
 cs : (nth ns i).cs.length = 0 ∨ Qaq mo + 1 ≤ (nth ns i).cs.length
 par : p < ns.length
 parE : ixR (nth (Qdm mo ns i) p).cs (i : Int) ≤ (nth (Qdm mo ns i) p).es.length
 parC : ixR (nth (Qdm mo ns i) p).cs (i : Int) + 1 ≤ (nth (Qdm mo ns i) p).cs.length
def QqN (mo : Int) (P : List Nat) : Nat → List Nd → Prop
 | 0,_=>True
 | k + 1,ns=>(nth P (k + 1) < ns.length ∧ (mo < ((nth ns (nth P (k + 1))).es.length : Int) → SpROk mo ns (nth P k) (nth P (k + 1)))) ∧ QqN mo P k (if mo < ((nth ns (nth P (k + 1))).es.length : Int) then Qt2 mo ns (nth P k) (nth P (k + 1)) else ns)
structure RootROk (mo rm : Int) (ns : List Nd) : Prop where
 lt : 0 < ns.length
 len : ns.length ≤ 900
 us : (nth ns 0).us = true
 spl : rm < ((nth ns 0).es.length : Int) → mo < ((nth (Qe3 ns).2 (Qe3 ns).1).es.length : Int) → SpROk mo (Qe3 ns).2 0 (Qe3 ns).1
structure InsROk (co mo rm : Int) (ns : List Nd) (x : TEnt) : Prop where
 ne : 0 < (Xg co ns x.key).1.length
 len : (Xg co ns x.key).1.length ≤ 900
 lf : Q5 (Xg co ns x.key).1 < ns.length
 grw : QqN mo (Xg co ns x.key).1 ((Xg co ns x.key).1.length - 1) (esN ns (Q5 (Xg co ns x.key).1) (Qdk (nth ns (Q5 (Xg co ns x.key).1)).es (plc co (nth ns (Q5 (Xg co ns x.key).1)).es x.key) x))
 root : RootROk mo rm (Qm8 mo (Xg co ns x.key).1 ((Xg co ns x.key).1.length - 1) (esN ns (Q5 (Xg co ns x.key).1) (Qdk (nth ns (Q5 (Xg co ns x.key).1)).es (plc co (nth ns (Q5 (Xg co ns x.key).1)).es x.key) x)))
def Qui (co : Int) (ns : List Nd) (x : TEnt) : List Nd:=esN ns (Q5 (Xg co ns x.key).1) (Qdk (nth ns (Q5 (Xg co ns x.key).1)).es (plc co (nth ns (Q5 (Xg co ns x.key).1)).es x.key) x)
def smB (m : Nat) (ns : List Nd) : Bool:=ns.all fun n=>decide (n.es.length ≤ m) && decide (n.cs.length ≤ m)
def bdB (ns : List Nd) : Bool:=decide (ns.length ≤ 1000) && smB 1000 ns
def spRB (mo : Int) (ns : List Nd) (p i : Nat) : Bool:=decide ((0 ≤ mo ∧ mo ≤ 1000) ∧ ns.length ≤ 900 ∧ smB 900 ns = true ∧ i < ns.length ∧ (nth ns i).us = true ∧ Qaq mo < (nth ns i).es.length ∧ ((nth ns i).cs.length = 0 ∨ Qaq mo + 1 ≤ (nth ns i).cs.length) ∧ p < ns.length ∧ ixR (nth (Qdm mo ns i) p).cs (i : Int) ≤ (nth (Qdm mo ns i) p).es.length ∧ ixR (nth (Qdm mo ns i) p).cs (i : Int) + 1 ≤ (nth (Qdm mo ns i) p).cs.length)
def Quf (mo : Int) (P : List Nat) : Nat → List Nd → Bool
 | 0,_=>true
 | k + 1,ns=>(decide (nth P (k + 1) < ns.length) && (!decide (mo < ((nth ns (nth P (k + 1))).es.length : Int)) || spRB mo ns (nth P k) (nth P (k + 1)))) && Quf mo P k (if mo < ((nth ns (nth P (k + 1))).es.length : Int) then Qt2 mo ns (nth P k) (nth P (k + 1)) else ns)
def QuW (mo rm : Int) (ns : List Nd) : Bool:=decide (0 < ns.length ∧ ns.length ≤ 900 ∧ (nth ns 0).us = true ∧ (rm < ((nth ns 0).es.length : Int) → mo < ((nth (Qe3 ns).2 (Qe3 ns).1).es.length : Int) → spRB mo (Qe3 ns).2 0 (Qe3 ns).1 = true))
def Qwb (co mo rm : Int) (ns : List Nd) (x : TEnt) : Bool:=decide (0 < (Xg co ns x.key).1.length ∧ (Xg co ns x.key).1.length ≤ 900 ∧ Q5 (Xg co ns x.key).1 < ns.length ∧ Quf mo (Xg co ns x.key).1 ((Xg co ns x.key).1.length - 1) (Qui co ns x) = true ∧ QuW mo rm (Qm8 mo (Xg co ns x.key).1 ((Xg co ns x.key).1.length - 1) (Qui co ns x)) = true)
def spB (mo : Int) (ns : List Nd) (i : Nat) : Bool:=decide ((0 ≤ mo ∧ mo ≤ 1000) ∧ ns.length ≤ 900 ∧ smB 900 ns = true ∧ i < ns.length ∧ (nth ns i).us = true ∧ Qaq mo < (nth ns i).es.length ∧ ((nth ns i).cs.length = 0 ∨ Qaq mo + 1 ≤ (nth ns i).cs.length) ∧ (Z1 (i : Int) (Zs mo ns i) 0).1 < (Zs mo ns i).length ∧ (Z1 (i : Int) (Zs mo ns i) 0).2 ≤ (nth (Zs mo ns i) (Z1 (i : Int) (Zs mo ns i) 0).1).es.length ∧ (Z1 (i : Int) (Zs mo ns i) 0).2 + 1 ≤ (nth (Zs mo ns i) (Z1 (i : Int) (Zs mo ns i) 0).1).cs.length)
def grwB (mo : Int) : List Nd → List Nat → Bool
 | _,[]=>true
 | ns,i :: P=>(decide (i < ns.length) && (!decide (0 < i ∧ mo < ((nth ns i).es.length : Int)) || spB mo ns i)) && grwB mo (Qv3 mo ns i) P
def Qw8 (mo rm : Int) (ns : List Nd) : Bool:=decide (0 < ns.length ∧ ns.length ≤ 900 ∧ (nth ns 0).us = true ∧ (rm < ((nth ns 0).es.length : Int) → mo < ((nth (QeN ns).2 (QeN ns).1).es.length : Int) → spB mo (QeN ns).2 (QeN ns).1 = true))
def insOB (co mo rm : Int) (ns : List Nd) (x : TEnt) : Bool:=decide (0 < (Xg co ns x.key).1.length ∧ (Xg co ns x.key).1.length ≤ 900 ∧ Qfm co ns x.key < ns.length ∧ (nth ns (Qfm co ns x.key)).es.length ≤ 900 ∧ (Xg co ns x.key).2.1 ≤ (nth ns (Qfm co ns x.key)).es.length ∧ grwB mo (Qrv co ns x) (Xg co ns x.key).1.reverse = true ∧ Qw8 mo rm (Qu9 mo (Qrv co ns x) (Xg co ns x.key).1.reverse) = true)
def filB (mo : Int) (ns : List Nd) (p k : Nat) : Bool:=decide ((0 ≤ mo ∧ mo ≤ 1000) ∧ p < ns.length ∧ k < (nth ns p).cs.length ∧ (nth ns p).cs.length = (nth ns p).es.length + 1 ∧ (∀ x,x < (nth ns p).cs.length → 0 ≤ (nth ns p).cs.getD x 0 ∧ kdN ns p x < ns.length ∧ p ≠ kdN ns p x) ∧ (∀ x,x < (nth ns p).cs.length → ∀ y,y < (nth ns p).cs.length → x ≠ y → kdN ns p x ≠ kdN ns p y) ∧ ns.length ≤ 900 ∧ smB 900 ns = true)
def Qus (mo : Int) : List Nd → List Nat → Bool
 | _,[]=>true
 | ns,i :: P=>(decide (i < ns.length) && (!decide (0 < i ∧ ((nth ns i).es.length : Int) < mo / 2) || filB mo ns (Z1 (i : Int) ns 0).1 (Z1 (i : Int) ns 0).2)) && Qus mo (Qvm mo ns i) P
def rotB (ns : List Nd) : Bool:=decide (0 < ns.length ∧ ns.length ≤ 900 ∧ (nth ns 0).us = true ∧ ((nth ns 0).cs.length = 1 → 0 < (nth ns 0).cs.getD 0 0 ∧ kdN ns 0 0 < ns.length ∧ (nth ns (kdN ns 0 0)).us = true))
def rgtB (ns : List Nd) : Nat → Nat → Bool
 | 0,_=>false
 | f + 1,i=>decide (i < ns.length) && (decide ((nth ns i).cs.length = 0) || (decide (0 ≤ (nth ns i).cs.getD ((nth ns i).cs.length - 1) 0) && rgtB ns f (kdN ns i ((nth ns i).cs.length - 1))))
def remB (mo rm : Int) (ns : List Nd) (P : List Nat) (k : Nat) : Bool:=decide ((0 ≤ mo ∧ mo ≤ 1000) ∧ 0 < P.length ∧ P.length ≤ 900 ∧ ns.length ≤ 900 ∧ smB 900 ns = true ∧ Q5 P < ns.length ∧ k < (nth ns (Q5 P)).es.length ∧ (0 < (nth ns (Q5 P)).cs.length → k < (nth ns (Q5 P)).cs.length ∧ 0 ≤ (nth ns (Q5 P)).cs.getD k 0 ∧ rgtB ns ns.length (kdN ns (Q5 P) k) = true ∧ Q5 P ≠ Q5 (ZZ ns P k) ∧ 0 < (nth ns (Q5 (ZZ ns P k))).es.length ∧ Q5 (ZZ ns P k) < ns.length) ∧ (0 < (ZZ ns P k).length ∧ (ZZ ns P k).length ≤ 1900) ∧ Q5 (ZZ ns P k) < ns.length ∧ Qu5 ns P k < (nth (QoP ns P k) (Q5 (ZZ ns P k))).es.length ∧ smB 900 (QoP ns P k) = true ∧ Qus mo (Qqq ns P k) (ZZ ns P k).reverse = true ∧ rotB (Qu3 mo (Qqq ns P k) (ZZ ns P k).reverse) = true)
def QrA (k : Nat) : TEnt:=⟨[UInt8.ofNat (97 + k)],[]⟩
def QeJ : Nat → List Nd
 | 0=>[⟨true,[],[]⟩]
 | k + 1=>insR 0 4 2 (QeJ k) (QrA k)
def letB (k : Nat) : Bool:=decide (0 < (QeJ k).length) && (bdB (QeJ k) && (decide ((X5 ⟨0,4,2,QeJ k⟩ (QeJ k).length 0 []).2 = 0) && (Qwb 0 4 2 (QeJ k) (QrA k) && QU 0 (QrA k).key)))
structure LetOk (k : Nat) : Prop where
 n0 : 0 < (QeJ k).length
 bd : Bd (QeJ k)
 tok : TOk 0 (QeJ k)
 ins : InsROk 0 4 2 (QeJ k) (QrA k)
 key : QU 0 (QrA k).key = true
abbrev aK : TEnt:=⟨[107],[]⟩
abbrev i0 : Int:=((0 : Nat) : Int)
abbrev aR : List Nd:=remN 4 2 (QeJ 11) (Xg i0 (QeJ 11) [99]).1 (Xg i0 (QeJ 11) [99]).2.1
theorem Qqf {a b : List Nd} (h : a = b) : Qi8 a b = []:=by
 subst h;unfold Qi8 QeK;simp
end Gx
namespace Gx
open Go Go.RowKit
section
variable {X : Ctx} {ops : Array Oper} {F : List Nat} {fuel i : Nat} {listed : Array Bool} {k : List KI} {L : Qc} {d ty : Nat} {op : Op} {pos : String} {aft : Array Edge} {w0 : World} {M : List Nat} {As Bs : List HA}
theorem Quk {B : World → Prop} {G : Type} {V : G → Value} {Fg : G → Prop} {C' : G → World → Prop} {j : Nat} {want b : Bool} (i dj : Nat) (hi : ops[i]? = some ⟨some d,op,ty,pos,aft,some (j,want)⟩) (hj : (ops[j]?).bind (·.dst) = some dj) (hb : Qc.get L dj = some (.bool b)) (hw : b = want) (h : OpH X.P ⟨some d,op,ty,pos,aft,none⟩ L (HS w0 M As) V Fg C') (hr : (Region.ready .any ops listed == [i]) = true) (hB : ∀ w,HS w0 M As w → B w) (hd : Nat.blt d X.n = true)
  (next : ∀ g,Fg g → D X ops F B fuel (listed.setIfInBounds i true) k ((d,V g) :: L) (C' g)) : D X ops F B (fuel + 1) listed k L (HS w0 M As):=by
 intro hcl a ha;have hy : yielded ops a.tmps j = some b:=by simp [yielded,hj,ha.slot _ _ hb]
 have hr' : Region.ready .any ops listed = [i]:=by simpa using hr
 refine QfW hr' (fun _=>⟨hB,HS.stab _ _ _⟩) ?_;unfold Ys;simp only [hi];rw [if_pos (by simp [Region.wanted,hy,hw])];exact ⟨G,V,Fg,C',fun w hw=>h a.eval w ha.agr hw,fun g hg=>next g hg (hcl.set (by rw [hr'];exact List.mem_singleton.2 rfl)) _ (ha.put d _ hd)⟩
end
end Gx
namespace Gx
open Go Go.RowKit
section
variable {w0 w : World} {M : List Nat} {As Cs Ds Es Fs : List HA}
end
end Gx
namespace Gx
open Go Go.RowKit
end Gx
namespace Gx
open Go Go.RowKit
section
variable {X : Ctx} {ops : Array Oper} {k : List KI} {L : Qc} {C : World → Prop}
end
end Gx
namespace Gx
open Go Go.RowKit
section
variable {P : Program} {o : Oper} {L : Qc} {w0 : World} {M : List Nat} {As : List HA}
end
section
variable {X : Ctx} {ops : Array Oper} {k : List KI} {L : Qc} {C : World → Prop}
end
def endsL (fid : FuncId) (tmps : Array Value) (ps : Array Tmp) (assign body : Code) (D : Nat) : Option Nat → Obj
 | none=>.loop (rdy fid tmps ps assign body D)
 | some id=>.loop { rdy fid tmps ps assign body D with state:=.done,pending:=some (.exit id) }
section
variable {X : Ctx} {k : List KI} {L : Qc} {w0 : World} {M : List Nat} {As As' : List HA}
def rngK (k : List KI) : Option Nat → List KI
 | none=>k
 | some id=>.c (.exit id) :: k
end
def doneO (id : Nat) : Obj → Obj
 | .loop r=>.loop { r with state:=.done,pending:=some (.exit id) }
 | o=>o
inductive RunY {S α : Type} (st : S → α → S → Prop) (co : S → Bool) : S → List α → S → Bool → Prop
 | nil (s : S) : RunY st co s [] s true
 | go {s s' s'' : S} {x : α} {l : List α} {b : Bool} (h : st s x s') (hc : co s' = true) (hr : RunY st co s' l s'' b) : RunY st co s (x :: l) s'' b
 | stop {s s' : S} {x : α} {l : List α} (h : st s x s') (hc : co s' = false) : RunY st co s (x :: l) s' false
section
variable {S α : Type} {st : S → α → S → Prop} {co : S → Bool} {s s1 s2 : S} {A B : List α} {b : Bool}
end
end Gx
namespace Gx
open Go Go.RowKit
class TFd (P : Program) (t f : Nat) (off ft : outParam Nat) : Prop where h : tfd P t f = some (off,ft)
class TSz (P : Program) (t : Nat) (n : outParam Nat) (ag : outParam Bool) : Prop where h : tsz P t = some (n,ag)
class TSe (P : Program) (t : Nat) (e : outParam Nat) : Prop where h : P.underlying t = some (.slice e)
section
variable {X : Ctx} {ops : Array Oper} {rest : List Oper} {k : List KI} {L : Qc} {d ty : Nat} {pos : String} {aft : Array Edge} {C : World → Prop}
theorem oFa {st f x b i off ft sz : Nat} {ag : Bool} [h1 : TFd X.P st f off ft] [h2 : TSz X.P ft sz ag] (next : O X ops rest k ((d,.pointer (some ⟨b,i + off,none⟩)) :: L) C) (hx : Qc.get L x = some (.pointer (some ⟨b,i,none⟩)):=by rfl) (hs : Nat.blt 0 sz = true:=by rfl) (hd : Nat.blt d X.n = true:=by rfl) :
  O X ops (⟨some d,.fieldAddr st (.tmp x) f,ty,pos,aft,none⟩ :: rest) k L C:=o_p (QaG rfl hx h1.h h2.h hs) hd next
theorem oLs {t e x n cap : Nat} {a : Option Addr} [h1 : TSe X.P t e] (next : O X ops rest k ((d,.int .i64 n) :: L) C) (hx : Qc.get L x = some (.slice a n cap):=by rfl) (hd : Nat.blt d X.n = true:=by rfl) :
  O X ops (⟨some d,.call { callee:=.builtin .len,args:=#[.tmp x],argTypes:=#[t] },ty,pos,aft,none⟩ :: rest) k L C:=o_p (QR (x:=.tmp x) rfl hx h1.h) hd next
theorem oLd {w0 : World} {M : List Nat} {As As' : List HA} {t x b tot i : Nat} {bt : TypeId} {cs : List Value} {v : Value} [h1 : TSz X.P t 1 false] (next : O X ops rest k ((d,v) :: L) (HS w0 M As)) (hx : Qc.get L x = some (.pointer (some ⟨b,i,none⟩)):=by rfl) (hp : QM As (.blk b bt tot cs) As':=by repeat (first | exact .here | apply QM.there)) (hv : cs[i]? = some v:=by rfl) (hd : Nat.blt d X.n = true:=by rfl) :
  O X ops (⟨some d,.load t (.tmp x),ty,pos,aft,none⟩ :: rest) k L (HS w0 M As):=o_q (YB rfl hx h1.h hp hv) hd next
theorem oLn {w0 : World} {M : List Nat} {As As' : List HA} {t x b tot i n : Nat} {bt : TypeId} {cs : List Value} [h1 : TSz X.P t n true] (next : O X ops rest k ((d,.agg (cut cs i n).toArray) :: L) (HS w0 M As)) (hx : Qc.get L x = some (.pointer (some ⟨b,i,none⟩)):=by rfl) (hp : QM As (.blk b bt tot cs) As':=by repeat (first | exact .here | apply QM.there)) (hl : Nat.ble (i + n) cs.length = true:=by rfl) (hd : Nat.blt d X.n = true:=by rfl) :
  O X ops (⟨some d,.load t (.tmp x),ty,pos,aft,none⟩ :: rest) k L (HS w0 M As):=o_q (Z5 rfl hx h1.h hp hl) hd next
end
section
variable {X : Ctx} {ops : Array Oper} {F : List Nat} {fuel : Nat} {listed : Array Bool} {k : List KI} {L : Qc} {d ty : Nat} {pos : String} {aft : Array Edge} {C B : World → Prop} {w0 : World} {M : List Nat} {As As' Bs : List HA}
theorem dFa (i : Nat) {st f x b o off ft sz : Nat} {ag : Bool} (next : D X ops F B fuel (listed.setIfInBounds i true) k ((d,.pointer (some ⟨b,o + off,none⟩)) :: L) C) (hi : ops[i]? = some ⟨some d,.fieldAddr st (.tmp x) f,ty,pos,aft,none⟩:=by rfl) (hx : Qc.get L x = some (.pointer (some ⟨b,o,none⟩)):=by rfl) (h1 : TFd X.P st f off ft:=by infer_instance) (h2 : TSz X.P ft sz ag:=by infer_instance) (hs : Nat.blt 0 sz = true:=by rfl) (hok : QQ ops listed i = true:=by kernel_rfl) (hF : F.all (fun f=>!Nat.beq f i) = true:=by rfl) (hd : Nat.blt d X.n = true:=by rfl) : D X ops F B (fuel + 1) listed k L C:=d_p i hi (QaG rfl hx h1.h h2.h hs) hok hF hd next
theorem dFo {j : Nat} {want c : Bool} (i dj : Nat) {st f x b o off ft sz : Nat} {ag : Bool} (hw : c = want) (next : D X ops F B fuel (listed.setIfInBounds i true) k ((d,.pointer (some ⟨b,o + off,none⟩)) :: L) C) (hi : ops[i]? = some ⟨some d,.fieldAddr st (.tmp x) f,ty,pos,aft,some (j,want)⟩:=by rfl) (hj : (ops[j]?).bind (·.dst) = some dj:=by rfl) (hb : Qc.get L dj = some (.bool c):=by rfl) (hx : Qc.get L x = some (.pointer (some ⟨b,o,none⟩)):=by rfl) (h1 : TFd X.P st f off ft:=by infer_instance) (h2 : TSz X.P ft sz ag:=by infer_instance) (hs : Nat.blt 0 sz = true:=by rfl) (hok : QQ ops listed i = true:=by kernel_rfl) (hF : F.all (fun f=>!Nat.beq f i) = true:=by rfl) (hd : Nat.blt d X.n = true:=by rfl) : D X ops F B (fuel + 1) listed k L C:=QnE i dj hi hj hb hw (QaG rfl hx h1.h h2.h hs) hok hF hd next
theorem dPo {j : Nat} {want c : Bool} {op : Op} {v : Value} (i dj : Nat) (hw : c = want) (next : D X ops F B fuel (listed.setIfInBounds i true) k ((d,v) :: L) C) (hi : ops[i]? = some ⟨some d,op,ty,pos,aft,some (j,want)⟩:=by rfl) (hj : (ops[j]?).bind (·.dst) = some dj:=by rfl) (hb : Qc.get L dj = some (.bool c):=by rfl) (h : OpP X.P ⟨some d,op,ty,pos,aft,none⟩ L v:=by exact Qad rfl) (hok : QQ ops listed i = true:=by kernel_rfl) (hF : F.all (fun f=>!Nat.beq f i) = true:=by rfl) (hd : Nat.blt d X.n = true:=by rfl) : D X ops F B (fuel + 1) listed k L C:=QnE i dj hi hj hb hw h hok hF hd next
theorem dOf {j : Nat} {want c : Bool} {op : Op} (i dj : Nat) (hw : c = !want) (next : D X ops F B fuel (listed.setIfInBounds i true) k ((d,undef) :: L) C) (hi : ops[i]? = some ⟨some d,op,ty,pos,aft,some (j,want)⟩:=by rfl) (hj : (ops[j]?).bind (·.dst) = some dj:=by rfl) (hb : Qc.get L dj = some (.bool c):=by rfl) (hok : QQ ops listed i = true:=by kernel_rfl) (hF : F.all (fun f=>!Nat.beq f i) = true:=by rfl) (hd : Nat.blt d X.n = true:=by rfl) : D X ops F B (fuel + 1) listed k L C:=Quq i dj hi hj hb hw hok hF hd next
theorem dOu {j : Nat} {want : Bool} {op : Op} (i dj : Nat) (next : D X ops F B fuel (listed.setIfInBounds i true) k ((d,undef) :: L) C) (hi : ops[i]? = some ⟨some d,op,ty,pos,aft,some (j,want)⟩:=by rfl) (hj : (ops[j]?).bind (·.dst) = some dj:=by rfl) (hb : Qc.get L dj = some undef:=by rfl) (hok : QQ ops listed i = true:=by kernel_rfl) (hF : F.all (fun f=>!Nat.beq f i) = true:=by rfl) (hd : Nat.blt d X.n = true:=by rfl) : D X ops F B (fuel + 1) listed k L C:=QrZ i dj hi hj hb hok hF hd next
theorem dNi (next : S X k L (HS w0 M As)) (hB : ∀ w,HS w0 M As w → B w:=by (intro w h;first | exact h | exact h.ent aEt)) (hr : (Region.ready .any ops listed == []) = true:=by kernel_rfl) : D X ops F B 0 listed k L (HS w0 M As):=Qur hr hB next
theorem dBa (next : D X ops F (HS w0 M As) fuel listed k L (HS w0 M As)) (hB : ∀ w,HS w0 M As w → B w:=by (intro w h;exact h.ent aEt)) : D X ops F B fuel listed k L (HS w0 M As):=QuS hB next
theorem dLd (i : Nat) (ps : List (List Nat)) {t x b tot o : Nat} {bt : TypeId} {cs : List Value} {v : Value} (next : D X ops F (HS w0 M Bs) fuel (listed.setIfInBounds i true) k ((d,v) :: L) C) (hi : ops[i]? = some ⟨some d,.load t (.tmp x),ty,pos,aft,none⟩:=by rfl) (hx : Qc.get L x = some (.pointer (some ⟨b,o,none⟩)):=by rfl) (h1 : TSz X.P t 1 false:=by infer_instance) (hp : QM Bs (.blk b bt tot cs) As':=by repeat (first | exact .here | apply QM.there)) (hv : cs[o]? = some v:=by rfl) (hok : QQ ops listed i = true:=by kernel_rfl) (hF : X3 ops F i ps = true:=by kernel_rfl) (hn : ZP F listed = true:=by kernel_rfl) (hd : Nat.blt d X.n = true:=by rfl) : D X ops F (HS w0 M Bs) (fuel + 1) listed k L C:=d_q i ps hi (YB rfl hx h1.h hp hv) hok hF hn hd next
theorem dLn (i : Nat) (ps : List (List Nat)) {t x b tot o n : Nat} {bt : TypeId} {cs : List Value} (next : D X ops F (HS w0 M Bs) fuel (listed.setIfInBounds i true) k ((d,.agg (cut cs o n).toArray) :: L) C) (hi : ops[i]? = some ⟨some d,.load t (.tmp x),ty,pos,aft,none⟩:=by rfl) (hx : Qc.get L x = some (.pointer (some ⟨b,o,none⟩)):=by rfl) (h1 : TSz X.P t n true:=by infer_instance) (hp : QM Bs (.blk b bt tot cs) As':=by repeat (first | exact .here | apply QM.there)) (hl : Nat.ble (o + n) cs.length = true:=by rfl) (hok : QQ ops listed i = true:=by kernel_rfl) (hF : X3 ops F i ps = true:=by kernel_rfl) (hn : ZP F listed = true:=by kernel_rfl) (hd : Nat.blt d X.n = true:=by rfl) : D X ops F (HS w0 M Bs) (fuel + 1) listed k L C:=d_q i ps hi (Z5 rfl hx h1.h hp hl) hok hF hn hd next
end
section
variable {X : Ctx} {ops : Array Oper} {F : List Nat} {fuel : Nat} {listed : Array Bool} {rest : List Oper} {k : List KI} {L : Qc} {d ty : Nat} {pos : String} {aft : Array Edge} {w0 : World} {M : List Nat} {As As' : List HA}
theorem oSt {t x b tot i n : Nat} {y : Operand} {bt : TypeId} {ag : Bool} {cs : List Value} {v : Value} [hs : TSz X.P t n ag] (next : O X ops rest k L (HS w0 M As')) (hx : Qc.get L x = some (.pointer (some ⟨b,i,none⟩)):=by rfl) (hy : ev L y = some v:=by rfl) (hn : v.cells.toList.length = n:=by rfl)
  (hp : Put As (.blk b bt tot cs) (.blk b bt tot (Qh cs i v.cells.toList)) As':=by repeat (first | exact .here | apply Put.there)) (hl : i + n ≤ cs.length:=by (simp only [Qf,List.length_set,List.length_cons,List.length_nil,List.length_map];omega)) (h1 : v.cells.toList.all (·.oneCell') = true:=by rfl) :
  O X ops (⟨none,.store t (.tmp x) y,ty,pos,aft,none⟩ :: rest) k L (HS w0 M As):=Qld (Qbz rfl hx hy hs.h hn hp hl h1) fun _ _=>next
theorem oAl {t : TypeId} {z : List Value} (next : ∀ b,True → O X ops rest k ((d,.pointer (some ⟨b,0,none⟩)) :: L) (HS w0 M (.blk b t z.length z :: As))) (hz : QS X.P t = some z) (hd : Nat.blt d X.n = true:=by rfl) : O X ops (⟨some d,.alloc t,ty,pos,aft,none⟩ :: rest) k L (HS w0 M As):=o_h (Qbt rfl hz) hd next
theorem oBx {t : TypeId} {x : Operand} {v : Value} (next : ∀ b,True → O X ops rest k ((d,.pointer (some ⟨b,0,none⟩)) :: L) (HS w0 M (.blk b t v.cells.toList.length v.cells.toList :: As))) (hx : ev L x = some v:=by rfl) (hd : Nat.blt d X.n = true:=by rfl) : O X ops (⟨some d,.box t x,ty,pos,aft,none⟩ :: rest) k L (HS w0 M As):=o_h (Qne rfl hx) hd next
theorem oWr {v : Int} {C : World → Prop} (next : O X ops rest k ((d,.int .i64 v) :: L) C) (h1 : -9223372036854775808 ≤ v:=by omega) (h2 : v ≤ 9223372036854775807:=by omega) : O X ops rest k ((d,.int .i64 (IntKind.i64.wrap v)) :: L) C:=Qk (QeX h1 h2) next
theorem dWr {v : Int} {C B : World → Prop} (next : D X ops F B fuel listed k ((d,.int .i64 v) :: L) C) (h1 : -9223372036854775808 ≤ v:=by omega) (h2 : v ≤ 9223372036854775807:=by omega) : D X ops F B fuel listed k ((d,.int .i64 (IntKind.i64.wrap v)) :: L) C:=Qy (QeX h1 h2) next
theorem dSt {B : World → Prop} (i : Nat) {t x b tot o n : Nat} {y : Operand} {bt : TypeId} {ag : Bool} {cs : List Value} {v : Value} (next : D X ops F B fuel (listed.setIfInBounds i true) k L (HS w0 M As')) (hi : ops[i]? = some ⟨none,.store t (.tmp x) y,ty,pos,aft,none⟩:=by rfl) (hx : Qc.get L x = some (.pointer (some ⟨b,o,none⟩)):=by rfl) (hy : ev L y = some v:=by rfl) (hs : TSz X.P t n ag:=by infer_instance) (hn : v.cells.toList.length = n:=by rfl)
  (hp : Put As (.blk b bt tot cs) (.blk b bt tot (Qh cs o v.cells.toList)) As':=by repeat (first | exact .here | apply Put.there)) (hl : o + n ≤ cs.length) (h1 : v.cells.toList.all (·.oneCell') = true:=by rfl) (hr : (Region.ready .any ops listed == [i]) = true:=by kernel_rfl) (hB : ∀ w,HS w0 M As w → B w:=by (intro w h;exact h.ent aEt)) :
  D X ops F B (fuel + 1) listed k L (HS w0 M As):=d_h0 i hi (Qbz rfl hx hy hs.h hn hp hl h1) hr hB fun _ _=>next
theorem dTu {B : World → Prop} (F' : List Nat) (next : D X ops F' (HS w0 M As) fuel listed k L (HS w0 M As)) (hf : F.any (fun f=>listed.getD f false) = true:=by kernel_rfl) : D X ops F B fuel listed k L (HS w0 M As):=Qve F' hf next
end
section
variable {X : Ctx} {ops : Array Oper} {F : List Nat} {fuel : Nat} {listed : Array Bool} {k : List KI} {L : Qc} {d ty : Nat} {pos : String} {aft : Array Edge} {op : Op} {w0 : World} {M : List Nat} {As Bs : List HA}
theorem dQ {C : World → Prop} {v : Value} (i : Nat) (ps : List (List Nat)) (hi : ops[i]? = some ⟨some d,op,ty,pos,aft,none⟩) (h : OpQ X.P ⟨some d,op,ty,pos,aft,none⟩ L (HS w0 M Bs) v) (next : D X ops F (HS w0 M Bs) fuel (listed.setIfInBounds i true) k ((d,v) :: L) C) (hok : QQ ops listed i = true:=by kernel_rfl) (hF : X3 ops F i ps = true:=by kernel_rfl) (hn : ZP F listed = true:=by kernel_rfl) (hd : Nat.blt d X.n = true:=by rfl) : D X ops F (HS w0 M Bs) (fuel + 1) listed k L C:=d_q i ps hi h hok hF hn hd next
theorem dV {C : World → Prop} {B : World → Prop} {v : Value} (i : Nat) (hi : ops[i]? = some ⟨some d,op,ty,pos,aft,none⟩) (h : OpP X.P ⟨some d,op,ty,pos,aft,none⟩ L v) (next : D X ops F B fuel (listed.setIfInBounds i true) k ((d,v) :: L) C) (hok : QQ ops listed i = true:=by kernel_rfl) (hF : F.all (fun f=>!Nat.beq f i) = true:=by rfl) (hd : Nat.blt d X.n = true:=by rfl) : D X ops F B (fuel + 1) listed k L C:=d_p i hi h hok hF hd next
theorem dH {B : World → Prop} {G : Type} {V : G → Value} {Fg : G → Prop} {C' : G → World → Prop} (i : Nat) (hi : ops[i]? = some ⟨some d,op,ty,pos,aft,none⟩) (h : OpH X.P ⟨some d,op,ty,pos,aft,none⟩ L (HS w0 M As) V Fg C') (next : ∀ g,Fg g → D X ops F B fuel (listed.setIfInBounds i true) k ((d,V g) :: L) (C' g)) (hr : (Region.ready .any ops listed == [i]) = true:=by kernel_rfl) (hB : ∀ w,HS w0 M As w → B w:=by (intro w h;exact h.ent aEt)) (hd : Nat.blt d X.n = true:=by rfl) : D X ops F B (fuel + 1) listed k L (HS w0 M As):=d_h i hi h hr hB hd next
theorem dVo {C : World → Prop} {B : World → Prop} {v : Value} {j : Nat} {want b : Bool} (i dj : Nat) (hw : b = want) (hi : ops[i]? = some ⟨some d,op,ty,pos,aft,some (j,want)⟩) (hj : (ops[j]?).bind (·.dst) = some dj) (hb : Qc.get L dj = some (.bool b)) (h : OpP X.P ⟨some d,op,ty,pos,aft,none⟩ L v) (next : D X ops F B fuel (listed.setIfInBounds i true) k ((d,v) :: L) C) (hok : QQ ops listed i = true:=by kernel_rfl) (hF : F.all (fun f=>!Nat.beq f i) = true:=by rfl) (hd : Nat.blt d X.n = true:=by rfl) : D X ops F B (fuel + 1) listed k L C:=QnE i dj hi hj hb hw h hok hF hd next
theorem dQo {C : World → Prop} {v : Value} {j : Nat} {want b : Bool} (i dj : Nat) (ps : List (List Nat)) (hw : b = want) (hi : ops[i]? = some ⟨some d,op,ty,pos,aft,some (j,want)⟩) (hj : (ops[j]?).bind (·.dst) = some dj) (hb : Qc.get L dj = some (.bool b)) (h : OpQ X.P ⟨some d,op,ty,pos,aft,none⟩ L (HS w0 M Bs) v) (next : D X ops F (HS w0 M Bs) fuel (listed.setIfInBounds i true) k ((d,v) :: L) C) (hok : QQ ops listed i = true:=by kernel_rfl) (hF : X3 ops F i ps = true:=by kernel_rfl) (hn : ZP F listed = true:=by kernel_rfl) (hd : Nat.blt d X.n = true:=by rfl) : D X ops F (HS w0 M Bs) (fuel + 1) listed k L C:=QuB i dj ps hi hj hb hw h hok hF hn hd next
theorem rT {t : Nat} {v : Value} (hr : X.fn.results = [ResultVar.tmp t].toArray) (hv : Qc.get L t = some v) (h : ∀ w,HS w0 M As w → X.R (.returned (QW [v])) w) (hrd : X.rd = none:=by rfl) (hdf : X.df = []:=by rfl) : S X (.c .ret :: k) L (HS w0 M As):=Qj hr (.tmp hv .nil) h hrd hdf
end
theorem dT {p : Prop} [Decidable p] : (decide p = true) = p:=decide_eq_true_eq
theorem dN {p : Prop} [Decidable p] : decide p = false ↔ ¬p:=decide_eq_false_iff_not
class BP (b : Bool) (p n : outParam Prop) : Prop where
 t : b = true → p
 f : b = false → n
instance (priority:=low) bp0 (b : Bool) : BP b (b = true) (b = false):=⟨id,id⟩
instance bpD (p : Prop) [Decidable p] : BP (decide p) p (¬ p):=⟨of_decide_eq_true,of_decide_eq_false⟩
instance bpN (b : Bool) (p n : Prop) [h : BP b p n] : BP (!b) n p:=⟨fun h9=>h.f (by simpa using h9),fun h9=>h.t (by simpa using h9)⟩
instance bpA (a b : Bool) (p n p' n' : Prop) [h : BP a p n] [h' : BP b p' n'] : BP (a && b) (p ∧ p') (n ∨ n'):=⟨fun h9=>⟨h.t (by simp at h9;exact h9.1),h'.t (by simp at h9;exact h9.2)⟩,fun h9=>by cases a with
 | true=>exact .inr (h'.f (by simpa using h9))
 | false=>exact .inl (h.f rfl)⟩
instance bpO (a b : Bool) (p n p' n' : Prop) [h : BP a p n] [h' : BP b p' n'] : BP (a || b) (p ∨ p') (n ∧ n'):=⟨fun h9=>by cases a with
 | true=>exact .inl (h.t rfl)
 | false=>exact .inr (h'.t (by simpa using h9)),fun h9=>⟨h.f (by simp at h9;exact h9.1),h'.f (by simp at h9;exact h9.2)⟩⟩
class TFn (P : Program) (f : Nat) : Prop where h : QK P f = true
section
variable {X : Ctx} {k : List KI} {L : Qc} {C : World → Prop}
theorem sCd {c : Operand} {x y : Code} {b : Bool} {p n : Prop} (hc : ev L c = some (.bool b)) [hB : BP b p n] (ht : p → S X (.c x :: k) L C) (hf : n → S X (.c y :: k) L C) : S X (.c (.cond c x y) :: k) L C:=Qgw hc (fun h=>ht (hB.t h)) fun h=>hf (hB.f h)
variable {ops : Array Oper} {rest : List Oper} {d ty : Nat} {pos : String} {aft : Array Edge} {op : Op}
theorem Yq (m dj dp : Nat) {b c : Bool} {p n : Prop} {l : List Oper} (hb : Qc.get L dj = some (.bool b)) [hB : BP b p n]
  (h1 : b = true → p → O X ops (l.take m) (.join (At X.n X.df (fun _ : Unit=>(dp,.bool c) :: L) (fun _=>C)) :: k) L C)
  (h0 : b = false → n → O X ops (l.take m) (.join (At X.n X.df (fun _ : Unit=>(dp,.bool false) :: L) (fun _=>C)) :: k) L C)
  (h2 : O X ops (l.drop m) k ((dp,.bool (b && c)) :: L) C) : O X ops l k L C:=QxK m dj dp b c hb (fun h=>h1 h (hB.t h)) (fun h=>h0 h (hB.f h)) h2
theorem oOr (m dj dp : Nat) {b c : Bool} {p n : Prop} {l : List Oper} (hb : Qc.get L dj = some (.bool b)) [hB : BP b p n]
  (h1 : b = false → n → O X ops (l.take m) (.join (At X.n X.df (fun _ : Unit=>(dp,.bool c) :: L) (fun _=>C)) :: k) L C)
  (h0 : b = true → p → O X ops (l.take m) (.join (At X.n X.df (fun _ : Unit=>(dp,.bool true) :: L) (fun _=>C)) :: k) L C)
  (h2 : O X ops (l.drop m) k ((dp,.bool (b || c)) :: L) C) : O X ops l k L C:=o_or m dj dp b c hb (fun h=>h1 h (hB.f h)) (fun h=>h0 h (hB.t h)) h2
theorem oNo {j dj : Nat} {want b : Bool} {dst : Option Nat} (next : O X ops (⟨dst,op,ty,pos,aft,none⟩ :: rest) k L C) (hj : (ops[j]?).bind (·.dst) = some dj:=by rfl) (hs : Qc.get L dj = some (.bool b):=by rfl) (hb : b = want:=by assumption) : O X ops (⟨dst,op,ty,pos,aft,some (j,want)⟩ :: rest) k L C:=o_on dj b hj hs hb next
theorem oFt {j dj : Nat} {b : Bool} (next : O X ops rest k ((d,undef) :: L) C) (hj : (ops[j]?).bind (·.dst) = some dj:=by rfl) (hs : Qc.get L dj = some (.bool b):=by rfl) (hb : b = false:=by assumption) (hd : Nat.blt d X.n = true:=by rfl) : O X ops (⟨some d,op,ty,pos,aft,some (j,true)⟩ :: rest) k L C:=Qp7 dj b hj hs hb hd next
theorem oFf {j dj : Nat} {b : Bool} (next : O X ops rest k ((d,undef) :: L) C) (hj : (ops[j]?).bind (·.dst) = some dj:=by rfl) (hs : Qc.get L dj = some (.bool b):=by rfl) (hb : b = true:=by assumption) (hd : Nat.blt d X.n = true:=by rfl) : O X ops (⟨some d,op,ty,pos,aft,some (j,false)⟩ :: rest) k L C:=Qp7 dj b hj hs hb hd next
theorem oFu {j dj : Nat} {want : Bool} (next : O X ops rest k ((d,undef) :: L) C) (hj : (ops[j]?).bind (·.dst) = some dj:=by rfl) (hs : Qc.get L dj = some undef:=by rfl) (hd : Nat.blt d X.n = true:=by rfl) : O X ops (⟨some d,op,ty,pos,aft,some (j,want)⟩ :: rest) k L C:=Qrp dj hj hs hd next
variable {w0 : World} {M : List Nat} {As : List HA}
theorem oCq {f : FuncId} {args : Array Operand} {vs : List Value} {v : Value} {at' : Array TypeId} (ha : evs L args.toList = some vs) [hf : TFn X.P f] (hc : ∀ w,HS w0 M As w → Calls X.P f vs.toArray w fun e w'=>e = .returned v ∧ Below w.heap.size w w') (next : O X ops rest k ((d,v) :: L) (HS w0 M As)) (hd : Nat.blt d X.n = true:=by rfl) :
  O X ops (⟨some d,.call { callee:=.value (.func f),args:=args,argTypes:=at' },ty,pos,aft,none⟩ :: rest) k L (HS w0 M As):=o_q (Qq rfl hf.h ha hc) hd next
theorem oCh {G : Type} {V : G → Value} {F : G → Prop} {Bs : G → List HA} {f : FuncId} {args : Array Operand} {vs : List Value} {at' : Array TypeId} (ha : evs L args.toList = some vs) [hf : TFn X.P f] (hc : ∀ w,HS w0 M As w → Calls X.P f vs.toArray w fun e w'=>∃ g,e = .returned (V g) ∧ F g ∧ HS w [] (Bs g) w') (next : ∀ g,F g → O X ops rest k ((d,V g) :: L) (HS w0 M (Bs g ++ As))) (hd : Nat.blt d X.n = true:=by rfl) :
  O X ops (⟨some d,.call { callee:=.value (.func f),args:=args,argTypes:=at' },ty,pos,aft,none⟩ :: rest) k L (HS w0 M As):=o_h (QlD rfl hf.h ha hc) hd next
theorem sBk {α : Type} {LJ : α → Qc} {CJ : α → World → Prop} {I : α → Prop} {m : α → Nat} {x : α} (y : α) (hm : m y < m x:=by omega) (hI : I y:=by omega) (hL : Qca L (LJ y):=by repeat (first | exact sl_n | refine sl_c rfl ?_)) (hC : ∀ w,HS w0 M As w → CJ y w:=by (intro w h;exact h.ent aEt)) : S X (.join (Qqr X.n X.df LJ CJ I m x) :: k) L (HS w0 M As):=QP y hm hI hL hC
end
section
variable {X : Ctx} {k : List KI} {L : Qc} {C : World → Prop} {ops : Array Oper} {rest : List Oper} {d ty : Nat} {pos : String} {aft : Array Edge} {op : Op} {LJ : Unit → Qc} {CJ : Unit → World → Prop}
theorem o0t {j dj : Nat} {b : Bool} (next : O X ops rest k L C) (hj : (ops[j]?).bind (·.dst) = some dj:=by rfl) (hs : Qc.get L dj = some (.bool b):=by rfl) (hb : b = false:=by assumption) : O X ops (⟨none,op,ty,pos,aft,some (j,true)⟩ :: rest) k L C:=Qlo dj b hj hs hb next
theorem o0f {j dj : Nat} {b : Bool} (next : O X ops rest k L C) (hj : (ops[j]?).bind (·.dst) = some dj:=by rfl) (hs : Qc.get L dj = some (.bool b):=by rfl) (hb : b = true:=by assumption) : O X ops (⟨none,op,ty,pos,aft,some (j,false)⟩ :: rest) k L C:=Qlo dj b hj hs hb next
theorem oJt (m dp : Nat) {c x y : Operand} {b : Bool} {v : Value} (hc : ev L c = some (.bool b):=by rfl) (hb : b = true:=by assumption) (hx : ev L x = some v:=by rfl) (hd : Nat.blt dp X.n = true:=by rfl) (hJ : LJ () = (dp,v) :: ((dp,v) :: L).drop m:=by exact rfl) (hf : QgS ((dp,v) :: L) m = true:=by exact rfl) (hC : ∀ w,C w → CJ () w:=by (intro w h;first | exact h | exact h.ent aEt)) :
  O X ops [⟨some dp,.pick c x y,ty,pos,aft,none⟩] (.join (At X.n X.df LJ CJ) :: k) L C:=o_p (Xu rfl hc hb hx) hd (QnR (Qnk m dp v hJ (by rw [Qc.get_cons,if_pos rfl]) hf hC))
theorem oJf (m dp : Nat) {c x y : Operand} {b : Bool} {v : Value} (hc : ev L c = some (.bool b):=by rfl) (hb : b = false:=by assumption) (hx : ev L y = some v:=by rfl) (hd : Nat.blt dp X.n = true:=by rfl) (hJ : LJ () = (dp,v) :: ((dp,v) :: L).drop m:=by exact rfl) (hf : QgS ((dp,v) :: L) m = true:=by exact rfl) (hC : ∀ w,C w → CJ () w:=by (intro w h;first | exact h | exact h.ent aEt)) :
  O X ops [⟨some dp,.pick c x y,ty,pos,aft,none⟩] (.join (At X.n X.df LJ CJ) :: k) L C:=o_p (Xn rfl hc hb hx) hd (QnR (Qnk m dp v hJ (by rw [Qc.get_cons,if_pos rfl]) hf hC))
end
section
variable {P : Program} {f : FuncId} {fn : Func} {n : Nat} {c : Code} {w w1 : World} {R : Ending → World → Prop} {M : List Nat} {As : List HA}
theorem eN0 (hf : P.funcs[f]? = some fn) (hn : fn.ntmps = n) (h : S { P:=P,fn:=fn,n:=n,R:=R } [.c c] (Qcn 0 []) (HS w [] [])) (hb : fn.body = some c:=by rfl) (hl : Nat.ble 0 n = true:=by rfl) : Calls P f #[] w R:=enter (args:=[]) hf hn hb hl (HS.refl w []) h
theorem eN1 {x0 : Value} (hf : P.funcs[f]? = some fn) (hn : fn.ntmps = n) (h : S { P:=P,fn:=fn,n:=n,R:=R } [.c c] (Qcn 0 [x0]) (HS w [] [])) (hb : fn.body = some c:=by rfl) (hl : Nat.ble 1 n = true:=by rfl) : Calls P f #[x0] w R:=enter (args:=[x0]) hf hn hb hl (HS.refl w []) h
theorem eW1 {x0 : Value} (hf : P.funcs[f]? = some fn) (hn : fn.ntmps = n) (hw : HS w1 M As w) (h : S { P:=P,fn:=fn,n:=n,R:=R } [.c c] (Qcn 0 [x0]) (HS w1 M As)) (hb : fn.body = some c:=by rfl) (hl : Nat.ble 1 n = true:=by rfl) : Calls P f #[x0] w R:=enter (args:=[x0]) hf hn hb hl hw h
theorem eN2 {x0 : Value} {x1 : Value} (hf : P.funcs[f]? = some fn) (hn : fn.ntmps = n) (h : S { P:=P,fn:=fn,n:=n,R:=R } [.c c] (Qcn 0 [x0,x1]) (HS w [] [])) (hb : fn.body = some c:=by rfl) (hl : Nat.ble 2 n = true:=by rfl) : Calls P f #[x0,x1] w R:=enter (args:=[x0,x1]) hf hn hb hl (HS.refl w []) h
theorem eW2 {x0 : Value} {x1 : Value} (hf : P.funcs[f]? = some fn) (hn : fn.ntmps = n) (hw : HS w1 M As w) (h : S { P:=P,fn:=fn,n:=n,R:=R } [.c c] (Qcn 0 [x0,x1]) (HS w1 M As)) (hb : fn.body = some c:=by rfl) (hl : Nat.ble 2 n = true:=by rfl) : Calls P f #[x0,x1] w R:=enter (args:=[x0,x1]) hf hn hb hl hw h
theorem eN3 {x0 : Value} {x1 : Value} {x2 : Value} (hf : P.funcs[f]? = some fn) (hn : fn.ntmps = n) (h : S { P:=P,fn:=fn,n:=n,R:=R } [.c c] (Qcn 0 [x0,x1,x2]) (HS w [] [])) (hb : fn.body = some c:=by rfl) (hl : Nat.ble 3 n = true:=by rfl) : Calls P f #[x0,x1,x2] w R:=enter (args:=[x0,x1,x2]) hf hn hb hl (HS.refl w []) h
theorem eW3 {x0 : Value} {x1 : Value} {x2 : Value} (hf : P.funcs[f]? = some fn) (hn : fn.ntmps = n) (hw : HS w1 M As w) (h : S { P:=P,fn:=fn,n:=n,R:=R } [.c c] (Qcn 0 [x0,x1,x2]) (HS w1 M As)) (hb : fn.body = some c:=by rfl) (hl : Nat.ble 3 n = true:=by rfl) : Calls P f #[x0,x1,x2] w R:=enter (args:=[x0,x1,x2]) hf hn hb hl hw h
theorem eN4 {x0 : Value} {x1 : Value} {x2 : Value} {x3 : Value} (hf : P.funcs[f]? = some fn) (hn : fn.ntmps = n) (h : S { P:=P,fn:=fn,n:=n,R:=R } [.c c] (Qcn 0 [x0,x1,x2,x3]) (HS w [] [])) (hb : fn.body = some c:=by rfl) (hl : Nat.ble 4 n = true:=by rfl) : Calls P f #[x0,x1,x2,x3] w R:=enter (args:=[x0,x1,x2,x3]) hf hn hb hl (HS.refl w []) h
theorem eW4 {x0 : Value} {x1 : Value} {x2 : Value} {x3 : Value} (hf : P.funcs[f]? = some fn) (hn : fn.ntmps = n) (hw : HS w1 M As w) (h : S { P:=P,fn:=fn,n:=n,R:=R } [.c c] (Qcn 0 [x0,x1,x2,x3]) (HS w1 M As)) (hb : fn.body = some c:=by rfl) (hl : Nat.ble 4 n = true:=by rfl) : Calls P f #[x0,x1,x2,x3] w R:=enter (args:=[x0,x1,x2,x3]) hf hn hb hl hw h
theorem eN5 {x0 : Value} {x1 : Value} {x2 : Value} {x3 : Value} {x4 : Value} (hf : P.funcs[f]? = some fn) (hn : fn.ntmps = n) (h : S { P:=P,fn:=fn,n:=n,R:=R } [.c c] (Qcn 0 [x0,x1,x2,x3,x4]) (HS w [] [])) (hb : fn.body = some c:=by rfl) (hl : Nat.ble 5 n = true:=by rfl) : Calls P f #[x0,x1,x2,x3,x4] w R:=enter (args:=[x0,x1,x2,x3,x4]) hf hn hb hl (HS.refl w []) h
theorem eW5 {x0 : Value} {x1 : Value} {x2 : Value} {x3 : Value} {x4 : Value} (hf : P.funcs[f]? = some fn) (hn : fn.ntmps = n) (hw : HS w1 M As w) (h : S { P:=P,fn:=fn,n:=n,R:=R } [.c c] (Qcn 0 [x0,x1,x2,x3,x4]) (HS w1 M As)) (hb : fn.body = some c:=by rfl) (hl : Nat.ble 5 n = true:=by rfl) : Calls P f #[x0,x1,x2,x3,x4] w R:=enter (args:=[x0,x1,x2,x3,x4]) hf hn hb hl hw h
theorem eW6 {x0 : Value} {x1 : Value} {x2 : Value} {x3 : Value} {x4 : Value} {x5 : Value} (hf : P.funcs[f]? = some fn) (hn : fn.ntmps = n) (hw : HS w1 M As w) (h : S { P:=P,fn:=fn,n:=n,R:=R } [.c c] (Qcn 0 [x0,x1,x2,x3,x4,x5]) (HS w1 M As)) (hb : fn.body = some c:=by rfl) (hl : Nat.ble 6 n = true:=by rfl) : Calls P f #[x0,x1,x2,x3,x4,x5] w R:=enter (args:=[x0,x1,x2,x3,x4,x5]) hf hn hb hl hw h
end
theorem aU {p q : Prop} (hq : q) (h : (Unit → q) → p:=by (intro hq;first | refine Qnt ?_ | refine Qkj ?_ | refine QnR ?_ | refine Qo7 ?_ | refine QiG ?_ | refine Quo ?_ | refine oP ?_ | refine oNo ?_ | refine oFt ?_ | refine oFf ?_ | refine oFu ?_ | refine o0t ?_ | refine o0f ?_ | refine oFa ?_ | refine oLs ?_ | refine oLd ?_ | refine oLn ?_ | refine oSt ?_);exact hq ()) : p:=h fun _=>hq
theorem aT {p q : Prop} (hq : q) (h : (Unit → q) → p:=by (intro hq;refine aU ?_;try refine oWr ?_);exact hq ()) : p:=h fun _=>hq
theorem aU2 {p q : Prop} (hq : q) (h : (Unit → q) → p:=by (intro hq;iterate 2 refine aU ?_);exact hq ()) : p:=h fun _=>hq
theorem aT2 {p q : Prop} (hq : q) (h : (Unit → q) → p:=by (intro hq;(iterate 2 refine aU ?_);try refine oWr ?_);exact hq ()) : p:=h fun _=>hq
theorem aU3 {p q : Prop} (hq : q) (h : (Unit → q) → p:=by (intro hq;iterate 3 refine aU ?_);exact hq ()) : p:=h fun _=>hq
theorem aT3 {p q : Prop} (hq : q) (h : (Unit → q) → p:=by (intro hq;(iterate 3 refine aU ?_);try refine oWr ?_);exact hq ()) : p:=h fun _=>hq
theorem aU4 {p q : Prop} (hq : q) (h : (Unit → q) → p:=by (intro hq;iterate 4 refine aU ?_);exact hq ()) : p:=h fun _=>hq
theorem aT4 {p q : Prop} (hq : q) (h : (Unit → q) → p:=by (intro hq;(iterate 4 refine aU ?_);try refine oWr ?_);exact hq ()) : p:=h fun _=>hq
theorem aU5 {p q : Prop} (hq : q) (h : (Unit → q) → p:=by (intro hq;iterate 5 refine aU ?_);exact hq ()) : p:=h fun _=>hq
theorem aT5 {p q : Prop} (hq : q) (h : (Unit → q) → p:=by (intro hq;(iterate 5 refine aU ?_);try refine oWr ?_);exact hq ()) : p:=h fun _=>hq
theorem aU6 {p q : Prop} (hq : q) (h : (Unit → q) → p:=by (intro hq;iterate 6 refine aU ?_);exact hq ()) : p:=h fun _=>hq
theorem aT6 {p q : Prop} (hq : q) (h : (Unit → q) → p:=by (intro hq;(iterate 6 refine aU ?_);try refine oWr ?_);exact hq ()) : p:=h fun _=>hq
theorem aU7 {p q : Prop} (hq : q) (h : (Unit → q) → p:=by (intro hq;iterate 7 refine aU ?_);exact hq ()) : p:=h fun _=>hq
theorem aT7 {p q : Prop} (hq : q) (h : (Unit → q) → p:=by (intro hq;(iterate 7 refine aU ?_);try refine oWr ?_);exact hq ()) : p:=h fun _=>hq
theorem aU8 {p q : Prop} (hq : q) (h : (Unit → q) → p:=by (intro hq;iterate 8 refine aU ?_);exact hq ()) : p:=h fun _=>hq
theorem aT8 {p q : Prop} (hq : q) (h : (Unit → q) → p:=by (intro hq;(iterate 8 refine aU ?_);try refine oWr ?_);exact hq ()) : p:=h fun _=>hq
theorem aU9 {p q : Prop} (hq : q) (h : (Unit → q) → p:=by (intro hq;iterate 9 refine aU ?_);exact hq ()) : p:=h fun _=>hq
theorem aT9 {p q : Prop} (hq : q) (h : (Unit → q) → p:=by (intro hq;(iterate 9 refine aU ?_);try refine oWr ?_);exact hq ()) : p:=h fun _=>hq
theorem Zv {p q : Prop} (hq : q) (h : (Unit → q) → p:=by (intro hq;iterate 10 refine aU ?_);exact hq ()) : p:=h fun _=>hq
theorem QlS {p q : Prop} (hq : q) (h : (Unit → q) → p:=by (intro hq;(iterate 10 refine aU ?_);try refine oWr ?_);exact hq ()) : p:=h fun _=>hq
theorem QdM {p q : Prop} (hq : q) (h : (Unit → q) → p:=by (intro hq;iterate 11 refine aU ?_);exact hq ()) : p:=h fun _=>hq
theorem Qbn {p q : Prop} (hq : q) (h : (Unit → q) → p:=by (intro hq;iterate 12 refine aU ?_);exact hq ()) : p:=h fun _=>hq
theorem Qcb {p q : Prop} (hq : q) (h : (Unit → q) → p:=by (intro hq;iterate 13 refine aU ?_);exact hq ()) : p:=h fun _=>hq
theorem aT13 {p q : Prop} (hq : q) (h : (Unit → q) → p:=by (intro hq;(iterate 13 refine aU ?_);try refine oWr ?_);exact hq ()) : p:=h fun _=>hq
theorem Qgs {p q : Prop} (hq : q) (h : (Unit → q) → p:=by (intro hq;iterate 14 refine aU ?_);exact hq ()) : p:=h fun _=>hq
theorem aT14 {p q : Prop} (hq : q) (h : (Unit → q) → p:=by (intro hq;(iterate 14 refine aU ?_);try refine oWr ?_);exact hq ()) : p:=h fun _=>hq
theorem Qv0 {p q : Prop} (hq : q) (h : (Unit → q) → p:=by (intro hq;iterate 15 refine aU ?_);exact hq ()) : p:=h fun _=>hq
theorem aU16 {p q : Prop} (hq : q) (h : (Unit → q) → p:=by (intro hq;iterate 16 refine aU ?_);exact hq ()) : p:=h fun _=>hq
theorem aT17 {p q : Prop} (hq : q) (h : (Unit → q) → p:=by (intro hq;(iterate 17 refine aU ?_);try refine oWr ?_);exact hq ()) : p:=h fun _=>hq
end Gx
namespace Go.Proofs
open Go Go.RowKit Gx
instance : TSe Tryz.prog 28 3:=⟨Tryz.underlying28⟩
instance : TSe Tryz.prog 35 69:=⟨Tryz.underlying35⟩
instance : TSe Tryz.prog 67 27:=⟨Tryz.underlying67⟩
instance : TSe Tryz.prog 139 5:=⟨Tryz.underlying139⟩
instance : TSe Tryz.prog 183 29:=⟨Tryz.underlying183⟩
end Go.Proofs
/- What chapter 13's texts stand on. -/
namespace Go.Proofs
open Go Go.RowKit Gx
attribute [local irreducible] Go.Calls Gx.S Gx.O Gx.D Gx.OpP Gx.OpQ Gx.OpH
set_option maxRecDepth 20000
theorem YK : tsl Tryz.prog 183 = some (29,1,8):=by kernel_rfl
theorem Qqy : tsz Tryz.prog 29 = some (1,false):=by kernel_rfl
instance : TFn Tryz.prog 182:=⟨by kernel_rfl⟩
theorem QbB : QK Tryz.prog 167 = true:=by kernel_rfl
instance : TFn Tryz.prog 167:=⟨QbB⟩
instance : TFn Tryz.prog 124:=⟨by kernel_rfl⟩
theorem QaE : QS Tryz.prog 29 = some [.int .i64 0]:=by kernel_rfl
theorem Qho : QK Tryz.prog 125 = true:=by kernel_rfl
instance : TFn Tryz.prog 125:=⟨Qho⟩
instance : TFn Tryz.prog 40:=⟨by kernel_rfl⟩
theorem QoL (w : World) (n lo hi : Int) : Calls Tryz.prog 182 #[.int .i64 n,.int .i64 lo,.int .i64 hi] w fun en w'=>en = .returned (.bool (decide (lo ≤ n) && decide (n ≤ hi))) ∧ Below w.heap.size w w':=by
 refine eN3 Tryz.func182 Tryz.ntmps182 ?_
 refine Zv ?_
 refine Yq 4 10 14 rfl
  (fun hg1 _=>by
   refine aU6 ?_
   exact oJt 4 14)
  (fun hg3 _=>by
   refine aU3 ?_
   exact oJf 4 14) ?_
 refine aU2 ?_
 exact rT rfl rfl (fun w' h'=>⟨rfl,h'.below⟩)
theorem c40 (w : World) (n lo hi : Int) : Calls Tryz.prog 40 #[.int .i64 n,.int .i64 lo,.int .i64 hi] w fun en w'=>en = .returned (.bool (decide (lo ≤ n) && decide (n ≤ hi))) ∧ Below w.heap.size w w':=by
 refine eN3 Tryz.func40 Tryz.ntmps40 ?_
 refine Zv ?_
 refine Yq 4 10 14 rfl
  (fun hg1 _=>by
   refine aU6 ?_
   exact oJt 4 14)
  (fun hg3 _=>by
   refine aU3 ?_
   exact oJf 4 14) ?_
 refine aU2 ?_
 exact rT rfl rfl (fun w' h'=>⟨rfl,h'.below⟩)
theorem Qer (w : World) (ok : Bool) (e : Int) : Calls Tryz.prog 167 #[.bool ok,.int .i64 e] w fun en w'=>en = .returned (.int .i64 (cond ok 0 e)) ∧ Below w.heap.size w w':=by
 refine eN2 Tryz.func167 Tryz.ntmps167 ?_
 refine aU9 ?_
 refine sCd rfl (fun h1=>?_) fun h1=>?_
 ·refine aU4 ?_
  exact rT rfl rfl (fun w' h'=>⟨by simp_all [QW],h'.below⟩)
 refine aU6 ?_
 exact rT rfl rfl (fun w' h'=>⟨by simp_all [QW],h'.below⟩)
theorem c125 (w : World) (a : Option Addr) (cap : Nat) (es : List Int) (hs : Sl w [] a 1 es.length (fun i=>[.int .i64 (es.getD i 0)])) (hm : es.length ≤ 1000) : Calls Tryz.prog 125 #[.slice a es.length cap] w fun en w'=>en = .returned (.int .i64 (YF es)) ∧ Below w.heap.size w w':=by
 refine eN1 Tryz.func125 Tryz.ntmps125 ?_
 refine Qbn ?_
 refine Qr (α:=Nat) [2,4,7,8,9,10,11,12,13,14] (fun k=>[(7,.int .i64 (k : Int))]) (fun _=>_) (fun k=>k ≤ es.length ∧ YF es = YF (es.drop k)) (fun k=>es.length - k) 0 ⟨by omega,rfl⟩ aSx (fun w h=>h) (fun k hk=>?_)
 obtain ⟨hk1,hk2⟩:=hk
 refine aU5 ?_
 refine sCd rfl (fun h1=>?_) fun h1=>?_
 ·refine aU5 ?_
  refine o_p (Qa rfl rfl rfl YK _ rfl (by omega) (hs.some (by omega))) rfl ?_
  refine o_q (Qb rfl rfl Qqy (hs.rd (i:=k) (j:=0) (by omega) rfl)) rfl ?_
  refine aU7 ?_
  refine sCd rfl (fun h2=>?_) fun h2=>?_
  ·refine aU5 ?_
   exact rT rfl rfl (fun w' h'=>⟨by simp only [QW];rw [hk2,Y3 (by omega),if_neg (by assumption)],h'.below⟩)
  refine aT4 ?_
  refine aU2 ?_
  exact QP (k+1) (by omega) ⟨by omega,by rw [hk2,Y3 (by omega),if_pos (by assumption)]⟩ aSx (fun w h=>h)
 refine Qi rfl ?_
 refine aU4 ?_
 exact rT rfl rfl (fun w' h'=>⟨by simp only [QW];rw [hk2,QdC (by omega)],h'.below⟩)
theorem Qom {w0 w : World} {M : List Nat} {As As' : List HA} {b cap n : Nat} {t : TypeId} {tot : Nat} {cs : List Value} (h : HS w0 M As w) (hp : QM As (.blk b t tot cs) As') (hc : cs.all Qie = true) (hn : cs.length = n) (hl : n ≤ 1000) :
    Calls Tryz.prog 125 #[.slice (some ⟨b,0,none⟩) n cap] w fun en w'=>en = .returned (.int .i64 (XN cs)) ∧ Below w.heap.size w w':=by
  subst hn;have:=c125 w (some ⟨b,0,none⟩) cap (cs.map Go.RowKit.intOf) (by simpa using h.sl_ints hp hc) (by simpa using hl);rw [Qc7 hc] at this
  simpa using this
theorem c124 (w : World) (n : Int) : Calls Tryz.prog 124 #[.int .i64 n] w fun en w'=>en = .returned (.int .i64 (Qs n)) ∧ Below w.heap.size w w':=by
 refine eN1 Tryz.func124 Tryz.ntmps124 ?_
 refine aU7 ?_
 refine oCq rfl (fun w1 h1=>QoL w1 _ _ _) ?_
 refine oCq rfl (fun w1 h1=>Qer w1 _ _) ?_
 refine aU2 ?_
 exact rT rfl rfl (fun w' h'=>⟨by simp only [QW,Qs,cond_eq_ite,Bool.and_eq_true,decide_eq_true_eq],h'.below⟩)
theorem Qbx {a b : Int} : XN [.int .i64 a,.int .i64 b] = if a = 0 then b else a:=by
  simp only [XN]
  grind
theorem c155 (w : World) (co mo rm : Int) : Calls Tryz.prog 155 #[.int .i64 co,.int .i64 mo,.int .i64 rm] w fun en w'=>en = .returned (.int .i64 (if Qs co = 0 then XG mo rm else Qs co)) ∧ Below w.heap.size w w':=by
 refine eN3 Tryz.func155 Tryz.ntmps155 ?_
 refine aU7 ?_
 refine oCq rfl (fun w1 h1=>QoL w1 _ _ _) ?_
 refine aU ?_
 refine Yq 6 10 16 rfl
  (fun hg1 _=>by
   refine aU5 ?_
   refine o_p (XD rfl rfl rfl (by omega) (by omega) (by omega)) rfl ?_
   refine aU3 ?_
   refine oCq rfl (fun w1 h1=>QoL w1 _ _ _) ?_
   exact oJt 6 16)
  (fun hg3 _=>by
   refine aU5 ?_
   exact oJf 6 16) ?_
 refine aU5 ?_
 refine oCq rfl (fun w1 h1=>c124 w1 _) ?_
 refine aU ?_
 refine oCq rfl (fun w1 h1=>Qer w1 _ _) ?_
 refine o_h (Qm (cs:=[_,_]) rfl rfl YK QaE rfl rfl rfl) rfl (fun b5 _=>?_)
 refine oCq rfl (fun w1 h1=>Qom h1 aPk (by rfl) (by rfl) (by decide)) ?_
 refine aU2 ?_
 exact rT rfl rfl (fun w' h'=>⟨by simp only [QW];rw [Qbx];simp only [XG,cond_eq_ite,Bool.and_eq_true,decide_eq_true_eq],h'.below⟩)
theorem c96 (w : World) (n : Int) : Calls Tryz.prog 96 #[.int .i64 n] w fun en w'=>en = .returned (.int .i64 (Qs n)) ∧ Below w.heap.size w w':=by
 refine eN1 Tryz.func96 Tryz.ntmps96 ?_
 refine aU8 ?_
 refine oCq rfl (fun w1 h1=>c40 w1 _ _ _) ?_
 refine aU2 ?_
 refine sCd rfl (fun h1=>?_) fun h1=>?_
 ·have hz : Qs n = 15:=by have hq:=h1;unfold Qs;rw [if_neg (by first | omega | (simp at hq;omega))]
  refine aU4 ?_
  exact rT rfl rfl (fun w' h'=>⟨by rw [hz];rfl,h'.below⟩)
 have hz : Qs n = 0:=by have hq:=h1;unfold Qs;rw [if_pos (by first | omega | (simp at hq;omega))]
 refine aU5 ?_
 exact rT rfl rfl (fun w' h'=>⟨by rw [hz];rfl,h'.below⟩)
theorem c97 (w : World) (mo rm : Int) : Calls Tryz.prog 97 #[.int .i64 mo,.int .i64 rm] w fun en w'=>en = .returned (.int .i64 (XG mo rm)) ∧ Below w.heap.size w w':=by
 refine eN2 Tryz.func97 Tryz.ntmps97 ?_
 refine aU8 ?_
 refine oCq rfl (fun w1 h1=>c40 w1 _ _ _) ?_
 refine aU2 ?_
 refine oOr 7 8 15 rfl
  (fun hg1 _=>by
   refine aU5 ?_
   refine o_p (XD rfl rfl rfl (by omega) (by omega) (by omega)) rfl ?_
   refine aU3 ?_
   refine oCq rfl (fun w1 h1=>c40 w1 _ _ _) ?_
   refine aU2 ?_
   exact oJf 7 15)
  (fun hg3 _=>by
   refine aU6 ?_
   exact oJt 7 15) ?_
 refine aU ?_
 refine sCd rfl (fun h5=>?_) fun h5=>?_
 ·have hz : XG mo rm = 2:=by have hq:=h5;unfold XG;rw [if_neg (by first | omega | (simp at hq;omega))]
  refine aU4 ?_
  exact rT rfl rfl (fun w' h'=>⟨by rw [hz];rfl,h'.below⟩)
 have hz : XG mo rm = 0:=by have hq:=h5;unfold XG;rw [if_pos (by first | omega | (simp at hq;omega))]
 refine aU5 ?_
 exact rT rfl rfl (fun w' h'=>⟨by rw [hz];rfl,h'.below⟩)
end Go.Proofs
namespace Go.Proofs
open Go Go.RowKit Gx
theorem QrV {α : Type} [Inhabited α] {vals : α → List Value} {sz n : Nat} {W : World} {a : Option Addr} {cell : Nat → List Value} {Q : α → Prop} (hs : Sl W [] a sz n cell) (hr : ∀ i,i < n → ∃ x,cell i = vals x ∧ Q x) : ∃ l : List α,n = l.length ∧ Rw vals sz W [] a l ∧ (∀ x ∈ l,Q x) ∧ ∀ i,i < n → cell i = vals (nth l i):=by
 have hr2 : ∀ i,∃ x,i < n → cell i = vals x ∧ Q x:=fun i=>by
  by_cases hi : i < n
  ·obtain ⟨x,h⟩:=hr i hi;exact ⟨x,fun _=>h⟩
  ·exact ⟨default,fun h=>absurd h hi⟩
 obtain ⟨f,hf⟩:=Classical.axiomOfChoice hr2
 have hg : ∀ i,i < n → nth ((List.range n).map f) i = f i:=fun i hi=>by
  simp only [nth,List.getD_eq_getElem?_getD,List.getElem?_map,List.getElem?_range hi,Option.map_some,Option.getD_some]
 refine ⟨(List.range n).map f,by simp,⟨fun hn=>?_⟩,fun x hx=>?_,fun i hi=>?_⟩
 ·rw [List.length_map,List.length_range] at hn;obtain ⟨b,o,e,h2⟩:=hs.at_ hn;refine ⟨b,o,e,fun i hi=>?_⟩;rw [List.length_map,List.length_range] at hi;have h3:=h2 i hi;rw [(hf i hi).1] at h3;rw [hg i hi];exact h3
 ·obtain ⟨i,hi,rfl⟩:=List.mem_map.1 hx;exact (hf i (List.mem_range.1 hi)).2
 ·rw [hg i hi];exact (hf i hi).1
theorem Qm7 : Tryz.prog.cellsOf 3 = 1:=by kernel_rfl
theorem QtF : Tryz.prog.cellsOf 4 = 1:=by kernel_rfl
theorem Qs9 : Tryz.prog.cellsOf 9 = 1:=by kernel_rfl
theorem Qgc : Tryz.prog.cellsOf 27 = 2:=by kernel_rfl
theorem Qpl : Tryz.prog.cellsOf 28 = 1:=by kernel_rfl
theorem Qqm : Tryz.prog.cellsOf 67 = 1:=by kernel_rfl
theorem Qsf : Tryz.prog.cellsOf 69 = 3:=by kernel_rfl
section
variable {W : World} {d : Nat}
theorem ln2 {cs : List Value} (h : cs.length = 2) : ∃ x0 x1,cs = [x0,x1]:=by
 match cs,h with
 | [x0,x1],_=>exact ⟨x0,x1,rfl⟩
theorem ln3 {cs : List Value} (h : cs.length = 3) : ∃ x0 x1 x2,cs = [x0,x1,x2]:=by
 match cs,h with
 | [x0,x1,x2],_=>exact ⟨x0,x1,x2,rfl⟩
theorem QtG {x : Value} (h : okT Tryz.prog W d 4 [x]) : ∃ n,x = .bool n:=by
 obtain ⟨n,e⟩:=QqQ h Tryz.underlying4;cases e;exact ⟨n,rfl⟩
theorem Qqx {x : Value} (h : okT Tryz.prog W d 9 [x]) : ∃ l : List UInt8,x = .string (bs l) ∧ l.length ≤ maxLen:=by
 obtain ⟨l,e,g⟩:=QfQ h Tryz.underlying9;cases e;exact ⟨l,rfl,g⟩
theorem QwR {cs : List Value} (h : okT Tryz.prog W d 27 cs) : ∃ x : TEnt,cs = x.vals ∧ True:=by
 obtain ⟨d2,l,o⟩:=QiF h Tryz.underlying27;rw [Qgc] at l;obtain ⟨x0,x1,rfl⟩:=ln2 l;simp only [List.mem_cons,List.mem_nil_iff,or_false,forall_eq_or_imp,forall_eq] at o;rw [Qs9] at o;obtain ⟨s,rfl,hs⟩:=Qqx (x:=x0) o.1;obtain ⟨t,rfl,ht⟩:=Qqx (x:=x1) o.2;exact ⟨⟨s,t⟩,rfl,trivial⟩
theorem QtN {x : Value} (h : okT Tryz.prog W d 67 [x]) : ∃ a c l,x = .slice a (List.length (α:=TEnt) l) c ∧ Rw TEnt.vals 2 W [] a l:=by
 obtain ⟨d2,a,n,cap,cell,e,h1,h2,sl,rows⟩:=Qlv h Tryz.underlying67 (by rw [Qgc];decide);rw [Qgc] at sl;cases e;obtain ⟨l,rfl,hl,_⟩:=QrV (vals:=TEnt.vals) (Q:=fun _=>True) sl fun i hi=>QwR (rows i hi);exact ⟨a,cap,l,rfl,hl⟩
theorem QsH {x : Value} (h : okT Tryz.prog W d 28 [x]) : ∃ a c l,x = .slice a (List.length (α:=Int) l) c ∧ Rw inV 1 W [] a l:=by
 obtain ⟨d2,a,n,cap,cell,e,h1,h2,sl,rows⟩:=Qlv h Tryz.underlying28 (by rw [Qm7];decide);rw [Qm7] at sl;cases e
 obtain ⟨l,rfl,hl,_⟩:=QrV (vals:=inV) (Q:=fun _=>True) sl fun i hi=>by
  obtain ⟨m,e,g⟩:=QfK (rows i hi) Tryz.underlying3;exact ⟨m,e,trivial⟩
 exact ⟨a,cap,l,rfl,hl⟩
theorem QxQ {cs : List Value} (h : okT Tryz.prog W d 69 cs) : ∃ k : LNd,cs = k.vals ∧ Rw TEnt.vals 2 W [] k.ea k.es ∧ Rw inV 1 W [] k.ca k.cs:=by
 obtain ⟨d2,l,o⟩:=QiF h Tryz.underlying69;rw [Qsf] at l;obtain ⟨x0,x1,x2,rfl⟩:=ln3 l;simp only [List.mem_cons,List.mem_nil_iff,or_false,forall_eq_or_imp,forall_eq] at o;rw [QtF,Qqm,Qpl] at o;obtain ⟨n0,rfl⟩:=QtG (x:=x0) o.1;obtain ⟨ea,ec,es,rfl,he⟩:=QtN (x:=x1) o.2.1;obtain ⟨ca,cc,ks,rfl,hk⟩:=QsH (x:=x2) o.2.2;exact ⟨⟨n0,ea,ec,es,ca,cc,ks⟩,rfl,he,hk⟩
theorem QrH {n : Nat} {a : Option Addr} {cell : Nat → List Value} (sl : Sl W [] a 3 n cell) (rows : ∀ i,i < n → okT Tryz.prog W d 69 (cell i)) : ∃ l : List LNd,n = l.length ∧ Nt W [] a l:=by
 obtain ⟨l,rfl,hl,hk,_⟩:=QrV (vals:=LNd.vals) (Q:=fun k=>Rw TEnt.vals 2 W [] k.ea k.es ∧ Rw inV 1 W [] k.ca k.cs) sl fun i hi=>QxQ (rows i hi);exact ⟨l,rfl,hl,hk⟩
end
end Go.Proofs
namespace Go.Proofs
open Go Go.RowKit Go.ChangeShapes Gx
section
variable {H : Type} {enc : TypeId × Value → H} {W : World}
end
end Go.Proofs
namespace Go.Proofs
open Go Go.RowKit Gx
attribute [local irreducible] Go.Calls Gx.S Gx.O Gx.D Gx.OpP Gx.OpQ Gx.OpH
set_option maxRecDepth 20000
theorem Zc : tki Tryz.prog 5 = some .u8:=by kernel_rfl
theorem YN : tki Tryz.prog 3 = some .i64:=by kernel_rfl
instance : TFn Tryz.prog 151:=⟨by kernel_rfl⟩
theorem Qq0 (a b : Int) : Value.int .i64 (IntKind.i64.wrap ((if decide (b < a) = true then 1 else 0) - (if decide (a < b) = true then 1 else 0))) = Value.int .i64 (Ya a b):=by
  unfold Ya
  by_cases h1 : a < b
  · have h2 : ¬ b < a:=by omega
    simp only [h1,h2,decide_true,decide_false,Bool.false_eq_true,if_true,if_false];rfl
  · by_cases h2 : b < a
    · simp only [h1,h2,decide_true,decide_false,Bool.false_eq_true,if_true,if_false];rfl
    · simp only [h1,h2,decide_true,decide_false,Bool.false_eq_true,if_true,if_false];rfl
def Qhp (c : Int) : Int:=if 97 ≤ c ∧ c ≤ 122 then c - 32 else c
theorem QgY (u : UInt8) : Qhp (u.toNat : Int) = ((QcE u).toNat : Int):=by
  have hu:=u.toNat_lt;unfold Qhp QcE
  by_cases h : 97 ≤ u ∧ u ≤ 122
  · have h2:=h;rw [UInt8.le_iff_toNat_le,UInt8.le_iff_toNat_le] at h2;have e97 : (97 : UInt8).toNat = 97:=rfl;have e122 : (122 : UInt8).toNat = 122:=rfl;rw [e97,e122] at h2;rw [if_pos h,if_pos (by omega),UInt8.toNat_sub_of_le _ _ (by rw [UInt8.le_iff_toNat_le];show 32 ≤ _;omega)];show (u.toNat : Int) - 32 = ((u.toNat - 32 : Nat) : Int);omega
  · have h2:=h;rw [UInt8.le_iff_toNat_le,UInt8.le_iff_toNat_le] at h2;have e97 : (97 : UInt8).toNat = 97:=rfl;have e122 : (122 : UInt8).toNat = 122:=rfl;rw [e97,e122] at h2;rw [if_neg h,if_neg (by omega)]
theorem c72 (w : World) (s : List UInt8) (at' c : Nat) (hm : s.length ≤ 1000000000) (hc : c ≤ 7) (hac : at' + c ≤ s.length) : Calls Tryz.prog 72 #[.string (bs s),.int .i64 (at' : Int),.int .i64 (c : Int)] w fun en w'=>en = .returned (.int .i64 (QbH s at' c)) ∧ Below w.heap.size w w':=by
 refine eN3 Tryz.func72 Tryz.ntmps72 ?_
 refine aT13 ?_
 refine aU3 ?_
 refine Qr (α:=Nat) [7,8,11,12,13,14,15,16,17,18,19,20,21,22,23] (fun j=>[(8,.int .i64 ((j : Int) - 1)),(7,.int .i64 (QbH s (at' + j) (c - j)))]) (fun _=>_) (fun j=>j ≤ c) (fun j=>j) c (Nat.le_refl _) (by rw [Nat.sub_self];exact aSx) (fun w h=>h) (fun j hj=>?_)
 refine aU6 ?_
 refine sCd rfl (fun h1=>?_) fun h1=>?_
 ·obtain ⟨i,rfl⟩ : ∃ i,j = i + 1:=⟨j - 1,by omega⟩
  have hst : QbH s (at' + i) (c - i) = at1 s (at' + i) + 256 * QbH s (at' + (i + 1)) (c - (i + 1)):=by rw [show c - i = (c - (i + 1)) + 1 by omega,QbH];rfl
  have hb1:=Qco s (at' + i)
  have hn6:=QwI s (at' + (i + 1)) (k:=c - (i + 1)) (by omega)
  have hb9:=(s.getD (at' + i) 0).toNat_lt
  refine aT6 ?_
  refine aT4 ?_
  refine Qk (show _ = Value.int .i64 ((at' + i : Nat) : Int) from by congr 1;omega) ?_
  refine o_p (Xi rfl rfl rfl Tryz.underlying9 (at' + i) (by omega) (by omega)) rfl ?_
  refine o_p (Qo rfl rfl Zc YN) rfl ?_
  try refine oWr ?_
  refine aT ?_
  refine Qk (show _ = Value.int .i64 (QbH s (at' + i) (c - i)) from by rw [hst];congr 1;show _ * 256 + at1 s (at' + i) = _;omega) ?_
  refine aT6 ?_
  refine aU2 ?_
  exact QP i (by omega) (by omega) (by rw [show ((i : Int) - 1) = ((i + 1 : Nat) : Int) - 1 - 1 from by omega];exact aSx) (fun w h=>h)
 obtain rfl : j = 0:=by omega
 rw [Nat.add_zero,Nat.sub_zero]
 refine Qi rfl ?_
 refine aU5 ?_
 exact rT rfl rfl (fun w' h'=>⟨by rfl,h'.below⟩)
theorem Qsz (w : World) (b : Bool) : Calls Tryz.prog 151 #[.bool b] w fun en w'=>en = .returned (.int .i64 (if b then 1 else 0)) ∧ Below w.heap.size w w':=by
 refine eN1 Tryz.func151 Tryz.ntmps151 ?_
 refine aU9 ?_
 refine sCd rfl (fun h1=>?_) fun h1=>?_
 ·refine aU4 ?_
  exact rT rfl rfl (fun w' h'=>⟨by simp_all [QW],h'.below⟩)
 refine aU5 ?_
 exact rT rfl rfl (fun w' h'=>⟨by simp_all [QW],h'.below⟩)
theorem c35 (w : World) (n : Int) : Calls Tryz.prog 35 #[.int .i64 n] w fun en w'=>en = .returned (.bool (decide (0 ≤ n) && decide (n ≤ 2147483647))) ∧ Below w.heap.size w w':=by
 refine eN1 Tryz.func35 Tryz.ntmps35 ?_
 refine aU7 ?_
 refine oCq rfl (fun w1 h1=>c40 w1 _ _ _) ?_
 refine aU2 ?_
 exact rT rfl rfl (fun w' h'=>⟨rfl,h'.below⟩)
theorem QqM (w : World) (a b : Int) : Calls Tryz.prog 133 #[.int .i64 a,.int .i64 b] w fun en w'=>en = .returned (.int .i64 (Ya a b)) ∧ Below w.heap.size w w':=by
 refine eN2 Tryz.func133 Tryz.ntmps133 ?_
 refine aU9 ?_
 refine oCq rfl (fun w1 h1=>Qsz w1 _) ?_
 refine aU3 ?_
 refine oCq rfl (fun w1 h1=>Qsz w1 _) ?_
 refine aU ?_
 refine Qk (show _ = Value.int .i64 (Ya a b) from Qq0 a b) ?_
 refine aU2 ?_
 exact rT rfl rfl (fun w' h'=>⟨by rfl,h'.below⟩)
theorem c134 (w : World) (c : Int) (h0 : 0 ≤ c ∧ c ≤ 255) : Calls Tryz.prog 134 #[.int .i64 c] w fun en w'=>en = .returned (.int .i64 (Qhp c)) ∧ Below w.heap.size w w':=by
 refine eN1 Tryz.func134 Tryz.ntmps134 ?_
 refine aU8 ?_
 refine oCq rfl (fun w1 h1=>c40 w1 _ _ _) ?_
 refine aU ?_
 refine sCd rfl (fun h1=>?_) fun h1=>?_
 ·have hz : Qhp c = c - 97 + 65:=by have hq:=h1;unfold Qhp;rw [if_pos (by first | exact hq | (simp at hq;omega))];omega
  refine aT4 ?_
  refine aT ?_
  refine aU2 ?_
  exact rT rfl rfl (fun w' h'=>⟨by rw [hz];rfl,h'.below⟩)
 have hz : Qhp c = c:=by have hq:=h1;unfold Qhp;rw [if_neg (by intro h9;first | exact hq h9 | (simp at hq;omega))]
 refine aU6 ?_
 exact rT rfl rfl (fun w' h'=>⟨by rw [hz];rfl,h'.below⟩)
theorem QA : tsl Tryz.prog 139 = some (5,1,1):=by kernel_rfl
theorem Qed : tsz Tryz.prog 5 = some (1,false):=by kernel_rfl
instance : TSz Tryz.prog 5 1 false:=⟨Qed⟩
theorem Yl : tki Tryz.prog 188 = some .u16:=by kernel_rfl
theorem QN : Tryz.prog.follows .mixedOrders = true:=by kernel_rfl
theorem QrQ : QK Tryz.prog 268 = true:=by kernel_rfl
theorem Y1 : tki Tryz.prog 190 = some .u32:=by kernel_rfl
instance : TFn Tryz.prog 255:=⟨by kernel_rfl⟩
instance : TFn Tryz.prog 256:=⟨by kernel_rfl⟩
theorem QpI : QvG Tryz.prog 254:=⟨_,Tryz.func254,rfl,rfl,by kernel_rfl,by kernel_rfl⟩
instance : TFn Tryz.prog 226:=⟨by kernel_rfl⟩
theorem c268 (w : World) (a : Option Addr) (m cap : Nat) (x : List UInt8) (hs : Vl w a (x.map bv)) (hm : x.length = m) (h2 : 2 ≤ m) (hc : m ≤ cap) (hc9 : cap ≤ 9223372036854775807) : Calls Tryz.prog 268 #[.slice a m cap] w fun en w'=>en = .returned (.int .u16 (at2 x 0)) ∧ Below w.heap.size w w':=by
 refine eN1 Tryz.func268 Tryz.ntmps268 ?_
 refine aU5 ?_
 refine Qz [] QN ?_
 refine dP 0 ?_
 refine dV 1 rfl (Qa rfl rfl rfl QA 0 rfl (by omega) (hs.some (by rw [List.length_map];omega))) ?_
 refine dQ 2 [] rfl (Qb rfl rfl Qed ((hs.rd (i:=0) (Qal (l:=x) (k:=0) (by omega))))) ?_
 refine dV 3 rfl (Qo rfl rfl Zc Yl) ?_
 refine dP 4 ?_
 refine dV 5 rfl (Qa rfl rfl rfl QA 1 rfl (by omega) (hs.some (by rw [List.length_map];omega))) ?_
 refine dQ 6 [] rfl (Qb rfl rfl Qed ((hs.rd (i:=1) (Qal (l:=x) (k:=1) (by omega))))) ?_
 refine dV 7 rfl (Qo rfl rfl Zc Yl) ?_
 refine dV 8 rfl (Qfh rfl rfl rfl (by decide) 8 rfl) ?_
 refine dP 9 ?_
 refine dP 10 ?_
 refine dNi ?_
 exact rT rfl rfl (fun w' h'=>⟨by rw [← QjO];rfl,h'.below⟩)
theorem c255 (w : World) (a : Option Addr) (m cap : Nat) (x : List UInt8) (hs : Vl w a (x.map bv)) (hm : x.length = m) (h2 : 4 ≤ m) (hc : m ≤ cap) (hc9 : cap ≤ 9223372036854775807) : Calls Tryz.prog 255 #[.slice a m cap] w fun en w'=>en = .returned (.int .u32 (at4 x 0)) ∧ Below w.heap.size w w':=by
 have hx2:=QaN x 0
 have hx3:=QaN x 2
 refine eN1 Tryz.func255 Tryz.ntmps255 ?_
 refine aU5 ?_
 refine Qz [] QN ?_
 refine dP 0 ?_
 refine dQ 1 [] rfl (Qq rfl QrQ rfl (fun w1 h1=>c268 w1 a m cap x (hs.later h1) hm (by omega) hc hc9)) ?_
 refine dV 2 rfl (Qo rfl rfl Yl Y1) ?_
 refine dP 3 ?_
 refine dV 4 rfl (Qx _ _ 2 m rfl rfl QA ⟨_,_,rfl,rfl⟩ rfl (by omega) (by omega)) ?_
 refine dQ 5 [] rfl (Qq rfl QrQ rfl (fun w1 h1=>c268 w1 (XV a cap 2 1) (m - 2) (cap - 2) (x.drop 2) (by rw [List.map_drop];exact (hs.later h1).drop (by rw [List.length_map];omega) (by omega)) (by rw [List.length_drop];omega) (by omega) (by omega) (by omega))) ?_
 refine dV 6 rfl (Qo rfl rfl Yl Y1) ?_
 refine dV 7 rfl (Qfh rfl rfl rfl (by decide) 16 rfl) ?_
 refine dP 8 ?_
 refine dP 9 ?_
 refine dNi ?_
 exact rT rfl rfl (fun w' h'=>⟨by have h9:=QkX (at2 x 0) (at2 (x.drop 2) 0) (QaN _ _) (QaN _ _);rw [QaX] at h9 ⊢;exact (congrArg Ending.returned h9),h'.below⟩)
theorem QwM (w : World) (s : List UInt8) (p : Nat) (hm : s.length ≤ 1000000) (hp : p + 4 ≤ s.length) : Calls Tryz.prog 227 #[.string (bs s),.int .i64 (p : Int)] w fun en w'=>en = .returned (.int .u32 (at4 s p)) ∧ Below w.heap.size w w':=by
 have h4:=QiE s p
 have hdl : (s.drop p).length = s.length - p:=List.length_drop
 refine eN2 Tryz.func227 Tryz.ntmps227 ?_
 refine aU8 ?_
 refine o_p (YR p rfl rfl rfl Tryz.underlying9 rfl (by omega)) rfl ?_
 refine o_h (QaB rfl rfl Tryz.underlying9 Tryz.underlying139 Tryz.underlying5 rfl (by simp only [maxLen];omega)) rfl (fun ⟨b1,c2⟩ ⟨h3,k4⟩=>?_)
 refine oCq rfl (fun w1 h1=>by have h9:=c255 w1 (some ⟨b1,0,none⟩) (s.drop p).length c2 (s.drop p) (h1.vl_blk aPk) rfl (by omega) (by assumption) (by have hq9 : c2 ≤ maxLen:=(by assumption);simp only [maxLen] at hq9;omega);rw [Qgo,Nat.add_zero] at h9;exact h9) ?_
 refine aU2 ?_
 exact rT rfl rfl (fun w' h'=>⟨by rfl,h'.below⟩)
theorem c256 (w : World) (x : Int) : Calls Tryz.prog 256 #[.int .u32 x] w fun en w'=>en = .returned (.bool false) ∧ Below w.heap.size w w':=by
 refine eN1 Tryz.func256 Tryz.ntmps256 ?_
 refine QdM ?_
 exact rT rfl rfl (fun w' h'=>⟨by simp [QW],h'.below⟩)
theorem c228 (w : World) (x y : Int) : Calls Tryz.prog 228 #[.int .u32 x,.int .u32 y] w fun en w'=>en = .returned (.int .i64 (Ya x y)) ∧ Below w.heap.size w w':=by
 refine eN2 Tryz.func228 Tryz.ntmps228 ?_
 refine aU7 ?_
 refine oCq rfl (fun w1 h1=>c256 w1 _) ?_
 refine aU5 ?_
 refine oCq rfl (fun w1 h1=>c256 w1 _) ?_
 refine aU7 ?_
 refine sCd rfl (fun h1=>?_) fun h1=>?_
 ·exfalso;simp at h1
 refine aU6 ?_
 refine sCd rfl (fun h2=>?_) fun h2=>?_
 ·exfalso;simp at h2
 refine aU8 ?_
 refine sCd rfl (fun h3=>?_) fun h3=>?_
 ·have hz : Ya x y = -1:=by have hq:=h3;unfold Ya;rw [if_pos hq]
  refine aU4 ?_
  exact rT rfl rfl (fun w' h'=>⟨by rw [hz];rfl,h'.below⟩)
 refine aU8 ?_
 refine sCd rfl (fun h4=>?_) fun h4=>?_
 ·have hz : Ya x y = 1:=by have hq:=h4;unfold Ya;rw [if_neg (by omega),if_pos hq]
  refine aU4 ?_
  exact rT rfl rfl (fun w' h'=>⟨by rw [hz];rfl,h'.below⟩)
 have hz : Ya x y = 0:=by have hq:=h4;unfold Ya;rw [if_neg (by omega),if_neg hq]
 refine aU5 ?_
 exact rT rfl rfl (fun w' h'=>⟨by rw [hz];rfl,h'.below⟩)
theorem c226 (w : World) (a b : List UInt8) : Calls Tryz.prog 226 #[.string (bs a),.string (bs b)] w fun en w'=>en = .returned (.int .i64 (Qb7 a b)) ∧ Below w.heap.size w w':=by
 refine eN2 Tryz.func226 Tryz.ntmps226 ?_
 refine aU8 ?_
 refine o_q (Qfw rfl rfl rfl QpI) rfl ?_
 refine aU2 ?_
 exact rT rfl rfl (fun w' h'=>⟨by rfl,h'.below⟩)
theorem c184 (w : World) (a b : List UInt8) : Calls Tryz.prog 184 #[.string (bs a),.string (bs b)] w fun en w'=>en = .returned (.int .i64 (Qb7 a b)) ∧ Below w.heap.size w w':=by
 refine eN2 Tryz.func184 Tryz.ntmps184 ?_
 refine aU8 ?_
 refine oCq rfl (fun w1 h1=>c226 w1 _ _) ?_
 refine aU2 ?_
 exact rT rfl rfl (fun w' h'=>⟨by rfl,h'.below⟩)
instance : TFn Tryz.prog 227:=⟨by kernel_rfl⟩
instance : TFn Tryz.prog 228:=⟨by kernel_rfl⟩
instance : TFn Tryz.prog 189:=⟨by kernel_rfl⟩
def Qbr (s : List UInt8) (q : Nat) : Bool:=(List.range q).all fun i=>Qfv s (4 * i)
theorem QoH {s : List UInt8} {q k : Nat} (hk : k < q) (h : 2147483647 < at4 s (4 * k)) : Qbr s q = false:=by
  unfold Qbr;rw [List.all_eq_false];exact ⟨k,List.mem_range.2 hk,by unfold Qfv;simp;omega⟩
theorem Qk7 {s : List UInt8} {k : Nat} (h : Qbr s k = true) (h2 : ¬ 2147483647 < at4 s (4 * k)) : Qbr s (k + 1) = true:=by
  unfold Qbr at h ⊢;rw [List.range_succ,List.all_append,h];unfold Qfv;simp;omega
def Qcg (a b : List UInt8) : Nat → Nat → Int
  | 0,_=>0
  | f + 1,k=>if Ya (at4 a (4 * k)) (at4 b (4 * k)) ≠ 0 then Ya (at4 a (4 * k)) (at4 b (4 * k)) else Qcg a b f (k + 1)
theorem c189 (w : World) (s : List UInt8) (q : Nat) (hm : s.length ≤ 1000000) (hq : q ≤ 1000) : Calls Tryz.prog 189 #[.string (bs s),.int .i64 ((4 * q : Nat) : Int)] w fun en w'=>en = .returned (.bool (decide (s.length = 4 * q) && Qbr s q)) ∧ Below w.heap.size w w':=by
 refine eN2 Tryz.func189 Tryz.ntmps189 ?_
 refine aU8 ?_
 refine o_p (Qg rfl rfl Tryz.underlying9) rfl ?_
 refine aU3 ?_
 refine sCd rfl (fun h1=>?_) fun h1=>?_
 ·have hne : ¬ s.length = 4 * q:=by have hq9:=h1;omega
  refine aU4 ?_
  exact rT rfl rfl (fun w' h'=>⟨by simp [QW,hne],h'.below⟩)
 have heq : s.length = 4 * q:=by have hq9:=h1;omega
 refine aU7 ?_
 refine Qr (α:=Nat) [4,5,10,11,12,13,14,15,16,17,18] (fun k=>[(5,.int .i64 ((4 * k : Nat) : Int))]) (fun _=>_) (fun k=>k ≤ q ∧ Qbr s k = true) (fun k=>q - k) 0 ⟨Nat.zero_le _,rfl⟩ aSx (fun w h=>h) (fun k hx=>?_)
 obtain ⟨hk1,hok⟩:=hx
 refine aU7 ?_
 refine sCd rfl (fun h2=>?_) fun h2=>?_
 ·have hk : k < q:=by omega
  refine aU7 ?_
  refine oCq rfl (fun w1 h1=>QwM w1 s (4 * k) (by omega) (by omega)) ?_
  refine aU2 ?_
  refine sCd rfl (fun h3=>?_) fun h3=>?_
  ·have hz:=QoH hk h3
   refine aU4 ?_
   exact rT rfl rfl (fun w' h'=>⟨by simp [QW,hz],h'.below⟩)
  have hz:=Qk7 hok h3
  refine aT5 ?_
  refine aU2 ?_
  exact QP (k + 1) (by omega) ⟨by omega,hz⟩ (by rw [show (((4 * k : Nat)) : Int) + 4 = ((4 * (k + 1) : Nat) : Int) from by omega];exact aSx) (fun w h=>h)
 obtain rfl : k = q:=by omega
 refine Qi rfl ?_
 refine aU4 ?_
 exact rT rfl rfl (fun w' h'=>⟨by simp [QW,heq,hok],h'.below⟩)
theorem c190 (w : World) (a b : List UInt8) (q : Nat) (ha : a.length = 4 * q) (hb : b.length = 4 * q) (hq : q ≤ 1000) : Calls Tryz.prog 190 #[.string (bs a),.string (bs b)] w fun en w'=>en = .returned (.int .i64 (Qcg a b q 0)) ∧ Below w.heap.size w w':=by
 refine eN2 Tryz.func190 Tryz.ntmps190 ?_
 refine Zv ?_
 refine Qr (α:=Nat) [4,5,6,7,8,9,10,11,12,13,14,15,16,17,18,19,20,21,22] (fun k=>[(5,.int .i64 ((4 * k : Nat) : Int))]) (fun _=>_) (fun k=>k ≤ q ∧ Qcg a b q 0 = Qcg a b (q - k) k) (fun k=>q - k) 0 ⟨Nat.zero_le _,rfl⟩ aSx (fun w h=>h) (fun k hx=>?_)
 obtain ⟨hk1,hx2⟩:=hx
 refine aU5 ?_
 refine o_p (Qg rfl rfl Tryz.underlying9) rfl ?_
 refine aU2 ?_
 refine sCd rfl (fun h1=>?_) fun h1=>?_
 ·have hk : k < q:=by omega
  have hst : Qcg a b (q - k) k = if Ya (at4 a (4 * k)) (at4 b (4 * k)) ≠ 0 then Ya (at4 a (4 * k)) (at4 b (4 * k)) else Qcg a b (q - (k + 1)) (k + 1):=by rw [show q - k = (q - (k + 1)) + 1 by omega,Qcg]
  refine aU7 ?_
  refine oCq rfl (fun w1 h1=>QwM w1 a (4 * k) (by omega) (by omega)) ?_
  refine aU2 ?_
  refine oCq rfl (fun w1 h1=>QwM w1 b (4 * k) (by omega) (by omega)) ?_
  refine oCq rfl (fun w1 h1=>c228 w1 _ _) ?_
  refine aU7 ?_
  refine sCd rfl (fun h2=>?_) fun h2=>?_
  ·have hq9 : Ya (at4 a (4 * k)) (at4 b (4 * k)) ≠ 0:=h2
   rw [hst,if_pos hq9] at hx2
   refine aU5 ?_
   exact rT rfl rfl (fun w' h'=>⟨by rw [hx2];rfl,h'.below⟩)
  have hq9 : ¬ Ya (at4 a (4 * k)) (at4 b (4 * k)) ≠ 0:=by have hq8:=h2;simpa using hq8
  rw [hst,if_neg hq9] at hx2
  refine aT5 ?_
  refine aU2 ?_
  exact QP (k + 1) (by omega) ⟨by omega,hx2⟩ (by rw [show (((4 * k : Nat)) : Int) + 4 = ((4 * (k + 1) : Nat) : Int) from by omega];exact aSx) (fun w h=>h)
 obtain rfl : k = q:=by omega
 rw [Nat.sub_self,Qcg] at hx2
 refine Qi rfl ?_
 refine aU4 ?_
 exact rT rfl rfl (fun w' h'=>⟨by rw [hx2];rfl,h'.below⟩)
theorem c188 (w : World) (s : List UInt8) (hm : s.length ≤ 1000000) : Calls Tryz.prog 188 #[.string (bs s)] w fun en w'=>en = .returned (.bool (QU 2 s)) ∧ Below w.heap.size w w':=by
 refine eN1 Tryz.func188 Tryz.ntmps188 ?_
 refine aU7 ?_
 refine oCq rfl (fun w1 h1=>c189 w1 s 1 hm (by decide)) ?_
 refine aU2 ?_
 exact rT rfl rfl (fun w' h'=>⟨by simp [QW,QU,Qbr,List.range_succ,List.range_zero],h'.below⟩)
theorem c191 (w : World) (s : List UInt8) (hm : s.length ≤ 1000000) : Calls Tryz.prog 191 #[.string (bs s)] w fun en w'=>en = .returned (.bool (QU 3 s)) ∧ Below w.heap.size w w':=by
 refine eN1 Tryz.func191 Tryz.ntmps191 ?_
 refine aU7 ?_
 refine oCq rfl (fun w1 h1=>c189 w1 s 2 hm (by decide)) ?_
 refine aU2 ?_
 exact rT rfl rfl (fun w' h'=>⟨by simp [QW,QU,Qbr,List.range_succ,List.range_zero],h'.below⟩)
theorem c183 (w : World) (s : List UInt8) : Calls Tryz.prog 183 #[.string (bs s)] w fun en w'=>en = .returned (.bool (QU 0 s)) ∧ Below w.heap.size w w':=by
 refine eN1 Tryz.func183 Tryz.ntmps183 ?_
 refine aU7 ?_
 refine o_p (Qg rfl rfl Tryz.underlying9) rfl ?_
 refine oCq rfl (fun w1 h1=>QoL w1 _ _ _) ?_
 refine aU2 ?_
 exact rT rfl rfl (fun w' h'=>⟨by simp [QW,QU,Bool.decide_and];first | done | (congr 1 <;> simp <;> omega) | grind,h'.below⟩)
theorem c185 (w : World) (s : List UInt8) : Calls Tryz.prog 185 #[.string (bs s)] w fun en w'=>en = .returned (.bool (QU 1 s)) ∧ Below w.heap.size w w':=by
 refine eN1 Tryz.func185 Tryz.ntmps185 ?_
 refine aU7 ?_
 refine o_p (Qg rfl rfl Tryz.underlying9) rfl ?_
 refine oCq rfl (fun w1 h1=>QoL w1 _ _ _) ?_
 refine aU2 ?_
 exact rT rfl rfl (fun w' h'=>⟨by simp [QW,QU,Bool.decide_and];first | done | (congr 1 <;> simp <;> omega) | grind,h'.below⟩)
theorem Qqg : QS Tryz.prog 181 = some [.nilFunc,.nilFunc,.nilFunc,.nilFunc,.nilFunc,.nilFunc,.nilFunc,.nilFunc]:=by kernel_rfl
theorem Qit : YY Tryz.prog 164 = some [(0,1),(1,1)]:=by kernel_rfl
theorem QiK : QS Tryz.prog 164 = some [.nilFunc,.nilFunc]:=by kernel_rfl
theorem QiT : tar Tryz.prog 181 = some (4,164,2):=by kernel_rfl
theorem Qpi : tsz Tryz.prog 181 = some (8,true):=by kernel_rfl
instance : TSz Tryz.prog 181 8 true:=⟨Qpi⟩
theorem Qrm : QK Tryz.prog 127 = true:=by kernel_rfl
instance : TFn Tryz.prog 127:=⟨Qrm⟩
theorem Qi0 : tsz Tryz.prog 164 = some (2,true):=by kernel_rfl
instance : TSz Tryz.prog 164 2 true:=⟨Qi0⟩
theorem Qpb : tfd Tryz.prog 164 0 = some (0,103):=by kernel_rfl
theorem QvQ : tsz Tryz.prog 103 = some (1,false):=by kernel_rfl
def QeV (co : Int) : Nat:=if co = 0 then 183 else if co = 1 then 185 else if co = 2 then 188 else 191
def Qe7 (co : Int) : Nat:=if co = 0 then 184 else if co = 1 then 186 else 190
def QaY (f : Nat) : Value:=.func (.func f) #[] #[]
def ordV (co : Int) : Value:=.agg #[QaY (QeV co),QaY (Qe7 co)]
theorem QwG (w : World)  : Calls Tryz.prog 127 #[] w fun en w'=>en = .returned (.agg #[QaY (QeV 0),QaY (Qe7 0),QaY (QeV 1),QaY (Qe7 1),QaY (QeV 2),QaY (Qe7 2),QaY (QeV 3),QaY (Qe7 3)]) ∧ Below w.heap.size w w':=by
 refine eN0 Tryz.func127 Tryz.ntmps127 ?_
 refine aU2 ?_
 refine oAl (fun b1 _=>?_) Qqg
 refine aU3 ?_
 refine o_p (QD (cs:=[_,_]) rfl rfl Qit QiK rfl) rfl ?_
 refine o_p (QD (cs:=[_,_]) rfl rfl Qit QiK rfl) rfl ?_
 refine o_p (QD (cs:=[_,_]) rfl rfl Qit QiK rfl) rfl ?_
 refine o_p (QD (cs:=[_,_]) rfl rfl Qit QiK rfl) rfl ?_
 refine o_p (Qfr (cs:=[_,_,_,_,_,_,_,_]) rfl rfl QiT Qqg rfl) rfl ?_
 refine aU2 ?_
 exact Qj (rs:=[.cell 0 181]) rfl (.cell rfl Qpi aPk rfl (.nil)) (fun w' h'=>⟨by rfl,h'.below⟩)
theorem QuQ (co : Int) : QK Tryz.prog (QeV co) = true:=by
  unfold QeV;split
  · kernel_rfl
  · split
    · kernel_rfl
    · split <;> kernel_rfl
theorem Qn1 (w : World) (j : Nat) (s : List UInt8) (hj : j ≤ 3) (hm : s.length ≤ 1000000) : Calls Tryz.prog (QeV (j : Int)) #[.string (bs s)] w fun en w'=>en = .returned (.bool (QU (j : Int) s)) ∧ Below w.heap.size w w':=by
  match j,hj with
  | 0,_=>exact c183 w s
  | 1,_=>exact c185 w s
  | 2,_=>exact c188 w s hm
  | 3,_=>exact c191 w s hm
theorem Qhi (j : Nat) (hj : j ≤ 3) : Value.agg (cut [QaY (QeV 0),QaY (Qe7 0),QaY (QeV 1),QaY (Qe7 1),QaY (QeV 2),QaY (Qe7 2),QaY (QeV 3),QaY (Qe7 3)] (j * 2) 2).toArray = ordV (j : Int):=by
  match j,hj with
  | 0,_=>rfl
  | 1,_=>rfl
  | 2,_=>rfl
  | 3,_=>rfl
theorem QwN (w : World) (j : Nat) (s : List UInt8) (hj : j ≤ 3) (hm : s.length ≤ 1000000) : Calls Tryz.prog 126 #[.int .i64 (j : Int),.string (bs s)] w fun en w'=>en = .returned (.int .i64 (Yf (j : Int) s)) ∧ Below w.heap.size w w':=by
 refine eN2 Tryz.func126 Tryz.ntmps126 ?_
 refine aU6 ?_
 refine oCq rfl (fun w1 h1=>QwG w1) ?_
 refine aU ?_
 refine o_p (QeH rfl rfl rfl QiT Qi0 j rfl (by omega)) rfl ?_
 refine Qk (Qhi j hj) ?_
 refine o_p (QgT rfl rfl Qpb QvQ rfl) rfl ?_
 refine aU ?_
 refine o_q (YO rfl rfl (QuQ _) rfl (fun w1 h1=>Qn1 w1 j s hj hm)) rfl ?_
 refine oCq rfl (fun w1 h1=>Qer w1 _ _) ?_
 refine aU2 ?_
 exact rT rfl rfl (fun w' h'=>⟨by simp only [QW,Yf,cond_eq_ite],h'.below⟩)
instance : TFn Tryz.prog 187:=⟨by kernel_rfl⟩
instance : TFn Tryz.prog 184:=⟨by kernel_rfl⟩
theorem bset {L : List UInt8} {k : Nat} {x : UInt8} {v : Value} (h : k < L.length) (hv : v = bv x) : Qh (L.map bv) (k * 1) [v] = (L.set k x).map bv:=by
  subst hv;have h9:=Qkn (vals:=byV) (sz:=1) (fun _=>rfl) L k 0 [bv x] (L.getD k 0) x (by rw [List.getElem?_eq_getElem h,List.getD_eq_getElem?_getD,List.getElem?_eq_getElem h];rfl) rfl (by simp);rw [Nat.add_zero] at h9;have e : ∀ M : List UInt8,M.flatMap byV = M.map bv:=fun M=>QrP bv M;rw [e,e] at h9;exact h9
def Qc9 (s : List UInt8) (k : Nat) : List UInt8:=(s.map QcE).take k ++ s.drop k
theorem Qcj {s : List UInt8} {k : Nat} (h : k ≤ s.length) : (Qc9 s k).length = s.length:=by simp [Qc9];omega
theorem Qj2 {s : List UInt8} {k : Nat} (h : k < s.length) : (Qc9 s k).getD k 0 = s.getD k 0:=by
  unfold Qc9;rw [List.getD_eq_getElem?_getD,List.getElem?_append_right (by simp;omega),List.getElem?_drop,List.getD_eq_getElem?_getD];congr 2;simp;omega
theorem QkY {s : List UInt8} {k : Nat} (h : k < s.length) : (Qc9 s k).set k (QcE (s.getD k 0)) = Qc9 s (k + 1):=by
  unfold Qc9;apply List.ext_getElem?;intro j;simp only [List.getElem?_set,List.getElem?_append,List.getElem?_take,List.getElem?_drop,List.length_append,List.length_take,List.length_map,List.length_drop,List.getElem?_map,List.getD_eq_getElem?_getD];have hk:=List.getElem?_eq_getElem h
  grind
theorem Qu0 (s : List UInt8) : Qc9 s 0 = s:=by simp [Qc9]
theorem Qr9 (s : List UInt8) : Qc9 s s.length = s.map QcE:=by
  unfold Qc9;rw [List.drop_length,List.append_nil,List.take_of_length_le (by simp)]
theorem Qoh {s : List UInt8} {k : Nat} (h : k < s.length) (hc : QcE (s.getD k 0) = s.getD k 0) : Qc9 s k = Qc9 s (k + 1):=by
  rw [← QkY h,hc];apply List.ext_getElem?;intro j;rw [List.getElem?_set];split
  · rename_i e;subst e;rw [← Qj2 h,List.getD_eq_getElem?_getD];rw [if_pos (by rw [Qcj (by omega)];exact h),List.getElem?_eq_getElem (by rw [Qcj (by omega)];exact h)];rfl
  · rfl
theorem QpV {x : UInt8} (h : 97 ≤ x.toNat ∧ x.toNat ≤ 122) : Value.int .u8 (IntKind.u8.wrap (IntKind.u8.wrap ((x.toNat : Int) - 97) + 65)) = bv (QcE x):=by
  have h2:=QgY x;unfold Qhp at h2;rw [if_pos (by omega)] at h2;rw [show (x.toNat : Int) - 97 = ((x.toNat - 97 : Nat) : Int) by omega,QmC _ (by omega),show ((x.toNat - 97 : Nat) : Int) + 65 = ((x.toNat - 32 : Nat) : Int) by omega,QmC _ (by omega)];unfold bv;exact congrArg (Value.int .u8) (by omega)
theorem QwC {x : UInt8} (h : ¬ (97 ≤ x.toNat ∧ x.toNat ≤ 122)) : QcE x = x:=by
  have h2:=QgY x;unfold Qhp at h2;rw [if_neg (by omega)] at h2;exact UInt8.toNat_inj.1 (by omega)
theorem c187 (w : World) (s : List UInt8) (hm : s.length ≤ 1000000) : Calls Tryz.prog 187 #[.string (bs s)] w fun en w'=>en = .returned (.string (bs (s.map QcE))) ∧ Below w.heap.size w w':=by
 refine eN1 Tryz.func187 Tryz.ntmps187 ?_
 refine aU7 ?_
 refine o_h (QaB rfl rfl Tryz.underlying9 Tryz.underlying139 Tryz.underlying5 rfl (by simp only [maxLen];omega)) rfl (fun ⟨b1,c2⟩ ⟨h3,k4⟩=>?_)
 refine Zv ?_
 refine Qr (α:=Nat) [4,5,10,11,12,13,14,15,16,17,18,19,20,21,22,23,24,25,26,27] (fun k=>[(10,.int .i64 (k : Int))]) (fun k=>HS w [] [.blk b1 5 c2 ((Qc9 s k).map bv)]) (fun k=>k ≤ s.length) (fun k=>s.length - k) 0 (Nat.zero_le _) aSx (fun w h=>by rw [Qu0];exact h.ent aEt) (fun k hk1=>?_)
 refine aU5 ?_
 refine sCd rfl (fun h5=>?_) fun h5=>?_
 ·have hk : k < s.length:=by omega
  have hb9:=(s.getD k 0).toNat_lt
  refine aU6 ?_
  refine o_p (Qa rfl rfl rfl QA (k) (by omega) (by omega) rfl) rfl ?_
  refine o_q (XZ rfl rfl Qed (fun w h=>by rw [Nat.zero_add];exact h.rd_blk (Mc:=[]) aPk (by rw [Nat.mul_one,Qal (by rw [Qcj hk1];exact hk),Qj2 hk]) (by simp))) rfl ?_
  refine aU8 ?_
  refine Yq 3 17 20 rfl
   (fun hg6 _=>by
    refine aU4 ?_
    exact oJt 3 20)
   (fun hg8 _=>by
    refine aU2 ?_
    exact oJf 3 20) ?_
  refine aU ?_
  refine Yo (α:=Unit) [21,22,23,24,25,26] (fun _=>[]) (fun _=>HS w [] [.blk b1 5 c2 ((Qc9 s (k + 1)).map bv)]) (fun _=>True) ?_ ?_
  ·skip
   refine sCd rfl (fun h10=>?_) fun h10=>?_
   ·have hcc : 97 ≤ (s.getD k 0).toNat ∧ (s.getD k 0).toNat ≤ 122:=by have hq:=h10;omega
    refine aU6 ?_
    try (refine Qk (u8add _ _) ?_)
    refine Qk (QpV hcc) ?_
    refine o_p (Qa rfl rfl rfl QA (k) (by omega) (by omega) rfl) rfl ?_
    refine Qk (show _ = Value.pointer (some ⟨b1,k * 1,none⟩) from by rw [Nat.zero_add]) ?_
    refine Qld (Qbz rfl rfl rfl Qed rfl aPt (by rw [List.length_map,Qcj hk1];omega) rfl) (fun _ _=>?_)
    refine aU ?_
    exact Qt () trivial aSx (fun w h=>by have h2:=HS.blk_to (b:=b1) h aPk (bset (L:=Qc9 s k) (x:=QcE (s.getD k 0)) (by rw [Qcj hk1];exact hk) rfl);rw [QkY hk] at h2;exact h2.ent aEt)
   have hno : QcE (s.getD k 0) = s.getD k 0:=QwC (by have hq:=h10;omega)
   refine aU ?_
   exact Qt () trivial aSx (fun w h=>by rw [← Qoh hk hno];exact h.ent aEt)
  intro _ _
  refine aT3 ?_
  refine aU2 ?_
  exact sBk (k + 1)
 obtain rfl : k = s.length:=by omega
 rw [Qr9]
 refine Qi rfl ?_
 refine aU3 ?_
 refine o_q (Yp rfl rfl Tryz.underlying139 Tryz.underlying9 Tryz.underlying5 aPk (by simp [List.length_map]) (Zd _)) rfl ?_
 refine aU2 ?_
 exact rT rfl rfl (fun w' h'=>⟨by simp only [YJ];rfl,h'.below⟩)
theorem c186 (w : World) (a b : List UInt8) (ha : a.length ≤ 1000000) (hb : b.length ≤ 1000000) : Calls Tryz.prog 186 #[.string (bs a),.string (bs b)] w fun en w'=>en = .returned (.int .i64 (Qb7 (a.map QcE) (b.map QcE))) ∧ Below w.heap.size w w':=by
 refine eN2 Tryz.func186 Tryz.ntmps186 ?_
 refine aU7 ?_
 refine oCq rfl (fun w1 h1=>c187 w1 a ha) ?_
 refine aU ?_
 refine oCq rfl (fun w1 h1=>c187 w1 b hb) ?_
 refine oCq rfl (fun w1 h1=>c184 w1 _ _) ?_
 refine aU2 ?_
 exact rT rfl rfl (fun w' h'=>⟨by rfl,h'.below⟩)
theorem QqV : QK Tryz.prog 126 = true:=by kernel_rfl
instance : TFn Tryz.prog 126:=⟨QqV⟩
theorem QkT : tfd Tryz.prog 164 1 = some (1,162):=by kernel_rfl
instance : TFd Tryz.prog 164 1 1 162:=⟨QkT⟩
theorem Qe1 : tsz Tryz.prog 162 = some (1,false):=by kernel_rfl
instance : TSz Tryz.prog 162 1 false:=⟨Qe1⟩
theorem QsF (a b : List UInt8) : Qcg a b 1 0 = Xm 2 a b:=by
  simp only [Qcg,Xm,Nat.mul_zero];split
  · rfl
  · rename_i h;simp only [ne_eq,Decidable.not_not] at h;rw [h];rfl
theorem Qss (a b : List UInt8) : Qcg a b 2 0 = Xm 3 a b:=by
  have e : Xm 3 a b = if Ya (at4 a 0) (at4 b 0) ≠ 0 then Ya (at4 a 0) (at4 b 0) else Ya (at4 a 4) (at4 b 4):=rfl
  rw [e];show (if Ya (at4 a 0) (at4 b 0) ≠ 0 then Ya (at4 a 0) (at4 b 0) else if Ya (at4 a 4) (at4 b 4) ≠ 0 then Ya (at4 a 4) (at4 b 4) else 0) = _
  by_cases h : Ya (at4 a 0) (at4 b 0) ≠ 0
  · rw [if_pos h,if_pos h]
  · rw [if_neg h,if_neg h];split
    · rfl
    · rename_i h2;simp only [ne_eq,Decidable.not_not] at h2;exact h2.symm
theorem QfP {s : List UInt8} (h : QU 2 s = true) : s.length = 4:=by
  unfold QU at h;simp at h;exact h.1
theorem Qf0 {s : List UInt8} (h : QU 3 s = true) : s.length = 8:=by
  unfold QU at h;simp at h;exact h.1
theorem Qgp (co : Int) : QK Tryz.prog (Qe7 co) = true:=by
  unfold Qe7;split
  · kernel_rfl
  · split <;> kernel_rfl
theorem Qbk (w : World) (j : Nat) (a b : List UInt8) (hj : j ≤ 3) (hka : QU (j : Int) a = true) (hkb : QU (j : Int) b = true) (ha : a.length ≤ 1000000) (hb : b.length ≤ 1000000) : Calls Tryz.prog (Qe7 (j : Int)) #[.string (bs a),.string (bs b)] w fun en w'=>en = .returned (.int .i64 (Xm (j : Int) a b)) ∧ Below w.heap.size w w':=by
  match j,hj with
  | 0,_=>exact c184 w a b
  | 1,_=>exact c186 w a b ha hb
  | 2,_=>
    have h:=c190 w a b 1 (QfP hka) (QfP hkb) (by decide);rw [QsF] at h;exact h
  | 3,_=>
    have h:=c190 w a b 2 (Qf0 hka) (Qf0 hkb) (by decide);rw [Qss] at h;exact h
theorem keyE_ok {co : Int} {k : List UInt8} (h : Yf co k = 0) : QU co k = true:=by
  unfold Yf at h;split at h
  · assumption
  · cases h
def QkR (co : Int) (a b : List UInt8) : Int:=if Qs co = 0 then if Yf co a = 0 then Yf co b else Yf co a else Qs co
theorem Qjk {co : Int} (h : Qs co = 0) : ∃ j : Nat,co = (j : Int) ∧ j ≤ 3:=by
  unfold Qs at h;split at h
  · exact ⟨co.toNat,by omega,by omega⟩
  · cases h
theorem c58 (w : World) (co : Int) (a b : List UInt8) (ha : a.length ≤ 1000000) (hb : b.length ≤ 1000000) : Calls Tryz.prog 58 #[.int .i64 co,.string (bs a),.string (bs b)] w fun en w'=>en = .returned (.tuple #[.int .i64 (if QkR co a b = 0 then Xm co a b else 0),.int .i64 (QkR co a b)]) ∧ Below w.heap.size w w':=by
 refine eN3 Tryz.func58 Tryz.ntmps58 ?_
 refine aU9 ?_
 refine oCq rfl (fun w1 h1=>c124 w1 _) ?_
 refine aU7 ?_
 refine sCd rfl (fun h1=>?_) fun h1=>?_
 ·have h0 : ¬ Qs co = 0:=h1
  have hz : QkR co a b = Qs co:=by unfold QkR;rw [if_neg h0]
  refine aU6 ?_
  exact Qj (rs:=[.tmp 6,.tmp 7]) rfl (.tmp rfl (.tmp rfl (.nil))) (fun w' h'=>⟨by rw [hz,if_neg h0];rfl,h'.below⟩)
 have h0 : Qs co = 0:=h1
 obtain ⟨j,rfl,hj⟩:=Qjk h0
 have hz : QkR (j : Int) a b = XN [.int .i64 (Yf (j : Int) a),.int .i64 (Yf (j : Int) b)]:=by rw [Qbx];unfold QkR;rw [if_pos h0]
 refine aU6 ?_
 refine oCq rfl (fun w1 h1=>QwN w1 j a hj ha) ?_
 refine aU2 ?_
 refine oCq rfl (fun w1 h1=>QwN w1 j b hj hb) ?_
 refine o_h (Qm (cs:=[_,_]) rfl rfl YK QaE rfl rfl rfl) rfl (fun b2 _=>?_)
 refine oCq rfl (fun w1 h1=>Qom h1 aPk (by rfl) (by rfl) (by decide)) ?_
 refine aU7 ?_
 refine sCd rfl (fun h3=>?_) fun h3=>?_
 ·have h1 : ¬ XN [.int .i64 (Yf (j : Int) a),.int .i64 (Yf (j : Int) b)] = 0:=h3
  refine aU6 ?_
  exact Qj (rs:=[.tmp 6,.tmp 7]) rfl (.tmp rfl (.tmp rfl (.nil))) (fun w' h'=>⟨by rw [hz,if_neg h1];rfl,h'.below⟩)
 have h1 : XN [.int .i64 (Yf (j : Int) a),.int .i64 (Yf (j : Int) b)] = 0:=h3
 obtain ⟨hka,hkb⟩ : Yf (j : Int) a = 0 ∧ Yf (j : Int) b = 0:=by rw [Qbx] at h1;split at h1;exact ⟨by assumption,h1⟩;rename_i h9;exact absurd h1 h9
 refine aU3 ?_
 refine oCq rfl (fun w1 h1=>QwG w1) ?_
 refine aU ?_
 refine o_p (QeH rfl rfl rfl QiT Qi0 j rfl (by omega)) rfl ?_
 refine Qk (Qhi j hj) ?_
 refine o_p (QgT rfl rfl QkT Qe1 rfl) rfl ?_
 refine aU2 ?_
 refine o_q (YO rfl rfl (Qgp _) rfl (fun w1 h1=>Qbk w1 j a b hj (keyE_ok hka) (keyE_ok hkb) ha hb)) rfl ?_
 refine aU3 ?_
 exact Qj (rs:=[.tmp 6,.tmp 7]) rfl (.tmp rfl (.tmp rfl (.nil))) (fun w' h'=>⟨by rw [hz,if_pos h1,h1];rfl,h'.below⟩)
instance : TFd Tryz.prog 27 0 0 9:=⟨by kernel_rfl⟩
theorem Zq : tsz Tryz.prog 9 = some (1,false):=by kernel_rfl
instance : TSz Tryz.prog 9 1 false:=⟨Zq⟩
instance : TFd Tryz.prog 27 1 1 9:=⟨by kernel_rfl⟩
theorem QkG (co : Int) (x : TEnt) : Ending.returned (Value.int .i64 (if Yf co x.key = 0 then cond (decide ((x.val.length : Int) ≤ 64)) 0 8 else Yf co x.key)) = Ending.returned (Value.int .i64 (Y0 co x)):=by
  unfold Y0
  by_cases h : Yf co x.key = 0
  · rw [if_pos h,if_pos h]
    by_cases h2 : x.val.length ≤ 64
    · rw [if_pos h2,decide_eq_true (by omega)];rfl
    · rw [if_neg h2,decide_eq_false (by omega)];rfl
  · rw [if_neg h,if_neg h];unfold Yf at h ⊢;split at h
    · exact absurd rfl h
    · rename_i h3;rw [if_neg h3]
theorem c164 (w : World) (j : Nat) (x : TEnt) (hj : j ≤ 3) (hm : x.key.length ≤ 1000000) : Calls Tryz.prog 164 #[.int .i64 (j : Int),.agg #[.string (bs x.key),.string (bs x.val)]] w fun en w'=>en = .returned (.int .i64 (Y0 (j : Int) x)) ∧ Below w.heap.size w w':=by
 refine eN2 Tryz.func164 Tryz.ntmps164 ?_
 refine aU2 ?_
 refine oBx fun b1 _=>?_
 refine aU3 ?_
 refine Qz [] QN ?_
 refine dP 0 ?_
 refine dFa 1 ?_
 refine dLd 2 [] ?_
 refine dQ 3 [] rfl (Qq rfl QqV rfl (fun w1 h1=>QwN w1 j x.key hj hm)) ?_
 refine dFa 4 ?_
 refine dLd 5 [] ?_
 refine dV 6 rfl (Qg rfl rfl Tryz.underlying9) ?_
 refine dP 7 ?_
 refine dQ 8 [] rfl (Qq rfl QbB rfl (fun w1 h1=>Qer w1 _ _)) ?_
 refine dH 9 rfl (Qm (cs:=[_,_]) rfl rfl YK QaE rfl rfl rfl) (fun b2 _=>?_)
 refine dBa ?_
 refine dQ 10 [] rfl (Qq rfl Qho rfl (fun w1 h1=>Qom h1 aPk (by rfl) (by rfl) (by decide))) ?_
 refine dP 11 ?_
 refine dNi ?_
 exact rT rfl rfl (fun w' h'=>⟨by simp only [QW];rw [Qbx];exact QkG _ _,h'.below⟩)
theorem Qug : QK Tryz.prog 72 = true:=by kernel_rfl
instance : TFn Tryz.prog 72:=⟨Qug⟩
instance : TFn Tryz.prog 35:=⟨by kernel_rfl⟩
theorem kok0 (s : List UInt8) : QU ((0 : Nat) : Int) s = (decide ((1 : Int) ≤ (s.length : Int)) && decide ((s.length : Int) ≤ 40)):=by
  rw [Bool.eq_iff_iff];simp [QU];omega
theorem kok1 (s : List UInt8) : QU ((1 : Nat) : Int) s = (decide ((1 : Int) ≤ (s.length : Int)) && decide ((s.length : Int) ≤ 32)):=by
  rw [Bool.eq_iff_iff];simp [QU];omega
theorem kok2 (s : List UInt8) : QU ((2 : Nat) : Int) s = (decide ((s.length : Int) = 4) && (decide (0 ≤ at4 s 0) && decide (at4 s 0 ≤ 2147483647))):=by
  have:=QiE s 0;rw [Bool.eq_iff_iff];simp [QU,Qfv];omega
theorem kok3 (s : List UInt8) : QU ((3 : Nat) : Int) s = (decide ((s.length : Int) = 8) && (decide (0 ≤ at4 s 0) && decide (at4 s 0 ≤ 2147483647)) && (decide (0 ≤ at4 s 4) && decide (at4 s 4 ≤ 2147483647))):=by
  have:=QiE s 0;have:=QiE s 4;rw [Bool.eq_iff_iff];simp [QU,Qfv];omega
theorem c17 (w : World) (j : Nat) (s : List UInt8) (hj : j ≤ 3) (hm : s.length ≤ 1000000) : Calls Tryz.prog 17 #[.int .i64 (j : Int),.string (bs s)] w fun en w'=>en = .returned (.int .i64 (Yf (j : Int) s)) ∧ Below w.heap.size w w':=by
 refine eN2 Tryz.func17 Tryz.ntmps17 ?_
 refine aU7 ?_
 refine o_p (Qg rfl rfl Tryz.underlying9) rfl ?_
 refine oCq rfl (fun w1 h1=>c40 w1 _ _ _) ?_
 refine Qcb ?_
 refine Yo (α:=Unit) [5,12,13,14,15,16,17,18,19,20,21,22,23,24,25,26,27,28,29,30,31,32,33,34,35,36,37,38,39] (fun _=>[(5,.bool (QU (j : Int) s))]) (fun _=>HS w [] []) (fun _=>True) ?_ ?_
 ·skip
  refine sCd rfl (fun h1=>?_) fun h1=>?_
  ·obtain rfl : j = 1:=by have hq:=h1;omega
   refine aU2 ?_
   refine o_p (Qg rfl rfl Tryz.underlying9) rfl ?_
   refine oCq rfl (fun w1 h1=>c40 w1 _ _ _) ?_
   refine aU2 ?_
   exact Qt () trivial (by rw [kok1];exact aSx) (fun w h=>h.ent aEt)
  have hn1 : ¬ (j : Int) = 1:=h1
  refine aU5 ?_
  refine sCd rfl (fun h2=>?_) fun h2=>?_
  ·obtain rfl : j = 2:=by have hq:=h2;omega
   refine aU2 ?_
   refine o_p (Qg rfl rfl Tryz.underlying9) rfl ?_
   refine aU2 ?_
   refine Yq 4 20 24 rfl
    (fun hg3 _=>by
     refine aU3 ?_
     refine oCq rfl (fun w1 h1=>by have h9:=c72 w1 s 0 4 (by omega) (by omega) (by have hq:=hg3;first | omega | (simp at hq;omega));rw [Zg] at h9;exact h9) ?_
     refine aU ?_
     refine oCq rfl (fun w1 h1=>c35 w1 _) ?_
     exact oJt 4 24)
    (fun hg5 _=>by
     refine aU3 ?_
     exact oJf 4 24) ?_
   refine aU2 ?_
   exact Qt () trivial (by rw [kok2];exact aSx) (fun w h=>h.ent aEt)
  have hn2 : ¬ (j : Int) = 2:=h2
  refine aU5 ?_
  refine sCd rfl (fun h7=>?_) fun h7=>?_
  ·obtain rfl : j = 3:=by have hq:=h7;omega
   refine aU2 ?_
   refine o_p (Qg rfl rfl Tryz.underlying9) rfl ?_
   refine aU2 ?_
   refine Yq 4 30 34 rfl
    (fun hg8 _=>by
     refine aU3 ?_
     refine oCq rfl (fun w1 h1=>by have h9:=c72 w1 s 0 4 (by omega) (by omega) (by have hq:=hg8;first | omega | (simp at hq;omega));rw [Zg] at h9;exact h9) ?_
     refine aU ?_
     refine oCq rfl (fun w1 h1=>c35 w1 _) ?_
     exact oJt 4 34)
    (fun hg10 _=>by
     refine aU3 ?_
     exact oJf 4 34) ?_
   refine aU ?_
   refine Yq 4 35 39 rfl
    (fun hg12 _=>by
     refine aU3 ?_
     refine oCq rfl (fun w1 h1=>by have h9:=c72 w1 s 4 4 (by omega) (by omega) (by have hq:=hg12;first | omega | (simp at hq;omega));rw [Zg] at h9;exact h9) ?_
     refine aU ?_
     refine oCq rfl (fun w1 h1=>c35 w1 _) ?_
     exact oJt 4 39)
    (fun hg14 _=>by
     refine aU3 ?_
     exact oJf 4 39) ?_
   refine aU2 ?_
   exact Qt () trivial (by rw [kok3];exact aSx) (fun w h=>h.ent aEt)
  have hn3 : ¬ (j : Int) = 3:=h7
  obtain rfl : j = 0:=by omega
  refine aU ?_
  exact Qt () trivial (by rw [kok0];exact aSx) (fun w h=>h.ent aEt)
 intro _ _
 refine aU7 ?_
 refine sCd rfl (fun h16=>?_) fun h16=>?_
 ·have hz : Yf (j : Int) s = 3:=by have hq:=h16;unfold Yf;rw [if_neg (by simpa using hq)]
  refine aU4 ?_
  exact rT rfl rfl (fun w' h'=>⟨by rw [hz];rfl,h'.below⟩)
 have hz : Yf (j : Int) s = 0:=by have hq:=h16;unfold Yf;rw [if_pos (by simpa using hq)]
 refine aU5 ?_
 exact rT rfl rfl (fun w' h'=>⟨by rw [hz];rfl,h'.below⟩)
instance : TFn Tryz.prog 17:=⟨by kernel_rfl⟩
theorem c198 (w : World) (j : Nat) (x : TEnt) (hj : j ≤ 3) (hm : x.key.length ≤ 1000000) : Calls Tryz.prog 198 #[.int .i64 (j : Int),.agg #[.string (bs x.key),.string (bs x.val)]] w fun en w'=>en = .returned (.int .i64 (Y0 (j : Int) x)) ∧ Below w.heap.size w w':=by
 refine eN2 Tryz.func198 Tryz.ntmps198 ?_
 refine aU2 ?_
 refine oBx fun b1 _=>?_
 refine aU8 ?_
 refine oCq rfl (fun w1 h1=>c17 w1 j x.key hj hm) ?_
 refine aU7 ?_
 refine sCd rfl (fun h2=>?_) fun h2=>?_
 ·have h0 : ¬ Yf (j : Int) x.key = 0:=h2
  have hz : Y0 (j : Int) x = Yf (j : Int) x.key:=by have h9:=QkG (j : Int) x;rw [if_neg h0] at h9;injection h9 with h9;injection h9 with _ h9;exact h9.symm
  refine aU5 ?_
  exact rT rfl rfl (fun w' h'=>⟨by rw [hz];rfl,h'.below⟩)
 have h0 : Yf (j : Int) x.key = 0:=h2
 refine aU6 ?_
 refine o_p (Qg rfl rfl Tryz.underlying9) rfl ?_
 refine aU2 ?_
 refine sCd rfl (fun h3=>?_) fun h3=>?_
 ·have hz : Y0 (j : Int) x = 8:=by have hq:=h3;unfold Y0;rw [if_pos h0,if_neg (by omega)]
  refine aU4 ?_
  exact rT rfl rfl (fun w' h'=>⟨by rw [hz];rfl,h'.below⟩)
 have hz : Y0 (j : Int) x = 0:=by have hq:=h3;unfold Y0;rw [if_pos h0,if_pos (by omega)]
 refine aU5 ?_
 exact rT rfl rfl (fun w' h'=>⟨by rw [hz];rfl,h'.below⟩)
instance : TFn Tryz.prog 133:=⟨by kernel_rfl⟩
instance : TFn Tryz.prog 134:=⟨by kernel_rfl⟩
def mpK (j : Int) (l : List UInt8) : List UInt8:=if j = 1 then l.map QcE else l
theorem Qax (j : Int) (l : List UInt8) : (mpK j l).length = l.length:=by unfold mpK;split <;> simp
theorem Qs6 {j : Nat} (h2 : ¬ (j : Int) = 2) (h3 : ¬ (j : Int) = 3) (a b : List UInt8) : Xm (j : Int) a b = Qb7 (mpK (j : Int) a) (mpK (j : Int) b):=by
  unfold Xm mpK;rw [if_neg h2,if_neg h3];split <;> rfl
theorem QoJ {x y : List UInt8} {k : Nat} (hx : k < x.length) (hy : k < y.length) : Qb7 (x.drop k) (y.drop k) = if Ya ((x.getD k 0).toNat : Int) ((y.getD k 0).toNat : Int) ≠ 0 then Ya ((x.getD k 0).toNat : Int) ((y.getD k 0).toNat : Int) else Qb7 (x.drop (k + 1)) (y.drop (k + 1)):=by
  rw [List.drop_eq_getElem_cons hx,List.drop_eq_getElem_cons hy,List.getD_eq_getElem?_getD,List.getD_eq_getElem?_getD,List.getElem?_eq_getElem hx,List.getElem?_eq_getElem hy];simp only [Qb7,Option.getD_some,Ya,UInt8.lt_iff_toNat_lt];split
  · rename_i h;rw [if_pos (by omega),if_pos (by omega)]
  · rename_i h;rw [if_neg (show ¬ ((x[k].toNat : Int) < y[k].toNat) by omega)];split
    · rename_i h2;rw [if_pos (by omega),if_pos (by omega)]
    · rename_i h2;rw [if_neg (by omega)]
theorem QqE {x y : List UInt8} {k : Nat} (hx : k ≤ x.length) (hy : k ≤ y.length) (h : ¬ (k < x.length ∧ k < y.length)) : Qb7 (x.drop k) (y.drop k) = Ya (x.length : Int) (y.length : Int):=by
  unfold Ya;rcases Nat.lt_or_ge k x.length with h1 | h1
  · have e : y.drop k = []:=List.drop_of_length_le (by omega);rw [e,List.drop_eq_getElem_cons h1,if_neg (by omega),if_pos (by omega)];rfl
  · have e : x.drop k = []:=List.drop_of_length_le h1;rw [e];rcases Nat.lt_or_ge k y.length with h2 | h2
    · rw [List.drop_eq_getElem_cons h2,if_pos (by omega)];rfl
    · have e2 : y.drop k = []:=List.drop_of_length_le h2;rw [e2,if_neg (by omega),if_neg (by omega)];rfl
theorem QnK {a : List UInt8} {k : Nat} (h : k < a.length) : (((mpK 1 a).getD k 0).toNat : Int) = Qhp ((a.getD k 0).toNat : Int):=by
  unfold mpK;rw [if_pos rfl,QgY,List.getD_eq_getElem?_getD,List.getElem?_map,List.getElem?_eq_getElem h,List.getD_eq_getElem?_getD,List.getElem?_eq_getElem h];rfl
theorem Qqe {j : Int} (hj : ¬ j = 1) (a : List UInt8) : mpK j a = a:=by unfold mpK;rw [if_neg hj]
theorem c65 (w : World) (j : Nat) (a b : List UInt8) (hj : j ≤ 3) (hka : QU (j : Int) a = true) (hkb : QU (j : Int) b = true) (ha : a.length ≤ 1000000) (hb : b.length ≤ 1000000) : Calls Tryz.prog 65 #[.int .i64 (j : Int),.string (bs a),.string (bs b)] w fun en w'=>en = .returned (.int .i64 (Xm (j : Int) a b)) ∧ Below w.heap.size w w':=by
 refine eN3 Tryz.func65 Tryz.ntmps65 ?_
 refine Qv0 ?_
 refine sCd rfl (fun h1=>?_) fun h1=>?_
 ·obtain rfl : j = 2:=by have hq:=h1;omega
  have hl1:=QfP hka
  have hl2:=QfP hkb
  have hz : Xm ((2 : Nat) : Int) a b = Ya (at4 a 0) (at4 b 0):=rfl
  refine aU3 ?_
  refine oCq rfl (fun w1 h1=>by have h9:=c72 w1 a 0 4 (by omega) (by omega) (by omega);rw [Zg] at h9;exact h9) ?_
  refine aU ?_
  refine oCq rfl (fun w1 h1=>by have h9:=c72 w1 b 0 4 (by omega) (by omega) (by omega);rw [Zg] at h9;exact h9) ?_
  refine oCq rfl (fun w1 h1=>QqM w1 _ _) ?_
  refine aU2 ?_
  exact rT rfl rfl (fun w' h'=>⟨by rw [hz];rfl,h'.below⟩)
 have hn2 : ¬ (j : Int) = 2:=h1
 refine aU5 ?_
 refine sCd rfl (fun h2=>?_) fun h2=>?_
 ·obtain rfl : j = 3:=by have hq:=h2;omega
  have hl1:=Qf0 hka
  have hl2:=Qf0 hkb
  have hz : Xm ((3 : Nat) : Int) a b = if Ya (at4 a 0) (at4 b 0) ≠ 0 then Ya (at4 a 0) (at4 b 0) else Ya (at4 a 4) (at4 b 4):=rfl
  refine aU4 ?_
  refine oCq rfl (fun w1 h1=>by have h9:=c72 w1 a 0 4 (by omega) (by omega) (by omega);rw [Zg] at h9;exact h9) ?_
  refine aU ?_
  refine oCq rfl (fun w1 h1=>by have h9:=c72 w1 b 0 4 (by omega) (by omega) (by omega);rw [Zg] at h9;exact h9) ?_
  refine oCq rfl (fun w1 h1=>QqM w1 _ _) ?_
  refine aU7 ?_
  refine sCd rfl (fun h3=>?_) fun h3=>?_
  ·have hq9 : Ya (at4 a 0) (at4 b 0) ≠ 0:=h3
   rw [if_pos hq9] at hz
   refine aU5 ?_
   exact rT rfl rfl (fun w' h'=>⟨by rw [hz];rfl,h'.below⟩)
  have hq9 : ¬ Ya (at4 a 0) (at4 b 0) ≠ 0:=by have hq8:=h3;simpa using hq8
  rw [if_neg hq9] at hz
  refine aU4 ?_
  refine oCq rfl (fun w1 h1=>by have h9:=c72 w1 a 4 4 (by omega) (by omega) (by omega);rw [Zg] at h9;exact h9) ?_
  refine aU ?_
  refine oCq rfl (fun w1 h1=>by have h9:=c72 w1 b 4 4 (by omega) (by omega) (by omega);rw [Zg] at h9;exact h9) ?_
  refine oCq rfl (fun w1 h1=>QqM w1 _ _) ?_
  refine aU2 ?_
  exact rT rfl rfl (fun w' h'=>⟨by rw [hz];rfl,h'.below⟩)
 have hn3 : ¬ (j : Int) = 3:=h2
 have hmp:=Qs6 hn2 hn3 a b
 refine aU8 ?_
 refine Qr (α:=Nat) [6,8,9,10,11,35,36,37,38,39,40,41,42,43,44,45,46,47,48,49,50,51,52,53,54,55,56,57,58,59,60,61,62,63,64,65,66] (fun k=>[(8,.int .i64 (k : Int))]) (fun _=>_) (fun k=>k ≤ a.length ∧ k ≤ b.length ∧ Qb7 (mpK (j : Int) a) (mpK (j : Int) b) = Qb7 ((mpK (j : Int) a).drop k) ((mpK (j : Int) b).drop k)) (fun k=>a.length - k) 0 ⟨Nat.zero_le _,Nat.zero_le _,rfl⟩ aSx (fun w h=>h) (fun k hx=>?_)
 obtain ⟨hk1,hk2,hk3⟩:=hx
 refine aU5 ?_
 refine o_p (Qg rfl rfl Tryz.underlying9) rfl ?_
 refine aU2 ?_
 refine Yq 5 39 44 rfl
  (fun hg4 _=>by
   refine aU5 ?_
   refine o_p (Qg rfl rfl Tryz.underlying9) rfl ?_
   refine aU2 ?_
   exact oJt 5 44)
  (fun hg6 _=>by
   refine aU4 ?_
   exact oJf 5 44) ?_
 refine aU ?_
 refine sCd rfl (fun h8=>?_) fun h8=>?_
 ·obtain ⟨hka1,hkb1⟩ : k < a.length ∧ k < b.length:=by have hq:=h8;omega
  have hb1:=(a.getD k 0).toNat_lt
  have hb2:=(b.getD k 0).toNat_lt
  have hst:=QoJ (x:=mpK (j : Int) a) (y:=mpK (j : Int) b) (k:=k) (by rw [Qax];exact hka1) (by rw [Qax];exact hkb1)
  refine aU4 ?_
  refine Qz [] QN ?_
  refine dP 0 ?_
  refine dP 1 ?_
  refine dV 2 rfl (Xi rfl rfl rfl Tryz.underlying9 (k) (by omega) (by omega)) ?_
  refine dV 3 rfl (Qo rfl rfl Zc YN) ?_
  try refine dWr ?_
  refine dP 4 ?_
  refine dP 5 ?_
  refine dV 6 rfl (Xi rfl rfl rfl Tryz.underlying9 (k) (by omega) (by omega)) ?_
  refine dV 7 rfl (Qo rfl rfl Zc YN) ?_
  try refine dWr ?_
  refine dP 8 ?_
  refine dP 9 ?_
  refine dNi ?_
  refine aU6 ?_
  refine Ql (L':=[(0,_),(1,_),(2,_),(8,_),(9,_),(10,_),(12,_),(13,_),(14,_),(20,_),(21,_),(56,_)]) aSx (fun _ h=>h) ?_
  refine Yo (α:=Unit) [9,10,57,58,59,60] (fun _=>[(9,.int .i64 (((mpK (j : Int) a).getD k 0).toNat : Int)),(10,.int .i64 (((mpK (j : Int) b).getD k 0).toNat : Int))]) (fun _=>HS w [] []) (fun _=>True) ?_ ?_
  ·skip
   refine sCd rfl (fun h9=>?_) fun h9=>?_
   ·obtain rfl : j = 1:=by have hq:=h9;omega
    refine aU2 ?_
    refine oCq rfl (fun w1 h1=>c134 w1 _ (by omega)) ?_
    refine aU ?_
    refine oCq rfl (fun w1 h1=>c134 w1 _ (by omega)) ?_
    refine aU3 ?_
    exact Qt () trivial (by rw [show (((1 : Nat) : Int)) = 1 from rfl,QnK hka1,QnK hkb1];exact aSx) (fun w h=>h.ent aEt)
   have hn1 : ¬ (j : Int) = 1:=h9
   refine aU ?_
   exact Qt () trivial (by rw [Qqe hn1,Qqe hn1];exact aSx) (fun w h=>h.ent aEt)
  intro _ _
  refine aU4 ?_
  refine oCq rfl (fun w1 h1=>QqM w1 _ _) ?_
  refine aU7 ?_
  refine sCd rfl (fun h10=>?_) fun h10=>?_
  ·have hq9 : Ya (((mpK (j : Int) a).getD k 0).toNat : Int) (((mpK (j : Int) b).getD k 0).toNat : Int) ≠ 0:=h10
   have hz:=hmp.trans (hk3.trans (hst.trans (if_pos hq9)))
   refine aU5 ?_
   exact rT rfl rfl (fun w' h'=>⟨by rw [hz];rfl,h'.below⟩)
  have hq9 : ¬ Ya (((mpK (j : Int) a).getD k 0).toNat : Int) (((mpK (j : Int) b).getD k 0).toNat : Int) ≠ 0:=by have hq8:=h10;simpa using hq8
  have hz:=hk3.trans (hst.trans (if_neg hq9))
  refine aT5 ?_
  refine aU2 ?_
  exact QP (k + 1) (by omega) ⟨by omega,by omega,hz⟩ aSx (fun w h=>h)
 have hz:=QqE (x:=mpK (j : Int) a) (y:=mpK (j : Int) b) (k:=k) (by rw [Qax];exact hk1) (by rw [Qax];exact hk2) (by rw [Qax,Qax];have hq:=h8;omega)
 rw [← hk3,← hmp,Qax,Qax] at hz
 refine Qi rfl ?_
 refine aU3 ?_
 refine o_p (Qg rfl rfl Tryz.underlying9) rfl ?_
 refine aU ?_
 refine o_p (Qg rfl rfl Tryz.underlying9) rfl ?_
 refine oCq rfl (fun w1 h1=>QqM w1 _ _) ?_
 refine aU2 ?_
 exact rT rfl rfl (fun w' h'=>⟨by rw [hz];rfl,h'.below⟩)
theorem XL : QS Tryz.prog 37 = some [.int .i64 0,.int .i64 0,.int .i64 0,.slice none 0 0]:=by kernel_rfl
theorem Qfe : YY Tryz.prog 69 = some [(0,1),(1,1),(2,1)]:=by kernel_rfl
theorem Xq : QS Tryz.prog 69 = some [.bool false,.slice none 0 0,.slice none 0 0]:=by kernel_rfl
theorem Q3 : tsl Tryz.prog 35 = some (69,3,56):=by kernel_rfl
theorem QaF : YY Tryz.prog 37 = some [(0,1),(1,1),(2,1),(3,1)]:=by kernel_rfl
theorem XR : tsz Tryz.prog 37 = some (4,true):=by kernel_rfl
instance : TSz Tryz.prog 37 4 true:=⟨XR⟩
instance : TFn Tryz.prog 155:=⟨by kernel_rfl⟩
theorem Q6 : tsl Tryz.prog 67 = some (27,2,32):=by kernel_rfl
theorem QbX : tsz Tryz.prog 27 = some (2,true):=by kernel_rfl
instance : TSz Tryz.prog 27 2 true:=⟨QbX⟩
theorem ZV : QS Tryz.prog 27 = some [.string (bs []),.string (bs [])]:=by kernel_rfl
instance : TFd Tryz.prog 166 0 0 37:=⟨by kernel_rfl⟩
instance : TFd Tryz.prog 37 1 1 3:=⟨by kernel_rfl⟩
theorem ZB : tsz Tryz.prog 3 = some (1,false):=by kernel_rfl
instance : TSz Tryz.prog 3 1 false:=⟨ZB⟩
instance : TFd Tryz.prog 37 2 2 3:=⟨by kernel_rfl⟩
theorem ZL : tsz Tryz.prog 158 = some (1,false):=by kernel_rfl
instance : TSz Tryz.prog 158 1 false:=⟨ZL⟩
instance : TFd Tryz.prog 37 0 0 3:=⟨by kernel_rfl⟩
theorem Qwv : QK Tryz.prog 164 = true:=by kernel_rfl
instance : TFd Tryz.prog 166 1 4 164:=⟨by kernel_rfl⟩
instance : TFd Tryz.prog 69 1 1 67:=⟨by kernel_rfl⟩
theorem Qdd : tsz Tryz.prog 67 = some (1,false):=by kernel_rfl
instance : TSz Tryz.prog 67 1 false:=⟨Qdd⟩
def tbV (co mo rm : Int) (a : Option Addr) (n cap : Nat) : List Value:=[.int .i64 co,.int .i64 mo,.int .i64 rm,.slice a n cap,QaY (QeV co),QaY (Qe7 co)]
def TbR (w : World) (M : List Nat) (bt : Nat) (co mo rm : Int) (a : Option Addr) (n cap : Nat) : Prop:=∀ k v,(tbV co mo rm a n cap)[k]? = some v → Rd w M bt k v
section
variable {w w' : World} {M M' : List Nat} {As As' : List HA} {bt : Nat} {co mo rm : Int} {a : Option Addr} {n cap : Nat}
theorem TbR.next (h : TbR w M bt co mo rm a n cap) (hs : HS w M As w') : TbR w' [] bt co mo rm a n cap:=fun k v hv=>(h k v hv).next hs
theorem TbR.keep (h : TbR w M bt co mo rm a n cap) (hs : HS w M As w') : TbR w' (fps As) bt co mo rm a n cap:=fun k v hv=>hs.keep (h k v hv)
theorem TbR.mono (h : TbR w M bt co mo rm a n cap) (hM : ∀ b ∈ M',b ∈ M) : TbR w M' bt co mo rm a n cap:=fun k v hv=>(h k v hv).mono hM
theorem HS.tbr {w0 : World} {tot t : Nat} (h : HS w0 M As w) (hp : QM As (.blk bt t tot (tbV co mo rm a n cap)) As') : TbR w [] bt co mo rm a n cap:=fun k v hv=>h.rd_blk (Mc:=[]) hp hv (by simp)
end
def Qhr (co mo rm : Int) : Tre:=if (if Qs co = 0 then XG mo rm else Qs co) = 0 then ⟨co,mo,rm,[⟨true,[],[]⟩]⟩ else ⟨0,0,0,[]⟩
theorem QV {w0 w : World} {M : List Nat} {As : List HA} (et nt : Nat) (h : HS w0 M As w) : HS w0 M (.nodes et nt none 0 [] :: As) w:=by
  have h1 : HS w0 M (.own (.slice none 0 0) nt 3 0 [] :: .star [] :: As) w:=(h.star_nil).own_nil nt 3;exact HS.row_shut (l:=([] : List LNd)) h1 rfl rfl
theorem QoE {w0 w : World} {M : List Nat} {As : List HA} {a : Option Addr} {cap nt : Nat} (et : Nat) (h : HS w0 M (.own (.slice a 1 cap) nt 3 1 [.bool true,.slice none 0 0,.slice none 0 0] :: As) w) : HS w0 M (.nodes et nt a cap [⟨true,none,0,[],none,0,[]⟩] :: As) w:=by
  have h1 : HS w0 M (.star ([(⟨true,none,0,[],none,0,[]⟩ : LNd)].map (Qar et)) :: As) w:=HS.star_close (Bs:=[_]) (HS.star_close (Bs:=[_,_]) ((h.tail.own_nil 3 1).own_nil et 2));have h2 : HS w0 M (.star [] :: .own (.slice a 1 cap) nt 3 1 [.bool true,.slice none 0 0,.slice none 0 0] :: As) w:=h.star_nil
  have h3 : HS w0 M (.own (.slice a 1 cap) nt 3 1 [.bool true,.slice none 0 0,.slice none 0 0] :: .star ([(⟨true,none,0,[],none,0,[]⟩ : LNd)].map (Qar et)) :: As) w:=
    HS.perm (HS.star_close (Bs:=[_]) (HS.star_close (Bs:=[_,_]) ((h.own_nil 3 1).own_nil et 2))) (List.Perm.swap ..)
  exact HS.row_shut (l:=[(⟨true,none,0,[],none,0,[]⟩ : LNd)]) h3 rfl rfl
theorem c91 (w : World) (co mo rm : Int) : Calls Tryz.prog 91 #[.int .i64 co,.int .i64 mo,.int .i64 rm] w fun en w'=>∃ g : (Option Addr × Nat) × List LNd,en = .returned (.tuple #[.agg #[.int .i64 (Qhr co mo rm).co,.int .i64 (Qhr co mo rm).mo,.int .i64 (Qhr co mo rm).rm,.slice g.1.1 g.2.length g.1.2],.int .i64 (if Qs co = 0 then XG mo rm else Qs co)]) ∧ pln g.2 = (Qhr co mo rm).ns ∧ HS w [] [.nodes 27 69 g.1.1 g.1.2 g.2] w':=by
 refine eN3 Tryz.func91 Tryz.ntmps91 ?_
 refine aU2 ?_
 refine oAl (fun b1 _=>?_) XL
 refine aU8 ?_
 refine oCq rfl (fun w1 h1=>c155 w1 _ _ _) ?_
 refine aU7 ?_
 refine sCd rfl (fun h2=>?_) fun h2=>?_
 ·have hz : Qhr co mo rm = ⟨0,0,0,[]⟩:=by unfold Qhr;rw [if_neg h2]
  refine aU2 ?_
  refine o_p (QD (cs:=[_,_,_,_]) rfl rfl QaF XL rfl) rfl ?_
  refine aU4 ?_
  exact Qj (rs:=[.cell 6 37,.tmp 7]) rfl (.cell rfl XR aPk rfl (.tmp rfl (.nil))) (fun w' h'=>⟨((none,0),[]),by rw [hz];rfl,by rw [hz];rfl,(QV 27 69 h'.nil).ent aEt⟩)
 have hz : Qhr co mo rm = ⟨co,mo,rm,[⟨true,[],[]⟩]⟩:=by unfold Qhr;rw [if_pos h2]
 refine aU6 ?_
 refine o_p (QD (cs:=[_,_,_]) rfl rfl Qfe Xq rfl) rfl ?_
 refine o_h (Qm (cs:=[_,_,_]) rfl rfl Q3 Xq rfl rfl rfl) rfl (fun b3 _=>?_)
 refine o_p (QD (cs:=[_,_,_,_]) rfl rfl QaF XL rfl) rfl ?_
 refine aU3 ?_
 exact Qj (rs:=[.cell 6 37,.tmp 7]) rfl (.cell rfl XR aPk rfl (.tmp rfl (.nil))) (fun w' h'=>⟨((some ⟨b3,0,none⟩,1),[⟨true,none,0,[],none,0,[]⟩]),by rw [hz,h2];rfl,by rw [hz];rfl,(QoE 27 (HS.own_shut (n:=1) (cap:=1) (sz:=3) (h'.ent (Bs:=[.blk b3 69 (1 * 3) [.bool true,.slice none 0 0,.slice none 0 0]]) aEt) rfl (by decide) (by decide))).ent aEt⟩)
theorem c230 (w : World) (a : Option Addr) (cap : Nat) (l : List TEnt) (q : Nat) (cv : Array Value) (es : List Int) (hs : Rw TEnt.vals 2 w [] a l) (hm : l.length ≤ 1000000) (hq : QK Tryz.prog q = true) (he : es.length = l.length) (hc : ∀ k w1,k < l.length → (∀ j,j < k → es.getD j 0 = 0) → HS w [] [] w1 → Calls Tryz.prog q (#[] ++ [.int .i64 (k : Int),.agg (TEnt.vals (nth l k)).toArray].toArray ++ cv) w1 fun en w2=>en = .returned (.int .i64 (es.getD k 0)) ∧ Below w1.heap.size w1 w2) : Calls Tryz.prog 230 #[.slice a l.length cap,.func (.func q) #[] cv] w fun en w'=>en = .returned (.tuple #[.int .i64 (XQ es 0).1,.int .i64 (XQ es 0).2]) ∧ Below w.heap.size w w':=by
 refine eN2 Tryz.func230 Tryz.ntmps230 ?_
 refine Qcb ?_
 refine Qr (α:=Nat) [4,5,6,7,8,11,12,13,14,15,16,17,18,19,20,21,22,23,24] (fun k=>[(11,.int .i64 (k : Int))]) (fun _=>HS w [] []) (fun k=>k ≤ l.length ∧ XQ es 0 = XQ (es.drop k) k ∧ ∀ j,j < k → es.getD j 0 = 0) (fun k=>l.length - k) 0 ⟨by omega,rfl,fun i h=>absurd h (Nat.not_lt_zero i)⟩ aSx (fun w h=>h.ent aEt) (fun k hk=>?_)
 obtain ⟨hk1,hk2,hk3⟩:=hk
 refine aU5 ?_
 refine sCd rfl (fun h1=>?_) fun h1=>?_
 ·refine aU6 ?_
  refine o_p (Qa rfl rfl rfl Q6 (k) (by omega) (by omega) (Rw.some hs (by omega))) rfl ?_
  refine o_q (Qw _ rfl rfl QbX rfl (Rw.rd hs (by omega))) rfl ?_
  refine oAl (fun b2 _=>?_) ZV
  refine aU8 ?_
  refine o_q (YO rfl rfl hq rfl (fun w1 h1=>hc k w1 (by omega) hk3 (h1.ent aEt))) rfl ?_
  refine aU7 ?_
  refine sCd rfl (fun h3=>?_) fun h3=>?_
  ·refine aU7 ?_
   exact Qj (rs:=[.tmp 4,.tmp 5]) rfl (.tmp rfl (.tmp rfl (.nil))) (fun w' h'=>⟨by simp only [QW];rw [hk2,Qaa (by omega),if_neg (by assumption)],h'.below⟩)
  refine aT4 ?_
  refine aU2 ?_
  exact sBk (k+1) (by omega) ⟨by omega,by rw [hk2,Qaa (by omega),if_pos (by assumption)],fun j hj=>(Nat.lt_or_ge j k).elim (hk3 j) (fun h=>by obtain rfl : j = k:=(by omega);assumption)⟩
 refine Qi rfl ?_
 refine aU5 ?_
 exact Qj (rs:=[.tmp 4,.tmp 5]) rfl (.tmp rfl (.tmp rfl (.nil))) (fun w' h'=>⟨by simp only [QW];rw [hk2,Qoq (by omega)],h'.below⟩)
theorem c173 (w : World) (bt : Nat) (j : Nat) (mo rm : Int) (a : Option Addr) (n cap : Nat) (hmo : 0 ≤ mo ∧ mo ≤ 1000) (ht : TbR w [] bt (j : Int) mo rm a n cap) : Calls Tryz.prog 173 #[.pointer (some ⟨bt,0,none⟩)] w fun en w'=>en = .returned (.int .i64 (mo / 2)) ∧ Below w.heap.size w w':=by
 refine eN1 Tryz.func173 Tryz.ntmps173 ?_
 refine Zv ?_
 refine o_q (Qb rfl rfl ZB (ht 1 _ rfl)) rfl ?_
 refine o_p (XD rfl rfl rfl (by omega) (by omega) (by omega)) rfl ?_
 refine aU2 ?_
 exact rT rfl rfl (fun w' h'=>⟨rfl,h'.below⟩)
theorem c229 (w : World) (bt : Nat) (j : Nat) (mo rm : Int) (a : Option Addr) (n cap : Nat) (i : Nat) (ht : TbR w [] bt (j : Int) mo rm a n cap) : Calls Tryz.prog 229 #[.pointer (some ⟨bt,0,none⟩),.int .i64 (i : Int)] w fun en w'=>en = .returned (.int .i64 (YU mo rm i)) ∧ Below w.heap.size w w':=by
 refine eN2 Tryz.func229 Tryz.ntmps229 ?_
 refine Zv ?_
 refine sCd rfl (fun h1=>?_) fun h1=>?_
 ·obtain rfl : i = 0:=by have hq:=h1;omega
  refine aU6 ?_
  refine o_q (Qb rfl rfl ZB (ht 2 _ rfl)) rfl ?_
  refine aU2 ?_
  exact rT rfl rfl (fun w' h'=>⟨by rfl,h'.below⟩)
 have hn0 : ¬ i = 0:=by have hq:=h1;omega
 refine aU7 ?_
 refine o_q (Qb rfl rfl ZB (ht 1 _ rfl)) rfl ?_
 refine aU2 ?_
 exact rT rfl rfl (fun w' h'=>⟨by simp only [QW,YU];rw [if_neg hn0],h'.below⟩)
theorem c231 (w : World) (c0 : Nat) (k : Int) (x : TEnt) (bt : Nat) (j : Nat) (mo rm : Int) (a : Option Addr) (n cap : Nat) (hj : j ≤ 3) (hx : x.key.length ≤ 1000000) (hc0 : Rd w [] c0 0 (.pointer (some ⟨bt,0,none⟩))) (ht : TbR w [] bt (j : Int) mo rm a n cap) : Calls Tryz.prog 231 #[.int .i64 k,.agg #[.string (bs x.key),.string (bs x.val)],.pointer (some ⟨c0,0,none⟩)] w fun en w'=>en = .returned (.int .i64 (Y0 (j : Int) x)) ∧ Below w.heap.size w w':=by
 refine eN3 Tryz.func231 Tryz.ntmps231 ?_
 refine aU2 ?_
 refine oBx fun b1 _=>?_
 refine aU3 ?_
 refine Qz [] QN ?_
 refine dQ 0 [] rfl (Qb rfl rfl ZL (hc0)) ?_
 refine dP 1 ?_
 refine dFa 2 ?_
 refine dFa 3 ?_
 refine dQ 4 [] rfl (Qb rfl rfl ZB (ht 0 _ rfl)) ?_
 refine dLn 5 [] ?_
 refine dQ 6 [] rfl (Qq rfl Qwv rfl (fun w1 h1=>c164 w1 j x hj hx)) ?_
 refine dP 7 ?_
 refine dNi ?_
 exact rT rfl rfl (fun w' h'=>⟨rfl,h'.below⟩)
theorem c234 (w : World) (c0 c7 : Nat) (k : Nat) (us : Bool) (ea : Option Addr) (ec : Nat) (es : List TEnt) (kids : Value) (bt : Nat) (j : Nat) (mo rm : Int) (a : Option Addr) (n cap : Nat) (hj : j ≤ 3) (hk : k < es.length) (hl : es.length ≤ 1000000) (hx : ∀ x ∈ es,QU (j : Int) x.key = true ∧ x.key.length ≤ 1000000) (hc0 : Rd w [] c0 0 (.pointer (some ⟨bt,0,none⟩))) (hc7 : Rd w [] c7 1 (.slice ea es.length ec)) (hes : Rw TEnt.vals 2 w [] ea es) (ht : TbR w [] bt (j : Int) mo rm a n cap) : Calls Tryz.prog 234 #[.int .i64 (k : Int),.agg #[.string (bs (nth es k).key),.string (bs (nth es k).val)],.pointer (some ⟨c0,0,none⟩),.pointer (some ⟨c7,0,none⟩)] w fun en w'=>en = .returned (.int .i64 (Qbj (j : Int) es k)) ∧ Below w.heap.size w w':=by
 refine eN4 Tryz.func234 Tryz.ntmps234 ?_
 refine aU2 ?_
 refine oBx fun b1 _=>?_
 refine aU3 ?_
 refine Qz [] QN ?_
 refine dP 0 ?_
 refine dP 1 ?_
 refine dP 2 ?_
 apply Xx 9
 ·exact rfl
 ·intro hg2
  have hs3:=hg2;try simp only [dT] at hs3
  refine dOf 3 9 hg2 ?_
  refine dOf 4 9 hg2 ?_
  refine dOf 5 9 hg2 ?_
  refine dOf 6 9 hg2 ?_
  refine dOf 7 9 hg2 ?_
  refine dOf 8 9 hg2 ?_
  refine dOf 9 9 hg2 ?_
  refine dOf 10 9 hg2 ?_
  refine dOf 11 9 hg2 ?_
  refine dOf 12 9 hg2 ?_
  refine dOf 13 9 hg2 ?_
  refine dOf 14 9 hg2 ?_
  refine dOf 15 9 hg2 ?_
  refine dOf 16 9 hg2 ?_
  refine dOf 17 9 hg2 ?_
  refine dOf 18 9 hg2 ?_
  refine dOf 19 9 hg2 ?_
  refine dV 20 rfl (Xu rfl rfl hg2 rfl) ?_
  refine dQ 21 [] rfl (Qq rfl QbB rfl (fun w1 h1=>Qer w1 _ _)) ?_
  refine dP 22 ?_
  refine dNi ?_
  exact rT rfl rfl (fun w' h'=>⟨by simp only [QW,Qbj];first | (split <;> simp_all <;> done) | (simp_all;done) | (grind),h'.below⟩)
 intro hg4
 have hs5:=hg4;try simp only [dN] at hs5
 refine dQo 3 9 [] hg4 rfl rfl rfl (Qb rfl rfl ZL (hc0)) ?_
 refine dPo 4 9 hg4 ?_
 refine dFo 5 9 hg4 ?_
 refine dFo 6 9 hg4 ?_
 refine dQo 7 9 [] hg4 rfl rfl rfl (Qb rfl rfl Qe1 (ht 5 _ rfl)) ?_
 refine dFo 8 9 hg4 ?_
 refine dQo 9 9 [] hg4 rfl rfl rfl (Qb rfl rfl Qdd (hc7)) ?_
 refine dPo 10 9 hg4 ?_
 refine dPo 11 9 hg4 ?_
 try refine dWr ?_
 refine dVo 12 9 hg4 rfl rfl rfl (Qg8 rfl rfl rfl ) ?_
 refine dVo 13 9 hg4 rfl rfl rfl (Qa rfl rfl rfl Q6 (k - 1) (by omega) (by omega) (Rw.some hes (by omega))) ?_
 refine dFo 14 9 hg4 ?_
 refine dQo 15 9 [] hg4 rfl rfl rfl (Qb rfl rfl Zq ((hes.rdj (i:=k - 1) 0 (by omega) rfl))) ?_
 refine dFo 16 9 hg4 ?_
 refine dQo 17 9 [] hg4 rfl rfl rfl (YB rfl rfl Zq aPk rfl) ?_
 refine dQo 18 9 [] hg4 rfl rfl rfl (YO rfl rfl (Qgp _) rfl (fun w1 h1=>Qbk w1 j (nth es (k - 1)).key (nth es k).key hj (hx _ (Qv (by omega))).1 (hx _ (Qv hk)).1 (hx _ (Qv (by omega))).2 (hx _ (Qv hk)).2)) ?_
 refine dPo 19 9 hg4 ?_
 refine dV 20 rfl (Xn rfl rfl hg4 rfl) ?_
 refine dQ 21 [] rfl (Qq rfl QbB rfl (fun w1 h1=>Qer w1 _ _)) ?_
 refine dP 22 ?_
 refine dNi ?_
 exact rT rfl rfl (fun w' h'=>⟨by simp only [QW,Qbj];first | (split <;> simp_all <;> done) | (simp_all;done) | (grind),h'.below⟩)
instance : TFd Tryz.prog 37 3 3 35:=⟨by kernel_rfl⟩
theorem Qb4 : tsz Tryz.prog 35 = some (1,false):=by kernel_rfl
instance : TSz Tryz.prog 35 1 false:=⟨Qb4⟩
theorem Xa : tsl Tryz.prog 28 = some (3,1,8):=by kernel_rfl
theorem Qew : QS Tryz.prog 3 = some [.int .i64 0]:=by kernel_rfl
instance : TFd Tryz.prog 69 2 2 28:=⟨by kernel_rfl⟩
theorem Qci : tsz Tryz.prog 28 = some (1,false):=by kernel_rfl
instance : TSz Tryz.prog 28 1 false:=⟨Qci⟩
theorem Qv7 : QK Tryz.prog 233 = true:=by kernel_rfl
instance : TFd Tryz.prog 69 0 0 4:=⟨by kernel_rfl⟩
theorem QeZ : tsz Tryz.prog 4 = some (1,false):=by kernel_rfl
instance : TSz Tryz.prog 4 1 false:=⟨QeZ⟩
theorem QqF : tsz Tryz.prog 242 = some (1,false):=by kernel_rfl
theorem zv_4 : tzv Tryz.prog 4 = some (.bool false):=by kernel_rfl
abbrev KI : Int → Value:=fun n=>Value.int .i64 n
theorem Qrk {ks : List Int} {c x : Int} : x ∈ Qb0 ks c ↔ x = c ∨ x ∈ ks:=by
  unfold Qb0;split
  · rename_i h;constructor
    · exact fun h1=>.inr h1
    · rintro (rfl | h1)
      · exact h
      · exact h1
  · rw [List.mem_append,List.mem_singleton];exact Or.comm
theorem c233 (w : World) (i c : Int) (c0 c5 r : Nat) (ks seen : List Int) (bt : Nat) (j : Nat) (mo rm : Int) (a : Option Addr) (cap : Nat) (L : List LNd) (hw : HS w (fps [.mp r KI ks]) [.mp r KI ks] w) (hst : ∀ x,x ∈ ks ↔ x ∈ seen) (hc0 : Rd w (fps [.mp r KI ks]) c0 0 (.pointer (some ⟨bt,0,none⟩))) (hc5 : Rd w (fps [.mp r KI ks]) c5 0 (.map (some r))) (ht : TbR w (fps [.mp r KI ks]) bt (j : Int) mo rm a L.length cap) (hs : Nt w (fps [.mp r KI ks]) a L) (hl : L.length ≤ 1000) : Calls Tryz.prog 233 #[.int .i64 i,.int .i64 c,.pointer (some ⟨c0,0,none⟩),.pointer (some ⟨c5,0,none⟩)] w fun en w'=>∃ g : List Int,en = .returned (.int .i64 (Qcs (pln L) c seen)) ∧ (∀ x,x ∈ g ↔ x ∈ (Qd5 (pln L) c seen)) ∧ HS w (fps [.mp r KI ks]) [.mp r KI g] w':=by
 refine eW4 Tryz.func233 Tryz.ntmps233 hw ?_
 refine aU8 ?_
 refine o_q (Qb rfl rfl ZL (hc0)) rfl ?_
 refine aU3 ?_
 refine o_q (Qb rfl rfl Qb4 (ht 3 _ rfl)) rfl ?_
 refine aT2 ?_
 refine oCq rfl (fun w1 h1=>QoL w1 _ _ _) ?_
 refine aU2 ?_
 refine oOr 11 18 29 rfl
  (fun hg1 _=>by
   refine aU ?_
   refine o_q (Qb rfl rfl ZL (hc0)) rfl ?_
   refine aU7 ?_
   refine o_q (Qb rfl rfl Qb4 (ht 3 _ rfl)) rfl ?_
   refine aU3 ?_
   refine o_p (Qa rfl rfl rfl Q3 c.toNat (by omega) (by omega) (Rw.some hs.1 (by omega))) rfl ?_
   refine aU3 ?_
   refine o_q (Qb rfl rfl QeZ ((hs.1.rdj 0 (i:=c.toNat) (by omega) rfl))) rfl ?_
   refine aU2 ?_
   exact oJf 11 29)
  (fun hg3 _=>by
   refine Zv ?_
   exact oJt 11 29) ?_
 refine aU ?_
 refine sCd rfl (fun h5=>?_) fun h5=>?_
 ·have hz : ¬ Qdg (pln L) c:=by unfold Qdg;rw [Qe];intro h9;rw [Q0 (by omega)] at h9;have hq:=h5;simp [LNd.pl] at h9;rcases hq with hq | hq <;> simp_all <;> omega
  refine aU4 ?_
  exact rT rfl rfl (fun w' h'=>⟨ks,by unfold Qcs;rw [if_neg hz];rfl,by unfold Qd5;rw [if_neg hz];exact hst,h'.ent aEt⟩)
 have hz : Qdg (pln L) c:=by have hq:=h5;have hq1 : 1 ≤ c ∧ c ≤ (L.length : Int) - 1:=(by first | omega | (simp at hq;omega));unfold Qdg;rw [Qe,Q0 (by omega)];exact ⟨hq1,by simp only [LNd.pl];first | exact hq.2 | exact hq.2.2 | (simp at hq;first | exact hq.2 | exact hq.2.2)⟩
 refine aU3 ?_
 refine o_q (Qb rfl rfl QqF (hc5)) rfl ?_
 refine aU ?_
 refine o_q (Qkf rfl rfl rfl Tryz.underlying242 zv_4 (QfD YN) aPk) rfl ?_
 refine aU ?_
 refine oCq rfl (fun w1 h1=>Qer w1 _ _) ?_
 refine aU4 ?_
 refine o_q (Qb rfl rfl QqF (hc5)) rfl ?_
 refine aU ?_
 refine Qld (Qfi (.inl rfl) rfl rfl rfl Tryz.underlying242 (QfD YN) aPt) (fun _ _=>?_)
 refine aU6 ?_
 exact rT rfl rfl (fun w' h'=>⟨Qb0 ks c,by unfold Qcs;rw [if_pos hz];simp only [QW];by_cases h9 : c ∈ seen <;> simp [h9,(hst c)],by unfold Qd5;rw [if_pos hz];intro x;rw [Qrk,List.mem_cons,hst],h'.ent aEt⟩)
theorem c232 (w : World) (ca : Option Addr) (cc : Nat) (cs : List Int) (c0 c5 r : Nat) (ks seen : List Int) (bt : Nat) (j : Nat) (mo rm : Int) (a : Option Addr) (cap : Nat) (L : List LNd) (hw : HS w (fps [.mp r KI ks]) [.mp r KI ks] w) (hst : ∀ x,x ∈ ks ↔ x ∈ seen) (hc0 : Rd w (fps [.mp r KI ks]) c0 0 (.pointer (some ⟨bt,0,none⟩))) (hc5 : Rd w (fps [.mp r KI ks]) c5 0 (.map (some r))) (ht : TbR w (fps [.mp r KI ks]) bt (j : Int) mo rm a L.length cap) (hs : Nt w (fps [.mp r KI ks]) a L) (hl : L.length ≤ 1000) (hcs : Rw inV 1 w (fps [.mp r KI ks]) ca cs) (hcl : cs.length ≤ 1000) : Calls Tryz.prog 232 #[.slice ca cs.length cc,.func (.func 233) #[] #[.pointer (some ⟨c0,0,none⟩),.pointer (some ⟨c5,0,none⟩)]] w fun en w'=>∃ g : Int × List Int,en = .returned (.tuple #[.int .i64 g.1,.int .i64 (X7 (pln L) cs seen).1]) ∧ (∀ x,x ∈ g.2 ↔ x ∈ (X7 (pln L) cs seen).2) ∧ HS w (fps [.mp r KI ks]) [.mp r KI g.2] w':=by
 refine eW2 Tryz.func232 Tryz.ntmps232 hw ?_
 refine Qcb ?_
 refine Qr (α:=Nat × List Int × List Int) [4,5,6,7,8,11,12,13,14,15,16,17,18,19,20,21,22,23,24] (fun x=>[(11,.int .i64 (x.1 : Int))]) (fun x=>HS w (fps [.mp r KI ks]) [.mp r KI x.2.1]) (fun x=>x.1 ≤ cs.length ∧ (∀ y,y ∈ x.2.1 ↔ y ∈ x.2.2) ∧ (X7 (pln L) cs seen) = X7 (pln L) (cs.drop x.1) x.2.2) (fun x=>cs.length - x.1) (0,ks,seen) ⟨Nat.zero_le _,hst,rfl⟩ aSx (fun w h=>h.ent aEt) (fun ⟨k,K,S9⟩ hx=>?_)
 dsimp only
 obtain ⟨hk1,hk2,hk3⟩:=hx
 simp only [] at hk1 hk2 hk3
 refine aU5 ?_
 refine sCd rfl (fun h1=>?_) fun h1=>?_
 ·have hkl : k < cs.length:=by omega
  refine aU6 ?_
  refine o_p (Qa rfl rfl rfl Xa (k) (by omega) (by omega) (Rw.some hcs (by omega))) rfl ?_
  refine o_q (Qb rfl rfl ZB ((hcs.rdj 0 (i:=k) (by omega) rfl))) rfl ?_
  refine aU8 ?_
  refine o_h (Qkc (Cs:=[.mp r KI K]) rfl rfl Qv7 rfl aPs (fun w1 h1 hf=>c233 w1 (k : Int) (cs.getD k 0) c0 c5 r K S9 bt j mo rm a cap L hf hk2 (h1.keep hc0) (h1.keep hc5) (ht.keep h1) (hs.keep h1) hl)) rfl (fun b2 hkG=>?_)
  have hkg:=hkG
  refine aU7 ?_
  refine sCd rfl (fun h3=>?_) fun h3=>?_
  ·refine aU7 ?_
   exact Qj (rs:=[.tmp 4,.tmp 5]) rfl (.tmp rfl (.tmp rfl (.nil))) (fun w' h'=>⟨((k : Int),b2),by rw [hk3,QcL hkl,Qbv,if_neg h3];rfl,by rw [hk3,QcL hkl,Qbv,if_neg h3];exact hkG,h'.ent aEt⟩)
  refine aT4 ?_
  refine aU2 ?_
  exact sBk (k + 1,b2,Qd5 (pln L) (cs.getD k 0) S9) (by (try simp only []);omega) ⟨by (try simp only []);omega,hkg,by simp only [];rw [hk3,QcL hkl,Qbv,if_pos h3]⟩
 refine Qi rfl ?_
 refine aU5 ?_
 exact Qj (rs:=[.tmp 4,.tmp 5]) rfl (.tmp rfl (.tmp rfl (.nil))) (fun w' h'=>⟨(0,K),by rw [hk3,List.drop_of_length_le (by omega)];rfl,by rw [hk3,List.drop_of_length_le (by omega)];exact hk2,h'.ent aEt⟩)
theorem XC : tsz Tryz.prog 69 = some (3,true):=by kernel_rfl
instance : TSz Tryz.prog 69 3 true:=⟨XC⟩
theorem QuV : QK Tryz.prog 229 = true:=by kernel_rfl
instance : TFn Tryz.prog 230:=⟨by kernel_rfl⟩
theorem Qwa : QK Tryz.prog 232 = true:=by kernel_rfl
theorem Qut {t : Tre} {i : Nat} {es : List TEnt} {cs : List Int} (h : nth t.ns i = ⟨true,es,cs⟩) (b : Bool) (hb : b = true ↔ (cs.length = 0 ∨ cs.length = es.length + 1)) : (if (bif decide ((es.length : Int) ≤ YU t.mo t.rm i) then (0 : Int) else 16) = 0 then (bif b then (0 : Int) else 10) else (bif decide ((es.length : Int) ≤ YU t.mo t.rm i) then (0 : Int) else 16)) = nE1 t i:=by
  unfold nE1;rw [h]
  by_cases h1 : (es.length : Int) ≤ YU t.mo t.rm i
  · rw [decide_eq_true h1,if_pos h1]
    by_cases h2 : cs.length = 0 ∨ cs.length = es.length + 1
    · rw [if_pos h2,hb.2 h2];rfl
    · rw [if_neg h2,show b = false by cases b;rfl;exact absurd (hb.1 rfl) h2];rfl
  · rw [decide_eq_false h1,if_neg h1];rfl
theorem c199 (w : World) (i r : Nat) (ks seen : List Int) (bt : Nat) (j : Nat) (mo rm : Int) (a : Option Addr) (cap : Nat) (L : List LNd) (hw : HS w (fps [.mp r KI ks]) [.mp r KI ks] w) (hst : ∀ x,x ∈ ks ↔ x ∈ seen) (ht : TbR w (fps [.mp r KI ks]) bt (j : Int) mo rm a L.length cap) (hs : Nt w (fps [.mp r KI ks]) a L) (hl : L.length ≤ 1000) (hj : j ≤ 3) (hi : i < L.length) (hel : (nth L i).es.length ≤ 1000) (hcl : (nth L i).cs.length ≤ 1000) (hkl : ∀ x ∈ (nth L i).es,x.key.length ≤ 1000000) : Calls Tryz.prog 199 #[.pointer (some ⟨bt,0,none⟩),.int .i64 (i : Int),.map (some r)] w fun en w'=>∃ g : List Int,en = .returned (.int .i64 (XS (⟨(j : Int),mo,rm,pln L⟩ : Tre) i seen).1) ∧ (∀ x,x ∈ g ↔ x ∈ (XS (⟨(j : Int),mo,rm,pln L⟩ : Tre) i seen).2) ∧ HS w (fps [.mp r KI ks]) [.mp r KI g] w':=by
 have hn : nth (pln L) i = (nth L i).pl:=Q0 hi
 have hE2 : nE2 (⟨(j : Int),mo,rm,pln L⟩ : Tre) i = if nE1 (⟨(j : Int),mo,rm,pln L⟩ : Tre) i = 0 then (XQ ((nth L i).es.map (Y0 (j : Int))) 0).2 else nE1 (⟨(j : Int),mo,rm,pln L⟩ : Tre) i:=by unfold nE2 ZA;rw [hn];rfl
 have hE3 : nE3 (⟨(j : Int),mo,rm,pln L⟩ : Tre) i seen = if nE2 (⟨(j : Int),mo,rm,pln L⟩ : Tre) i = 0 then X7 (pln L) (nth L i).cs seen else (nE2 (⟨(j : Int),mo,rm,pln L⟩ : Tre) i,seen):=by unfold nE3;rw [hn];rfl
 have hE4 : nE4 (⟨(j : Int),mo,rm,pln L⟩ : Tre) i seen = if (nE3 (⟨(j : Int),mo,rm,pln L⟩ : Tre) i seen).1 = 0 then (XQ ((List.range (nth L i).es.length).map (Qbj (j : Int) (nth L i).es)) 0).2 else (nE3 (⟨(j : Int),mo,rm,pln L⟩ : Tre) i seen).1:=by unfold nE4 Qbd;rw [hn];rfl
 refine eW3 Tryz.func199 Tryz.ntmps199 hw ?_
 refine aU2 ?_
 refine oBx fun b1 _=>?_
 refine oBx fun b2 _=>?_
 refine aU8 ?_
 refine o_q (Qb rfl rfl Qb4 (ht 3 _ rfl)) rfl ?_
 refine aU ?_
 refine o_p (Qa rfl rfl rfl Q3 (i) (by omega) (by omega) (Rw.some hs.1 (by omega))) rfl ?_
 refine o_q (Qw _ rfl rfl XC rfl (Rw.rd hs.1 hi)) rfl ?_
 refine oAl (fun b3 _=>?_) Xq
 refine aU9 ?_
 refine sCd rfl (fun h4=>?_) fun h4=>?_
 ·have hu : (nth (pln L) i).us = false:=by rw [hn];have hq:=h4;simpa [LNd.pl] using hq
  refine aU5 ?_
  refine Yq 10 22 32 rfl
   (fun hg5 _=>by
    refine QdM ?_
    refine o_q (Qb rfl rfl Qb4 (ht 3 _ rfl)) rfl ?_
    refine aT4 ?_
    refine aU2 ?_
    exact oJt 10 32)
   (fun hg7 _=>by
    refine aU9 ?_
    exact oJf 10 32) ?_
  refine aU ?_
  refine Yq 9 33 42 rfl
   (fun hg9 _=>by
    refine aT14 ?_
    refine aU2 ?_
    exact oJt 9 42)
   (fun hg11 _=>by
    refine aU8 ?_
    exact oJf 9 42) ?_
  refine oCq rfl (fun w1 h1=>Qer w1 _ _) ?_
  refine aU2 ?_
  exact rT rfl rfl (fun w' h'=>⟨ks,by unfold XS;simp only [];rw [if_neg (by rw [hu];decide),hn];simp only [QW,LNd.pl];simp only [cond_eq_ite,Bool.and_eq_true,decide_eq_true_eq,Qe];(split <;> split <;> first | rfl | omega),by unfold XS;simp only [];rw [if_neg (by rw [hu];decide)];split <;> exact hst,h'.ent aEt⟩)
 have hu : (nth (pln L) i).us = true:=by rw [hn];have hq:=h4;simpa [LNd.pl] using hq
 have hN1 : nth ((⟨(j : Int),mo,rm,pln L⟩ : Tre)).ns i = ⟨true,(nth L i).es,(nth L i).cs⟩:=by show nth (pln L) i = _;rw [hn] at hu ⊢;simp only [LNd.pl] at hu ⊢;rw [hu]
 rw [Qon (⟨(j : Int),mo,rm,pln L⟩ : Tre) i hu]
 refine aU2 ?_
 refine Ql (L':=[(1,_),(3,_),(5,_),(6,_),(7,_)]) aSx (fun _ h=>h) ?_
 refine Yo (α:=Unit) [8,44,45,46,47,48,49,50,51,52,53,54,55,56,57,58,59,60,61,62,63,64,65,66,67,68] (fun _=>[(8,.int .i64 (nE1 (⟨(j : Int),mo,rm,pln L⟩ : Tre) i))]) (fun _=>HS w (fps [.mp r KI ks]) [.blk b1 158 1 [.pointer (some ⟨bt,0,none⟩)],.blk b2 242 1 [.map (some r)],.blk b3 69 3 (nth L i).vals,.mp r KI ks]) (fun _=>True) ?_ ?_
 ·skip
  refine Qz [] QN ?_
  refine dFa 0 ?_
  refine dLd 1 [] ?_
  refine dV 2 rfl (QR rfl rfl Tryz.underlying67) ?_
  refine dLd 3 [] ?_
  refine dP 4 ?_
  refine dQ 5 [] rfl (Qq rfl QuV rfl (fun w1 h1=>c229 w1 bt j mo rm a L.length cap i (ht.next h1))) ?_
  refine dP 6 ?_
  refine dQ 7 [] rfl (Qq rfl QbB rfl (fun w1 h1=>Qer w1 _ _)) ?_
  refine dFa 8 ?_
  refine dLd 9 [] ?_
  refine dV 10 rfl (QR rfl rfl Tryz.underlying28) ?_
  refine dP 11 ?_
  refine dP 12 ?_
  apply Xx 56
  ·exact rfl
  ·intro hg13
   have hs14:=hg13;try simp only [dT] at hs14
   refine dOf 13 56 hg13 ?_
   refine dOf 14 56 hg13 ?_
   refine dOf 15 56 hg13 ?_
   refine dOf 16 56 hg13 ?_
   refine dOf 17 56 hg13 ?_
   refine dOf 18 56 hg13 ?_
   refine dOf 19 56 hg13 ?_
   refine dOf 20 56 hg13 ?_
   refine dV 21 rfl (Xu rfl rfl hg13 rfl) ?_
   refine dQ 22 [] rfl (Qq rfl QbB rfl (fun w1 h1=>Qer w1 _ _)) ?_
   refine dH 23 rfl (Qm (cs:=[_,_]) rfl rfl YK QaE rfl rfl rfl) (fun b15 _=>?_)
   refine dBa ?_
   refine dQ 24 [] rfl (Qq rfl Qho rfl (fun w1 h1=>Qom h1 aPk (by rfl) (by rfl) (by decide))) ?_
   refine Qy (show _ = Value.int .i64 (nE1 (⟨(j : Int),mo,rm,pln L⟩ : Tre) i) from by congr 1;rw [Qbx];exact Qut hN1 _ (by first | (simp only [true_iff];left;have hq:=hg13;simp at hq ⊢;omega) | (have hq : ¬ (((nth L i).cs.length : Int) = 0):=of_decide_eq_false hg13;rw [decide_eq_true_eq];omega))) ?_
   refine dP 25 ?_
   refine dNi ?_
   exact Qt () trivial aSx (fun w h=>h.ent aEt)
  intro hg16
  have hs17:=hg16;try simp only [dN] at hs17
  refine dFo 13 56 hg16 ?_
  refine dQo 14 56 [] hg16 rfl rfl rfl (YB rfl rfl Qci aPk rfl) ?_
  refine dVo 15 56 hg16 rfl rfl rfl (QR rfl rfl Tryz.underlying28) ?_
  refine dFo 16 56 hg16 ?_
  refine dQo 17 56 [] hg16 rfl rfl rfl (YB rfl rfl Qdd aPk rfl) ?_
  refine dVo 18 56 hg16 rfl rfl rfl (QR rfl rfl Tryz.underlying67) ?_
  refine dPo 19 56 hg16 ?_
  try refine dWr ?_
  refine dPo 20 56 hg16 ?_
  refine dV 21 rfl (Xn rfl rfl hg16 rfl) ?_
  refine dQ 22 [] rfl (Qq rfl QbB rfl (fun w1 h1=>Qer w1 _ _)) ?_
  refine dH 23 rfl (Qm (cs:=[_,_]) rfl rfl YK QaE rfl rfl rfl) (fun b18 _=>?_)
  refine dBa ?_
  refine dQ 24 [] rfl (Qq rfl Qho rfl (fun w1 h1=>Qom h1 aPk (by rfl) (by rfl) (by decide))) ?_
  refine Qy (show _ = Value.int .i64 (nE1 (⟨(j : Int),mo,rm,pln L⟩ : Tre) i) from by congr 1;rw [Qbx];exact Qut hN1 _ (by first | (simp only [true_iff];left;have hq:=hg16;simp at hq ⊢;omega) | (have hq : ¬ (((nth L i).cs.length : Int) = 0):=of_decide_eq_false hg16;rw [decide_eq_true_eq];omega))) ?_
  refine dP 25 ?_
  refine dNi ?_
  exact Qt () trivial aSx (fun w h=>h.ent aEt)
 intro _ _
 refine aU6 ?_
 refine Yo (α:=Unit) [8,71,72,73,74,75,76,77] (fun _=>[(8,.int .i64 (nE2 (⟨(j : Int),mo,rm,pln L⟩ : Tre) i))]) (fun _=>HS w (fps [.mp r KI ks]) [.blk b1 158 1 [.pointer (some ⟨bt,0,none⟩)],.blk b2 242 1 [.map (some r)],.blk b3 69 3 (nth L i).vals,.mp r KI ks]) (fun _=>True) ?_ ?_
 ·skip
  refine sCd rfl (fun h19=>?_) fun h19=>?_
  ·refine aU4 ?_
   refine oCq rfl (fun w1 h1=>c230 w1 (nth L i).ea (nth L i).ec (nth L i).es 231 #[.pointer (some ⟨b1,0,none⟩)] ((nth L i).es.map (Y0 (j : Int))) ((hs.es hi).later h1) (by omega) (by kernel_rfl) (by simp) (fun k w2 hk9 _ h2=>by rw [Qcx hk9];exact c231 w2 b1 (k : Int) (nth (nth L i).es k) bt j mo rm a L.length cap hj (hkl _ (Qv hk9)) ((h1.rd_blk (Mc:=[]) (b:=b1) aPk rfl (by simp)).next h2) ((ht.next h1).next h2))) ?_
   refine aU5 ?_
   exact Qt () trivial (by rw [hE2,if_pos h19];exact aSx) (fun w h=>h.ent aEt)
  refine aU ?_
  exact Qt () trivial (by rw [hE2,if_neg h19];exact aSx) (fun w h=>h.ent aEt)
 intro _ _
 refine aU6 ?_
 refine Yo (α:=List Int) [8,80,81,82,83,84,85,86] (fun _=>[(8,.int .i64 (nE3 (⟨(j : Int),mo,rm,pln L⟩ : Tre) i seen).1)]) (fun q=>HS w (fps [.mp r KI ks]) [.blk b1 158 1 [.pointer (some ⟨bt,0,none⟩)],.blk b2 242 1 [.map (some r)],.blk b3 69 3 (nth L i).vals,.mp r KI q]) (fun q=>∀ x,x ∈ q ↔ x ∈ (nE3 (⟨(j : Int),mo,rm,pln L⟩ : Tre) i seen).2) ?_ ?_
 ·skip
  refine sCd rfl (fun h20=>?_) fun h20=>?_
  ·refine aU4 ?_
   refine o_h (QX (Cs:=[.mp r KI ks]) rfl Qwa rfl aPs (fun w1 h1 hf=>c232 w1 (nth L i).ca (nth L i).cc (nth L i).cs b1 b2 r ks seen bt j mo rm a cap L hf hst (h1.rd_blkF aPs (b:=b1) aPk rfl) (h1.rd_blkF aPs (b:=b2) aPk rfl) ((ht.keep h1).mono (Q9 aPs)) ((hs.keep h1).mono (Q9 aPs)) hl (((hs.cs hi).keep h1).mono (Q9 aPs)) hcl)) rfl (fun b21 hkG=>?_)
   refine aU5 ?_
   exact Qt b21.2 (by rw [hE3,if_pos h20];exact hkG) (by rw [hE3,if_pos h20];exact aSx) (fun w h=>h.ent aEt)
  refine aU ?_
  exact Qt ks (by rw [hE3,if_neg h20];exact hst) (by rw [hE3,if_neg h20];exact aSx) (fun w h=>h.ent aEt)
 intro ks2 hks2
 refine aU6 ?_
 refine Yo (α:=Unit) [8,89,90,91,92,93,94,95] (fun _=>[(8,.int .i64 (nE4 (⟨(j : Int),mo,rm,pln L⟩ : Tre) i seen))]) (fun _=>HS w (fps [.mp r KI ks]) [.blk b1 158 1 [.pointer (some ⟨bt,0,none⟩)],.blk b2 242 1 [.map (some r)],.blk b3 69 3 (nth L i).vals,.mp r KI ks2]) (fun _=>True) ?_ ?_
 ·skip
  refine sCd rfl (fun h22=>?_) fun h22=>?_
  ·have he0:=QnB (QxN _ _ (Qxg _ _ h22))
   rw [hn] at he0
   have hkok : ∀ x ∈ (nth L i).es,QU (j : Int) x.key = true ∧ x.key.length ≤ 1000000:=fun x hx=>⟨Qd0 (he0 x hx),hkl x hx⟩
   refine aU4 ?_
   refine oCq rfl (fun w1 h1=>c230 w1 (nth L i).ea (nth L i).ec (nth L i).es 234 #[.pointer (some ⟨b1,0,none⟩),.pointer (some ⟨b3,0,none⟩)] ((List.range (nth L i).es.length).map (Qbj (j : Int) (nth L i).es)) ((hs.es hi).later h1) (by omega) (by kernel_rfl) (by simp) (fun k w2 hk9 _ h2=>by rw [Qch hk9];exact c234 w2 b1 b3 k true (nth L i).ea (nth L i).ec (nth L i).es (.bool true) bt j mo rm a L.length cap hj hk9 (by omega) hkok ((h1.rd_blk (Mc:=[]) (b:=b1) aPk rfl (by simp)).next h2) ((h1.rd_blk (Mc:=[]) (b:=b3) aPk rfl (by simp)).next h2) (((hs.es hi).later h1).later h2) ((ht.next h1).next h2))) ?_
   refine aU5 ?_
   exact Qt () trivial (by rw [hE4,if_pos h22];exact aSx) (fun w h=>h.ent aEt)
  refine aU ?_
  exact Qt () trivial (by rw [hE4,if_neg h22];exact aSx) (fun w h=>h.ent aEt)
 intro _ _
 refine aU5 ?_
 exact rT rfl rfl (fun w' h'=>⟨ks2,rfl,hks2,h'.ent aEt⟩)
instance : TFn Tryz.prog 128:=⟨by kernel_rfl⟩
theorem QlB : QK Tryz.prog 235 = true:=by kernel_rfl
theorem Qpo : tsz Tryz.prog 102 = some (1,false):=by kernel_rfl
instance : TSz Tryz.prog 102 1 false:=⟨Qpo⟩
theorem Qby : tsl Tryz.prog 102 = some (4,1,1):=by kernel_rfl
theorem c128 (w : World) (ua : Option Addr) (uc : Nat) (u : List Int) (n : Int) (hu : Rw inV 1 w [] ua u) (hum : u.length ≤ 100000) : Calls Tryz.prog 128 #[.slice ua u.length uc,.int .i64 n] w fun en w'=>en = .returned (.int .i64 (ixI (Qea u n))) ∧ Below w.heap.size w w':=by
 refine eN2 Tryz.func128 Tryz.ntmps128 ?_
 refine Qbn ?_
 refine Qr (α:=Nat) [4,5,8,9,10,11,12,13,14,15,16,17,18] (fun k=>[(8,.int .i64 (k : Int))]) (fun _=>_) (fun k=>k ≤ u.length ∧ ∀ i,i < k → (Qea u n).getD i false = false) (fun k=>u.length - k) 0 ⟨Nat.zero_le _,fun i h=>absurd h (Nat.not_lt_zero i)⟩ aSx (fun w h=>h) (fun k hkk=>?_)
 obtain ⟨hk1,hk2⟩:=hkk
 refine aU5 ?_
 refine sCd rfl (fun h1=>?_) fun h1=>?_
 ·have hk : k < u.length:=by omega
  refine Qcb ?_
  refine o_p (Qa rfl rfl rfl Xa (k) (by omega) (by omega) (Rw.some hu (by omega))) rfl ?_
  refine o_q (Qb rfl rfl ZB ((hu.rdj 0 hk rfl))) rfl ?_
  refine aU2 ?_
  refine sCd rfl (fun h2=>?_) fun h2=>?_
  ·have hq9 : n = u.getD k 0:=h2
   have e:=Qbw (l:=Qea u n) (k:=k) (by rw [QcB];omega) hk2 (fun _=>by rw [Qjq hk];exact decide_eq_true hq9)
   refine aU5 ?_
   exact rT rfl rfl (fun w' h'=>⟨by simp only [QW,ixI,e,QcB];rw [if_pos hk],h'.below⟩)
  have hq9 : ¬ n = u.getD k 0:=h2
  refine aT4 ?_
  refine aU2 ?_
  exact QP (k + 1) (by omega) ⟨by omega,fun i hi=>(Nat.lt_or_ge i k).elim (hk2 i) (fun h=>by obtain rfl : i = k:=(by omega);rw [Qjq hk];exact decide_eq_false hq9)⟩ aSx (fun w h=>h)
 obtain rfl : k = u.length:=by omega
 refine Qi rfl ?_
 refine aU4 ?_
 exact rT rfl rfl (fun w' h'=>⟨by have e:=Qbw (l:=Qea u n) (k:=u.length) (by rw [QcB];omega) hk2 (fun h=>by rw [QcB] at h;omega);simp only [QW,ixI,e,QcB];rw [if_neg (by omega)],h'.below⟩)
theorem c62 (w : World) (ua : Option Addr) (uc : Nat) (u : List Int) (n : Int) (hu : Rw inV 1 w [] ua u) (hum : u.length ≤ 100000) : Calls Tryz.prog 62 #[.slice ua u.length uc,.int .i64 n] w fun en w'=>en = .returned (.bool (decide (n ∈ u))) ∧ Below w.heap.size w w':=by
 refine eN2 Tryz.func62 Tryz.ntmps62 ?_
 refine aU8 ?_
 refine oCq rfl (fun w1 h1=>c128 w1 ua uc u n (hu.later h1) hum) ?_
 refine aU3 ?_
 exact rT rfl rfl (fun w' h'=>⟨by rw [← Qph,← QfY];rfl,h'.below⟩)
def WkC (S : Type) (I : S → Prop) (C : S → HA) (st : S → Vis → S) (er : S → Vis → Int × Int) (q : Nat) (cv : Array Value) (bt : Nat) (j : Nat) (mo rm : Int) (a : Option Addr) (cap : Nat) (L : List LNd) (f : Nat) : Prop:=∀ (w : World) (s : S) (v : Vis) (pl ph : Option Addr) (P : List Nat),(HS w (fps [C s]) [C s] w) → (QK Tryz.prog q = true) → (∀ s1 s2 : S,(C s1).fp = (C s2).fp) → (∀ s2 v2,I s2 → I (st s2 v2)) → (I s) → (∀ (s2 : S) (v2 : Vis) (p2 p3 : Option Addr) (w1 : World),HS w (fps [C s]) [C s2] w1 → I s2 → v2.i < L.length → KOk (j : Int) v2.lo → KOk (j : Int) v2.hi → Qap w1 (fps [C s2]) p2 v2.lo → Qap w1 (fps [C s2]) p3 v2.hi → Calls Tryz.prog q (#[] ++ [.int .i64 (v2.i : Int),.int .i64 v2.d,.pointer p2,.pointer p3].toArray ++ cv) w1 fun en w2=>∃ g : Unit,en = .returned (.tuple #[.int .i64 (er s2 v2).1,.int .i64 (er s2 v2).2]) ∧ True ∧ HS w1 (fps [C s2]) [C (st s2 v2)] w2) → (TbR w (fps [C s]) bt (j : Int) mo rm a L.length cap) → (Nt w (fps [C s]) a L) → (TOk (j : Int) (pln L)) → (Bd (pln L)) → (Qap w (fps [C s]) pl v.lo) → (Qap w (fps [C s]) ph v.hi) → (0 < L.length) → (Gx.Way (pln L) (v.i :: P)) → (P.length + f = L.length) → (v.d = (P.length : Int) + 1) → (KOk (j : Int) v.lo) → (KOk (j : Int) v.hi) → Calls Tryz.prog 235 #[.pointer (some ⟨bt,0,none⟩),.int .i64 (v.i : Int),.int .i64 v.d,.pointer pl,.pointer ph,.func (.func q) #[] cv] w fun en w'=>∃ g : Unit,en = .returned (.tuple #[.int .i64 (XJ st er s (vis (pln L) f v)).1.1,.int .i64 (XJ st er s (vis (pln L) f v)).1.2]) ∧ True ∧ HS w (fps [C s]) [C (XJ st er s (vis (pln L) f v)).2] w'
theorem QxB (w : World) (S : Type) (I : S → Prop) (C : S → HA) (st : S → Vis → S) (er : S → Vis → Int × Int) (q : Nat) (cv : Array Value) (bt : Nat) (j : Nat) (mo rm : Int) (a : Option Addr) (cap : Nat) (L : List LNd) (s : S) (v : Vis) (pl ph : Option Addr) (P : List Nat) (f : Nat) (hw : HS w (fps [C s]) [C s] w) (hq : QK Tryz.prog q = true) (hfp : ∀ s1 s2 : S,(C s1).fp = (C s2).fp) (hI : ∀ s2 v2,I s2 → I (st s2 v2)) (hIs : I s) (hv : ∀ (s2 : S) (v2 : Vis) (p2 p3 : Option Addr) (w1 : World),HS w (fps [C s]) [C s2] w1 → I s2 → v2.i < L.length → KOk (j : Int) v2.lo → KOk (j : Int) v2.hi → Qap w1 (fps [C s2]) p2 v2.lo → Qap w1 (fps [C s2]) p3 v2.hi → Calls Tryz.prog q (#[] ++ [.int .i64 (v2.i : Int),.int .i64 v2.d,.pointer p2,.pointer p3].toArray ++ cv) w1 fun en w2=>∃ g : Unit,en = .returned (.tuple #[.int .i64 (er s2 v2).1,.int .i64 (er s2 v2).2]) ∧ True ∧ HS w1 (fps [C s2]) [C (st s2 v2)] w2) (ht : TbR w (fps [C s]) bt (j : Int) mo rm a L.length cap) (hs : Nt w (fps [C s]) a L) (hT : TOk (j : Int) (pln L)) (hB : Bd (pln L)) (hpl : Qap w (fps [C s]) pl v.lo) (hph : Qap w (fps [C s]) ph v.hi) (h0 : 0 < L.length) (hway : Gx.Way (pln L) (v.i :: P)) (hf : P.length + (f + 1) = L.length) (hd : v.d = (P.length : Int) + 1) (hko : KOk (j : Int) v.lo) (hkp : KOk (j : Int) v.hi) (ih : WkC S I C st er q cv bt j mo rm a cap L f) : Calls Tryz.prog 235 #[.pointer (some ⟨bt,0,none⟩),.int .i64 (v.i : Int),.int .i64 v.d,.pointer pl,.pointer ph,.func (.func q) #[] cv] w fun en w'=>∃ g : Unit,en = .returned (.tuple #[.int .i64 (XJ st er s (vis (pln L) (f + 1) v)).1.1,.int .i64 (XJ st er s (vis (pln L) (f + 1) v)).1.2]) ∧ True ∧ HS w (fps [C s]) [C (XJ st er s (vis (pln L) (f + 1) v)).2] w':=by
 have hi0:=Qdv hT (by rw [Qe];exact h0) hway v.i (List.mem_cons_self ..)
 have hi : v.i < L.length:=by rw [Qe] at hi0;exact hi0
 have hn:=Q0 hi
 have hle:=hB.len
 rw [Qe] at hle
 have hel:=hB.es v.i hi0
 have hcl:=hB.cs v.i hi0
 rw [hn] at hel hcl
 simp only [LNd.pl] at hel hcl
 have hsh:=hT.shape v.i hi0
 rw [hn] at hsh
 simp only [LNd.pl] at hsh
 refine eW6 Tryz.func235 Tryz.ntmps235 hw ?_
 refine Qcb ?_
 refine o_h (Qkc (Cs:=[C s]) rfl rfl hq rfl aPs (fun w1 h1 hf9=>hv s v pl ph w1 (h1.ent aEt) hIs hi hko hkp ((hpl.keep h1).mono (Q9 aPs)) ((hph.keep h1).mono (Q9 aPs)))) rfl (fun _ _=>?_)
 refine QdM ?_
 refine sCd rfl (fun h1=>?_) fun h1=>?_
 ·have hz : XJ st er s (vis (pln L) (f + 1) v) = (er s v,st s v):=by rw [vis,XJ,if_neg h1]
  refine aU7 ?_
  exact Qj (rs:=[.tmp 12,.tmp 13]) rfl (.tmp rfl (.tmp rfl (.nil))) (fun w' h'=>⟨(),by rw [hz];rfl,trivial,by rw [hz];exact h'.ent aEt⟩)
 have hz0 : XJ st er s [v] = ((0,0),st s v):=by rw [XJ,if_pos h1,XJ]
 refine aU7 ?_
 refine o_q (Qb rfl rfl Qb4 (ht 3 _ rfl)) rfl ?_
 refine aU ?_
 refine o_p (Qa rfl rfl rfl Q3 (v.i) (by omega) (by omega) (Rw.some hs.1 (by omega))) rfl ?_
 refine o_q (Qw _ rfl rfl XC rfl (Rw.rd hs.1 hi)) rfl ?_
 refine oAl (fun b2 _=>?_) Xq
 refine aU4 ?_
 refine Ql (L':=[(0,_),(2,_),(3,_),(4,_),(5,_),(12,_),(13,_),(16,_)]) aSx (fun _ h=>h) ?_
 refine aU7 ?_
 refine Qr (α:=Nat × S) [12,13,17,18,19,20,21,22,47,48,49,50,51,52,53,54,55,56,57,58,59,60,61,62,63,64,65,66,67,68,69,70,71,72,73,74,75,76,77,78,79,80,81,82,83,84,85,86,87] (fun x=>[(47,.int .i64 (x.1 : Int))]) (fun x=>HS w (fps [C s]) [.blk b2 69 3 (nth L v.i).vals,C x.2]) (fun x=>x.1 ≤ (nth L v.i).cs.length ∧ (XJ st er s (Qbf (pln L) f v x.1)).1.2 = 0 ∧ (XJ st er s (Qbf (pln L) f v x.1)).2 = x.2) (fun x=>(nth L v.i).cs.length - x.1) (0,st s v) ⟨Nat.zero_le _,by rw [QlR,hz0],by rw [QlR,hz0]⟩ aSx (fun w h=>h.ent aEt) (fun ⟨k,sk⟩ hx=>?_)
 dsimp only
 obtain ⟨hk1,hk2,hk3⟩:=hx
 simp only [] at hk1 hk2 hk3
 refine aU5 ?_
 refine sCd rfl (fun h3=>?_) fun h3=>?_
 ·have hkl : k < (nth L v.i).cs.length:=by omega
  have hkid:=Qg0 hT hi0 (k:=k) (by rw [hn];exact hkl)
  have hwk:=QeF hway hi0 (k:=k) (by rw [hn];exact hkl) (by omega)
  have hki : ((XW (pln L) v k).i : Int) = (nth L v.i).cs.getD k 0:=by unfold XW;rw [hn] at hkid ⊢;simp only [LNd.pl] at hkid ⊢;rw [Int.toNat_of_nonneg (by omega)]
  rw [Qe] at hkid
  refine aU6 ?_
  refine o_p (Qa rfl rfl rfl Xa (k) (by omega) (by omega) (Rw.some (hs.cs hi) (by omega))) rfl ?_
  refine o_q (Qb rfl rfl ZB (((hs.cs hi).rdj 0 (i:=k) hkl rfl))) rfl ?_
  refine aU2 ?_
  refine Qk (show _ = Value.int .i64 ((XW (pln L) v k).i : Int) from by rw [hki];rfl) ?_
  refine Qgs ?_
  refine Yo (α:=Option Addr) [19,56,57,58,59,60,61] (fun p=>[(19,.pointer p)]) (fun _=>HS w (fps [C s]) [.blk b2 69 3 (nth L v.i).vals,C sk]) (fun p=>Qap w (fps [C s]) p (loK (nth L v.i).es k v.lo)) ?_ ?_
  ·skip
   refine sCd rfl (fun h4=>?_) fun h4=>?_
   ·refine aT5 ?_
    refine o_p (Qa rfl rfl rfl Q6 (k - 1) (by omega) (by omega) (Rw.some (hs.es hi) (by omega))) rfl ?_
    refine aU3 ?_
    exact Qt (some ⟨ab (nth L v.i).ea,ao (nth L v.i).ea + (k - 1) * 2,none⟩) (by rw [show loK (nth L v.i).es k v.lo = some (nth (nth L v.i).es (k - 1)).key from if_pos (by omega)];exact ⟨_,_,rfl,((hs.es hi).rdj 0 (by omega) rfl)⟩) aSx (fun w h=>h.ent aEt)
   refine aU ?_
   exact Qt pl (by rw [show loK (nth L v.i).es k v.lo = v.lo from if_neg (by omega)];exact hpl) aSx (fun w h=>h.ent aEt)
  intro p1 hp1
  refine aU9 ?_
  refine Ql (L':=[(0,_),(2,_),(3,_),(4,_),(5,_),(16,_),(17,_),(18,_),(19,_),(20,_),(44,_),(45,_),(46,_),(47,_),(66,_)]) aSx (fun _ h=>h) ?_
  refine Yo (α:=Option Addr) [20,67,68,69,70,71] (fun p=>[(20,.pointer p)]) (fun _=>HS w (fps [C s]) [.blk b2 69 3 (nth L v.i).vals,C sk]) (fun p=>Qap w (fps [C s]) p (hiK (nth L v.i).es k v.hi)) ?_ ?_
  ·skip
   refine sCd rfl (fun h5=>?_) fun h5=>?_
   ·refine aU4 ?_
    refine o_p (Qa rfl rfl rfl Q6 (k) (by omega) (by omega) (Rw.some (hs.es hi) (by omega))) rfl ?_
    refine aU3 ?_
    exact Qt (some ⟨ab (nth L v.i).ea,ao (nth L v.i).ea + k * 2,none⟩) (by rw [show hiK (nth L v.i).es k v.hi = some (nth (nth L v.i).es k).key from if_pos (by omega)];exact ⟨_,_,rfl,((hs.es hi).rdj 0 (by omega) rfl)⟩) aSx (fun w h=>h.ent aEt)
   refine aU ?_
   exact Qt ph (by rw [show hiK (nth L v.i).es k v.hi = v.hi from if_neg (by omega)];exact hph) aSx (fun w h=>h.ent aEt)
  intro p2 hp2
  refine aT6 ?_
  refine aU3 ?_
  refine o_h (QX (Cs:=[C sk]) rfl QlB rfl aPs (fun w1 h1 hf9=>ih w1 sk (XW (pln L) v k) p1 p2 (v.i :: P) hf9 hq hfp hI (hk3 ▸ Qjv hI _ _ hIs) (fun s2 v2 p3 p4 w2 h2 hs2 hi2 ha2 hb2 hp3 hp4=>hv s2 v2 p3 p4 w2 (HS.thenF (h1.ent (Bs:=[C sk]) aEt) h2) hs2 hi2 ha2 hb2 hp3 hp4) ((ht.keep h1).mono (Q9 aPs)) ((hs.keep h1).mono (Q9 aPs)) hT hB (by unfold XW;rw [hn];exact (hp1.keep h1).mono (Q9 aPs)) (by unfold XW;rw [hn];exact (hp2.keep h1).mono (Q9 aPs)) h0 hwk (by simp only [List.length_cons];omega) (by show v.d + 1 = _;simp only [List.length_cons];omega) (Qg4 hT hi0 (by rw [hn];simp only [LNd.pl];omega) hko) (Qgy hT hi0 hkp))) rfl (fun _ _=>?_)
  refine QdM ?_
  refine sCd rfl (fun h6=>?_) fun h6=>?_
  ·have e9 : XJ st er s (Qbf (pln L) f v k ++ vis (pln L) f (XW (pln L) v k)) = XJ st er sk (vis (pln L) f (XW (pln L) v k)):=by rw [QmY _ _ hk2,hk3]
   have hz : XJ st er s (vis (pln L) (f + 1) v) = XJ st er sk (vis (pln L) f (XW (pln L) v k)):=by rw [Zn,hn];simp only [LNd.pl];obtain ⟨B,eB⟩:=QaZ (pln L) f v (show k + 1 ≤ (nth L v.i).cs.length by omega);rw [eB,X0,Qsj _ _ (by rw [e9];exact h6),e9]
   refine aU ?_
   refine Ql (L':=[(0,_),(2,_),(3,_),(4,_),(5,_),(16,_),(21,_),(22,_),(44,_),(45,_),(46,_),(47,_)]) aSx (fun _ h=>h) ?_
   refine aU6 ?_
   exact Qj (rs:=[.tmp 12,.tmp 13]) rfl (.tmp rfl (.tmp rfl (.nil))) (fun w' h'=>⟨(),by rw [hz];rfl,trivial,by rw [hz];exact h'.ent aEt⟩)
  have hz : XJ st er s (Qbf (pln L) f v (k + 1)) = XJ st er sk (vis (pln L) f (XW (pln L) v k)):=by rw [X0,QmY _ _ hk2,hk3]
  refine aU2 ?_
  refine Ql (L':=[(0,_),(2,_),(3,_),(4,_),(5,_),(16,_),(44,_),(45,_),(46,_),(47,_)]) aSx (fun _ h=>h) ?_
  refine aT2 ?_
  refine aU2 ?_
  exact sBk (k + 1,(XJ st er sk (vis (pln L) f (XW (pln L) v k))).2) (by (try simp only []);omega) ⟨by (try simp only []);omega,by simp only [];rw [hz];exact h6,by simp only [];rw [hz]⟩
 refine Qi rfl ?_
 refine aU5 ?_
 exact Qj (rs:=[.tmp 12,.tmp 13]) rfl (.tmp rfl (.tmp rfl (.nil))) (fun w' h'=>⟨(),by have hke : k = (nth L v.i).cs.length:=(by omega);rw [Zn,hn];simp only [LNd.pl];rw [← hke,QqT _ _ hk2];rfl,trivial,by have hke : k = (nth L v.i).cs.length:=(by omega);rw [Zn,hn];simp only [LNd.pl];rw [← hke,hk3];exact h'.ent aEt⟩)
theorem QlF (S : Type) (I : S → Prop) (C : S → HA) (st : S → Vis → S) (er : S → Vis → Int × Int) (q : Nat) (cv : Array Value) (bt : Nat) (j : Nat) (mo rm : Int) (a : Option Addr) (cap : Nat) (L : List LNd) : ∀ f,WkC S I C st er q cv bt j mo rm a cap L f
  | 0=>fun w s v pl ph P hw hq hfp hI hIs hv ht hs hT hB hpl hph h0 hway hf hd hko hkp=>by
    have hl:=QbS hT (by rw [Qe];exact h0) hway;rw [Qe] at hl;simp only [List.length_cons] at hl;omega
  | f + 1=>fun w s v pl ph P hw hq hfp hI hIs hv ht hs hT hB hpl hph h0 hway hf hd hko hkp=>QxB w S I C st er q cv bt j mo rm a cap L s v pl ph P f hw hq hfp hI hIs hv ht hs hT hB hpl hph h0 hway hf hd hko hkp (QlF S I C st er q cv bt j mo rm a cap L f)
theorem c236 (w : World) (i : Nat) (d : Int) (pl ph : Option Addr) (c4 bb n : Nat) (s : List Bool) (hw : HS w (fps [.blk bb 4 n (s.map Value.bool)]) [.blk bb 4 n (s.map Value.bool)] w) (hc4 : Rd w (fps [.blk bb 4 n (s.map Value.bool)]) c4 0 (.slice (some ⟨bb,0,none⟩) n n)) (hi : i < n) (hn : s.length = n) : Calls Tryz.prog 236 #[.int .i64 (i : Int),.int .i64 d,.pointer pl,.pointer ph,.pointer (some ⟨c4,0,none⟩)] w fun en w'=>∃ g : Unit,en = .returned (.tuple #[.int .i64 0,.int .i64 0]) ∧ True ∧ HS w (fps [.blk bb 4 n (s.map Value.bool)]) [.blk bb 4 n ((s.set i true).map Value.bool)] w':=by
 refine eW5 Tryz.func236 Tryz.ntmps236 hw ?_
 refine aU7 ?_
 refine o_q (Qb rfl rfl Qpo (hc4)) rfl ?_
 refine aU ?_
 refine o_p (Qa rfl rfl rfl Qby (i) (by omega) (by omega) rfl) rfl ?_
 refine Qld (Qbz rfl rfl rfl QeZ rfl aPt (by first | (simp only [List.length_map,List.length_singleton,List.length_cons,List.length_nil];omega) | (simp;omega)) rfl) (fun _ _=>?_)
 refine aU6 ?_
 exact Qj (rs:=[.tmp 9,.tmp 10]) rfl (.tmp rfl (.tmp rfl (.nil))) (fun w' h'=>⟨(),rfl,trivial,by have h2:=h';rw [List.map_set];simp only [Qh,Nat.zero_add,Nat.mul_one] at h2;exact h2.ent aEt⟩)
instance : TFn Tryz.prog 62:=⟨by kernel_rfl⟩
theorem Qvl : QK Tryz.prog 173 = true:=by kernel_rfl
theorem QiI : Qrx Tryz.prog 266 9:=Qmr Tryz.underlying266 Zq (by decide)
theorem c237 (w : World) (v : Vis) (pl ph : Option Addr) (c1 c7 : Nat) (s : Int) (bt : Nat) (j : Nat) (mo rm : Int) (a : Option Addr) (cap : Nat) (L : List LNd) (hw : HS w (fps [.blk c7 3 1 [.int .i64 s]]) [.blk c7 3 1 [.int .i64 s]] w) (hc1 : Rd w (fps [.blk c7 3 1 [.int .i64 s]]) c1 0 (.pointer (some ⟨bt,0,none⟩))) (ht : TbR w (fps [.blk c7 3 1 [.int .i64 s]]) bt (j : Int) mo rm a L.length cap) (hs : Nt w (fps [.blk c7 3 1 [.int .i64 s]]) a L) (hj : j ≤ 3) (hmo : 0 ≤ mo ∧ mo ≤ 1000) (hi : v.i < L.length) (hl : L.length ≤ 1000) (hel : (nth L v.i).es.length ≤ 1000) (hcl : (nth L v.i).cs.length ≤ 1000) (hc0 : (nth L 0).cs.length ≤ 1000) (he0 : (nth L 0).es.length ≤ 1000) (hpl : Qap w (fps [.blk c7 3 1 [.int .i64 s]]) pl v.lo) (hph : Qap w (fps [.blk c7 3 1 [.int .i64 s]]) ph v.hi) (hlo : ∀ k,v.lo = some k → (QU (j : Int) k = true ∧ k.length ≤ 1000000)) (hhi : ∀ k,v.hi = some k → (QU (j : Int) k = true ∧ k.length ≤ 1000000)) (hok : ∀ x ∈ (nth L v.i).es,QU (j : Int) x.key = true ∧ x.key.length ≤ 1000000) : Calls Tryz.prog 237 #[.int .i64 (v.i : Int),.int .i64 v.d,.pointer pl,.pointer ph,.pointer (some ⟨c1,0,none⟩),.pointer (some ⟨c7,0,none⟩)] w fun en w'=>∃ g : Unit,en = .returned (.tuple #[.int .i64 (erV (⟨(j : Int),mo,rm,pln L⟩ : Tre) s v).1,.int .i64 (erV (⟨(j : Int),mo,rm,pln L⟩ : Tre) s v).2]) ∧ True ∧ HS w (fps [.blk c7 3 1 [.int .i64 s]]) [.blk c7 3 1 [.int .i64 (stV (⟨(j : Int),mo,rm,pln L⟩ : Tre) s v)]] w':=by
 have h00 : 0 < L.length:=by omega
 have hn : nth (pln L) v.i = (nth L v.i).pl:=Q0 hi
 have hn0 : nth (pln L) 0 = (nth L 0).pl:=Q0 h00
 have hG : Qaj (⟨(j : Int),mo,rm,pln L⟩ : Tre) v = (decide (0 < v.i) && (decide (((nth L v.i).es.length : Int) < mo / 2) || ((decide (((nth L 0).es.length : Int) = 0) && decide ((v.i : Int) ∈ (nth L 0).cs)) && decide (((nth L v.i).es.length : Int) ≤ rm)))):=by unfold Qaj;rw [hn,hn0];simp only [LNd.pl];congr 3;congr 1;apply decide_eq_decide.2;omega
 have hO : ZI (⟨(j : Int),mo,rm,pln L⟩ : Tre) v = (nth L v.i).es.any (Qat (⟨(j : Int),mo,rm,pln L⟩ : Tre) v):=by unfold ZI;rw [hn];rfl
 have hE : erV (⟨(j : Int),mo,rm,pln L⟩ : Tre) s v = ((v.i : Int),if Qaj (⟨(j : Int),mo,rm,pln L⟩ : Tre) v = true then 14 else if ZI (⟨(j : Int),mo,rm,pln L⟩ : Tre) v = true then 9 else if (nth L v.i).cs.length = 0 then (if (if s = 0 then v.d else s) = v.d then 0 else 22) else 0):=by unfold erV;rw [hn];rfl
 have hS : stV (⟨(j : Int),mo,rm,pln L⟩ : Tre) s v = if Qaj (⟨(j : Int),mo,rm,pln L⟩ : Tre) v = true then s else if ZI (⟨(j : Int),mo,rm,pln L⟩ : Tre) v = true then s else if (nth L v.i).cs.length = 0 then (if s = 0 then v.d else s) else s:=by unfold stV;rw [hn];rfl
 refine eW6 Tryz.func237 Tryz.ntmps237 hw ?_
 refine aU7 ?_
 refine o_q (Qb rfl rfl ZL (hc1)) rfl ?_
 refine aU3 ?_
 refine o_q (Qb rfl rfl Qb4 (ht 3 _ rfl)) rfl ?_
 refine aU ?_
 refine o_p (Qa rfl rfl rfl Q3 (v.i) (by omega) (by omega) (Rw.some hs.1 (by omega))) rfl ?_
 refine o_q (Qw _ rfl rfl XC rfl (Rw.rd hs.1 hi)) rfl ?_
 refine oAl (fun b1 _=>?_) Xq
 refine aU5 ?_
 refine o_q (Qb rfl rfl ZL (hc1)) rfl ?_
 refine aU3 ?_
 refine o_q (Qb rfl rfl Qb4 (ht 3 _ rfl)) rfl ?_
 refine o_p (Qa rfl rfl rfl Q3 (0) (by omega) (by omega) (Rw.some hs.1 (by omega))) rfl ?_
 refine o_q (Qw _ rfl rfl XC rfl (Rw.rd hs.1 (i:=0) h00)) rfl ?_
 refine oAl (fun b2 _=>?_) Xq
 refine aU7 ?_
 refine Ql (L':=[(0,_),(1,_),(2,_),(3,_),(4,_),(5,_),(10,_),(11,_),(12,_),(13,_),(33,_)]) aSx (fun _ h=>h) ?_
 refine Yo (α:=Unit) [10,11,14,34,35,36,37,38,39,40,41,42,43,44,45,46,47,48,49,50,51,52,53,54,55,56,57,58,59,60,61,62,63,64] (fun _=>[]) (fun _=>HS w (fps [.blk c7 3 1 [.int .i64 s]]) [.blk b2 69 3 (nth L 0).vals,.blk b1 69 3 (nth L v.i).vals,.blk c7 3 1 [.int .i64 s]]) (fun _=>Qaj (⟨(j : Int),mo,rm,pln L⟩ : Tre) v = false) ?_ ?_
 ·skip
  refine sCd rfl (fun h3=>?_) fun h3=>?_
  ·refine aU7 ?_
   refine Yq 5 38 43 rfl
    (fun hg4 _=>by
     refine aU7 ?_
     refine oCq rfl (fun w1 h1=>c62 w1 (nth L 0).ca (nth L 0).cc (nth L 0).cs (v.i : Int) ((hs.cs h00).later h1) (by omega)) ?_
     exact oJt 5 43)
    (fun hg6 _=>by
     refine aU4 ?_
     exact oJf 5 43) ?_
   refine aU3 ?_
   refine Yo (α:=Unit) [44,45,46,47,48,49,50,51,52,53,54,55,56,57,58,59,60,61,62,63] (fun _=>[(63,.bool (decide (((nth L v.i).es.length : Int) < mo / 2) || ((decide (((nth L 0).es.length : Int) = 0) && decide ((v.i : Int) ∈ (nth L 0).cs)) && decide (((nth L v.i).es.length : Int) ≤ rm))))]) (fun _=>HS w (fps [.blk c7 3 1 [.int .i64 s]]) [.blk b2 69 3 (nth L 0).vals,.blk b1 69 3 (nth L v.i).vals,.blk c7 3 1 [.int .i64 s]]) (fun _=>True) ?_ ?_
   ·skip
    refine Qz [] QN ?_
    refine dFa 0 ?_
    refine dLd 1 [] ?_
    refine dV 2 rfl (QR rfl rfl Tryz.underlying67) ?_
    refine dQ 3 [] rfl (Qb rfl rfl ZL (hc1)) ?_
    refine dQ 4 [] rfl (Qq rfl Qvl rfl (fun w1 h1=>c173 w1 bt j mo rm a L.length cap hmo (ht.next h1))) ?_
    refine dP 5 ?_
    refine dP 6 ?_
    apply Xx 50
    ·exact rfl
    ·intro hg8
     have hs9:=hg8;try simp only [dT] at hs9
     refine dOf 7 50 hg8 ?_
     refine dOf 8 50 hg8 ?_
     refine dOu 9 52 ?_
     refine dOu 10 52 ?_
     refine dOu 11 52 ?_
     refine dOu 12 52 ?_
     refine dOu 13 52 ?_
     refine dOu 14 52 ?_
     refine dOu 15 52 ?_
     refine dOu 16 52 ?_
     refine dOu 17 52 ?_
     refine dOf 18 50 hg8 ?_
     refine dV 19 rfl (Xu rfl rfl hg8 rfl) ?_
     refine Qy (show _ = Value.bool (decide (((nth L v.i).es.length : Int) < mo / 2) || ((decide (((nth L 0).es.length : Int) = 0) && decide ((v.i : Int) ∈ (nth L 0).cs)) && decide (((nth L v.i).es.length : Int) ≤ rm))) from by congr 1;first | (simp_all;done) | (simp_all;omega)) ?_
     refine dNi ?_
     exact Qt () trivial aSx (fun w h=>h.ent aEt)
    intro hg10
    have hs11:=hg10;try simp only [dN] at hs11
    refine dPo 7 50 hg10 ?_
    refine dPo 8 50 hg10 ?_
    apply Xx 52
    ·exact rfl
    ·intro hg12
     have hs13:=hg12;try simp only [Bool.and_eq_true,decide_eq_true_eq] at hs13
     refine dFo 9 52 hg12 ?_
     refine dQo 10 52 [] hg12 rfl rfl rfl (YB rfl rfl Qdd aPk rfl) ?_
     refine dVo 11 52 hg12 rfl rfl rfl (QR rfl rfl Tryz.underlying67) ?_
     refine dQo 12 52 [] hg12 rfl rfl rfl (Qb rfl rfl ZL (hc1)) ?_
     refine dPo 13 52 hg12 ?_
     refine dFo 14 52 hg12 ?_
     refine dFo 15 52 hg12 ?_
     refine dQo 16 52 [] hg12 rfl rfl rfl (Qb rfl rfl ZB (ht 2 _ rfl)) ?_
     refine dPo 17 52 hg12 ?_
     refine dVo 18 50 hg10 rfl rfl rfl (Xu rfl rfl hg12 rfl) ?_
     refine dV 19 rfl (Xn rfl rfl hg10 rfl) ?_
     refine Qy (show _ = Value.bool (decide (((nth L v.i).es.length : Int) < mo / 2) || ((decide (((nth L 0).es.length : Int) = 0) && decide ((v.i : Int) ∈ (nth L 0).cs)) && decide (((nth L v.i).es.length : Int) ≤ rm))) from by congr 1;first | (simp_all;done) | (simp_all;omega)) ?_
     refine dNi ?_
     exact Qt () trivial aSx (fun w h=>h.ent aEt)
    intro hg14
    have hs15:=hg14;try simp only [Bool.and_eq_false_iff,decide_eq_false_iff_not] at hs15
    refine dOf 9 52 hg14 ?_
    refine dOf 10 52 hg14 ?_
    refine dOf 11 52 hg14 ?_
    refine dOf 12 52 hg14 ?_
    refine dOf 13 52 hg14 ?_
    refine dOf 14 52 hg14 ?_
    refine dOf 15 52 hg14 ?_
    refine dOf 16 52 hg14 ?_
    refine dOf 17 52 hg14 ?_
    refine dVo 18 50 hg10 rfl rfl rfl (Xn rfl rfl hg14 rfl) ?_
    refine dV 19 rfl (Xn rfl rfl hg10 rfl) ?_
    refine Qy (show _ = Value.bool (decide (((nth L v.i).es.length : Int) < mo / 2) || ((decide (((nth L 0).es.length : Int) = 0) && decide ((v.i : Int) ∈ (nth L 0).cs)) && decide (((nth L v.i).es.length : Int) ≤ rm))) from by congr 1;first | (simp_all;done) | (simp_all;omega)) ?_
    refine dNi ?_
    exact Qt () trivial aSx (fun w h=>h.ent aEt)
   intro _ _
   refine sCd rfl (fun h16=>?_) fun h16=>?_
   ·have hz : Qaj (⟨(j : Int),mo,rm,pln L⟩ : Tre) v = true:=by rw [hG];have hq:=h16;simp only [Bool.and_eq_true,Bool.or_eq_true,decide_eq_true_eq];exact ⟨by omega,hq⟩
    refine aU6 ?_
    exact Qj (rs:=[.tmp 10,.tmp 11]) rfl (.tmp rfl (.tmp rfl (.nil))) (fun w' h'=>⟨(),by rw [hE];simp only [];rw [if_pos hz];rfl,trivial,by rw [hS,if_pos hz];exact h'.ent aEt⟩)
   refine aU ?_
   exact Qt () (by rw [hG,decide_eq_true (by omega),Bool.true_and];apply Bool.eq_false_iff.2;intro h9;simp only [Bool.and_eq_true,Bool.or_eq_true,decide_eq_true_eq] at h9;have hq:=h16;simp at hq h9;grind) aSx (fun w h=>h.ent aEt)
  refine aU ?_
  exact Qt () (by rw [hG,decide_eq_false (by omega)];rfl) aSx (fun w h=>h.ent aEt)
 intro _ hz1
 refine aU9 ?_
 refine Qr (α:=Nat) [10,11,16,68,69,70,71,72,73,74,75,76,77,78,79,80,81,82,83,84,85,86,87,88,89,90,91,92,93,94,95,96,97,98,99,100,101,102,103,104,105,106,107] (fun k=>[(68,.int .i64 (k : Int))]) (fun _=>HS w (fps [.blk c7 3 1 [.int .i64 s]]) [.blk b2 69 3 (nth L 0).vals,.blk b1 69 3 (nth L v.i).vals,.blk c7 3 1 [.int .i64 s]]) (fun k=>k ≤ (nth L v.i).es.length ∧ ∀ i,i < k → Qat (⟨(j : Int),mo,rm,pln L⟩ : Tre) v (nth (nth L v.i).es i) = false) (fun k=>(nth L v.i).es.length - k) 0 ⟨Nat.zero_le _,fun i h=>absurd h (Nat.not_lt_zero i)⟩ aSx (fun w h=>h.ent aEt) (fun k hx=>?_)
 obtain ⟨hk1,hk2⟩:=hx
 refine aU5 ?_
 refine sCd rfl (fun h17=>?_) fun h17=>?_
 ·have hkl : k < (nth L v.i).es.length:=by omega
  refine aU5 ?_
  refine o_p (Qa rfl rfl rfl Q6 (k) (by omega) (by omega) (Rw.some (hs.es hi) (by omega))) rfl ?_
  refine o_q (Qw _ rfl rfl QbX rfl (Rw.rd (hs.es hi) (i:=k) hkl)) rfl ?_
  refine oAl (fun b18 _=>?_) ZV
  refine aU3 ?_
  refine Yo (α:=Unit) [72,73,74,75,76,77,78,79,80,81,82,83,84,85,86,87,88,89,90,91,92,93,94,95,96,97,98,99,100,101,102,103,104,105] (fun _=>[(105,.bool (Qat (⟨(j : Int),mo,rm,pln L⟩ : Tre) v (nth (nth L v.i).es k)))]) (fun _=>HS w (fps [.blk c7 3 1 [.int .i64 s]]) [.blk b2 69 3 (nth L 0).vals,.blk b1 69 3 (nth L v.i).vals,.blk c7 3 1 [.int .i64 s]]) (fun _=>True) ?_ ?_
  ·skip
   refine Qz [] QN ?_
   refine dP 0 ?_
   refine dV 1 rfl (Qck rfl rfl rfl QiI) ?_
   refine dP 2 ?_
   apply Xx 74
   ·exact rfl
   ·intro hg19
    have hs20:=hg19;skip
    refine dQo 3 74 [] hg19 rfl rfl rfl (Qb rfl rfl ZL (hc1)) ?_
    obtain ⟨k9,b9,o9,hlo9,rfl,hr9⟩:=hpl.of_some hg19
    refine dPo 4 74 hg19 ?_
    refine dFo 5 74 hg19 ?_
    refine dFo 6 74 hg19 ?_
    refine dQo 7 74 [] hg19 rfl rfl rfl (Qb rfl rfl Qe1 (ht 5 _ rfl)) ?_
    refine dPo 8 74 hg19 ?_
    refine dPo 9 74 hg19 ?_
    refine dQo 10 74 [] hg19 rfl rfl rfl (Qb rfl rfl Zq (hr9)) ?_
    refine dFo 11 74 hg19 ?_
    refine dQo 12 74 [] hg19 rfl rfl rfl (YB rfl rfl Zq aPk rfl) ?_
    refine dQo 13 74 [] hg19 rfl rfl rfl (YO rfl rfl (Qgp _) rfl (fun w1 h1=>Qbk w1 j k9 (nth (nth L v.i).es k).key hj (hlo _ hlo9).1 (hok _ (Qv hkl)).1 (hlo _ hlo9).2 (hok _ (Qv hkl)).2)) ?_
    refine dPo 14 74 hg19 ?_
    refine dV 15 rfl (Xu rfl rfl hg19 rfl) ?_
    refine Qy (show _ = Value.bool (v.lo.any fun b=>decide (0 ≤ Xm (j : Int) b (nth (nth L v.i).es k).key)) from by congr 1;first | (rw [hlo9];rfl) | (rw [hpl.of_none hg19];rfl)) ?_
    refine dP 16 ?_
    apply Xx 88
    ·exact rfl
    ·intro hg21
     have hs22:=hg21;skip
     refine dOf 17 88 hg21 ?_
     refine dOf 18 88 hg21 ?_
     refine dOf 19 88 hg21 ?_
     refine dOu 20 91 ?_
     refine dOu 21 91 ?_
     refine dOu 22 91 ?_
     refine dOu 23 91 ?_
     refine dOu 24 91 ?_
     refine dOu 25 91 ?_
     refine dOu 26 91 ?_
     refine dOu 27 91 ?_
     refine dOu 28 91 ?_
     refine dOu 29 91 ?_
     refine dOu 30 91 ?_
     refine dOu 31 91 ?_
     refine dOf 32 88 hg21 ?_
     refine dV 33 rfl (Xu rfl rfl hg21 rfl) ?_
     refine Qy (show _ = Value.bool (Qat (⟨(j : Int),mo,rm,pln L⟩ : Tre) v (nth (nth L v.i).es k)) from by congr 1;show _ = ((v.lo.any fun b=>decide (0 ≤ Xm (j : Int) b (nth (nth L v.i).es k).key)) || (v.hi.any fun b=>decide (0 ≤ Xm (j : Int) (nth (nth L v.i).es k).key b)));first | (rw [show (v.lo.any fun b=>decide (0 ≤ Xm (j : Int) b (nth (nth L v.i).es k).key)) = true by assumption];rfl) | (rw [show (v.lo.any fun b=>decide (0 ≤ Xm (j : Int) b (nth (nth L v.i).es k).key)) = false by assumption];rfl)) ?_
     refine dNi ?_
     exact Qt () trivial aSx (fun w h=>h.ent aEt)
    intro hg23
    have hs24:=hg23;skip
    refine dPo 17 88 hg23 ?_
    refine dVo 18 88 hg23 rfl rfl rfl (Qck rfl rfl rfl QiI) ?_
    refine dPo 19 88 hg23 ?_
    apply Xx 91
    ·exact rfl
    ·intro hg25
     have hs26:=hg25;skip
     refine dQo 20 91 [] hg25 rfl rfl rfl (Qb rfl rfl ZL (hc1)) ?_
     obtain ⟨k8,b8,o8,hhi8,rfl,hr8⟩:=hph.of_some hg25
     refine dPo 21 91 hg25 ?_
     refine dFo 22 91 hg25 ?_
     refine dFo 23 91 hg25 ?_
     refine dQo 24 91 [] hg25 rfl rfl rfl (Qb rfl rfl Qe1 (ht 5 _ rfl)) ?_
     refine dFo 25 91 hg25 ?_
     refine dQo 26 91 [] hg25 rfl rfl rfl (YB rfl rfl Zq aPk rfl) ?_
     refine dPo 27 91 hg25 ?_
     refine dPo 28 91 hg25 ?_
     refine dQo 29 91 [] hg25 rfl rfl rfl (Qb rfl rfl Zq (hr8)) ?_
     refine dQo 30 91 [] hg25 rfl rfl rfl (YO rfl rfl (Qgp _) rfl (fun w1 h1=>Qbk w1 j (nth (nth L v.i).es k).key k8 hj (hok _ (Qv hkl)).1 (hhi _ hhi8).1 (hok _ (Qv hkl)).2 (hhi _ hhi8).2)) ?_
     refine dPo 31 91 hg25 ?_
     refine dVo 32 88 hg23 rfl rfl rfl (Xu rfl rfl hg25 rfl) ?_
     refine Qy (show _ = Value.bool (v.hi.any fun b=>decide (0 ≤ Xm (j : Int) (nth (nth L v.i).es k).key b)) from by congr 1;first | (rw [hhi8];rfl) | (rw [hph.of_none hg25];rfl)) ?_
     refine dV 33 rfl (Xn rfl rfl hg23 rfl) ?_
     refine Qy (show _ = Value.bool (Qat (⟨(j : Int),mo,rm,pln L⟩ : Tre) v (nth (nth L v.i).es k)) from by congr 1;show _ = ((v.lo.any fun b=>decide (0 ≤ Xm (j : Int) b (nth (nth L v.i).es k).key)) || (v.hi.any fun b=>decide (0 ≤ Xm (j : Int) (nth (nth L v.i).es k).key b)));first | (rw [show (v.lo.any fun b=>decide (0 ≤ Xm (j : Int) b (nth (nth L v.i).es k).key)) = true by assumption];rfl) | (rw [show (v.lo.any fun b=>decide (0 ≤ Xm (j : Int) b (nth (nth L v.i).es k).key)) = false by assumption];rfl)) ?_
     refine dNi ?_
     exact Qt () trivial aSx (fun w h=>h.ent aEt)
    intro hg27
    have hs28:=hg27;skip
    refine dOf 20 91 hg27 ?_
    refine dOf 21 91 hg27 ?_
    refine dOf 22 91 hg27 ?_
    refine dOf 23 91 hg27 ?_
    refine dOf 24 91 hg27 ?_
    refine dOf 25 91 hg27 ?_
    refine dOf 26 91 hg27 ?_
    refine dOf 27 91 hg27 ?_
    refine dOf 28 91 hg27 ?_
    refine dOf 29 91 hg27 ?_
    refine dOf 30 91 hg27 ?_
    refine dOf 31 91 hg27 ?_
    refine dVo 32 88 hg23 rfl rfl rfl (Xn rfl rfl hg27 rfl) ?_
    refine Qy (show _ = Value.bool (v.hi.any fun b=>decide (0 ≤ Xm (j : Int) (nth (nth L v.i).es k).key b)) from by congr 1;first | (rw [hhi8];rfl) | (rw [hph.of_none hg27];rfl)) ?_
    refine dV 33 rfl (Xn rfl rfl hg23 rfl) ?_
    refine Qy (show _ = Value.bool (Qat (⟨(j : Int),mo,rm,pln L⟩ : Tre) v (nth (nth L v.i).es k)) from by congr 1;show _ = ((v.lo.any fun b=>decide (0 ≤ Xm (j : Int) b (nth (nth L v.i).es k).key)) || (v.hi.any fun b=>decide (0 ≤ Xm (j : Int) (nth (nth L v.i).es k).key b)));first | (rw [show (v.lo.any fun b=>decide (0 ≤ Xm (j : Int) b (nth (nth L v.i).es k).key)) = true by assumption];rfl) | (rw [show (v.lo.any fun b=>decide (0 ≤ Xm (j : Int) b (nth (nth L v.i).es k).key)) = false by assumption];rfl)) ?_
    refine dNi ?_
    exact Qt () trivial aSx (fun w h=>h.ent aEt)
   intro hg29
   have hs30:=hg29;skip
   refine dOf 3 74 hg29 ?_
   refine dOf 4 74 hg29 ?_
   refine dOf 5 74 hg29 ?_
   refine dOf 6 74 hg29 ?_
   refine dOf 7 74 hg29 ?_
   refine dOf 8 74 hg29 ?_
   refine dOf 9 74 hg29 ?_
   refine dOf 10 74 hg29 ?_
   refine dOf 11 74 hg29 ?_
   refine dOf 12 74 hg29 ?_
   refine dOf 13 74 hg29 ?_
   refine dOf 14 74 hg29 ?_
   refine dV 15 rfl (Xn rfl rfl hg29 rfl) ?_
   refine Qy (show _ = Value.bool (v.lo.any fun b=>decide (0 ≤ Xm (j : Int) b (nth (nth L v.i).es k).key)) from by congr 1;first | (rw [hlo9];rfl) | (rw [hpl.of_none hg29];rfl)) ?_
   refine dP 16 ?_
   apply Xx 88
   ·exact rfl
   ·intro hg31
    have hs32:=hg31;skip
    refine dOf 17 88 hg31 ?_
    refine dOf 18 88 hg31 ?_
    refine dOf 19 88 hg31 ?_
    refine dOu 20 91 ?_
    refine dOu 21 91 ?_
    refine dOu 22 91 ?_
    refine dOu 23 91 ?_
    refine dOu 24 91 ?_
    refine dOu 25 91 ?_
    refine dOu 26 91 ?_
    refine dOu 27 91 ?_
    refine dOu 28 91 ?_
    refine dOu 29 91 ?_
    refine dOu 30 91 ?_
    refine dOu 31 91 ?_
    refine dOf 32 88 hg31 ?_
    refine dV 33 rfl (Xu rfl rfl hg31 rfl) ?_
    refine Qy (show _ = Value.bool (Qat (⟨(j : Int),mo,rm,pln L⟩ : Tre) v (nth (nth L v.i).es k)) from by congr 1;show _ = ((v.lo.any fun b=>decide (0 ≤ Xm (j : Int) b (nth (nth L v.i).es k).key)) || (v.hi.any fun b=>decide (0 ≤ Xm (j : Int) (nth (nth L v.i).es k).key b)));first | (rw [show (v.lo.any fun b=>decide (0 ≤ Xm (j : Int) b (nth (nth L v.i).es k).key)) = true by assumption];rfl) | (rw [show (v.lo.any fun b=>decide (0 ≤ Xm (j : Int) b (nth (nth L v.i).es k).key)) = false by assumption];rfl)) ?_
    refine dNi ?_
    exact Qt () trivial aSx (fun w h=>h.ent aEt)
   intro hg33
   have hs34:=hg33;skip
   refine dPo 17 88 hg33 ?_
   refine dVo 18 88 hg33 rfl rfl rfl (Qck rfl rfl rfl QiI) ?_
   refine dPo 19 88 hg33 ?_
   apply Xx 91
   ·exact rfl
   ·intro hg35
    have hs36:=hg35;skip
    refine dQo 20 91 [] hg35 rfl rfl rfl (Qb rfl rfl ZL (hc1)) ?_
    obtain ⟨k8,b8,o8,hhi8,rfl,hr8⟩:=hph.of_some hg35
    refine dPo 21 91 hg35 ?_
    refine dFo 22 91 hg35 ?_
    refine dFo 23 91 hg35 ?_
    refine dQo 24 91 [] hg35 rfl rfl rfl (Qb rfl rfl Qe1 (ht 5 _ rfl)) ?_
    refine dFo 25 91 hg35 ?_
    refine dQo 26 91 [] hg35 rfl rfl rfl (YB rfl rfl Zq aPk rfl) ?_
    refine dPo 27 91 hg35 ?_
    refine dPo 28 91 hg35 ?_
    refine dQo 29 91 [] hg35 rfl rfl rfl (Qb rfl rfl Zq (hr8)) ?_
    refine dQo 30 91 [] hg35 rfl rfl rfl (YO rfl rfl (Qgp _) rfl (fun w1 h1=>Qbk w1 j (nth (nth L v.i).es k).key k8 hj (hok _ (Qv hkl)).1 (hhi _ hhi8).1 (hok _ (Qv hkl)).2 (hhi _ hhi8).2)) ?_
    refine dPo 31 91 hg35 ?_
    refine dVo 32 88 hg33 rfl rfl rfl (Xu rfl rfl hg35 rfl) ?_
    refine Qy (show _ = Value.bool (v.hi.any fun b=>decide (0 ≤ Xm (j : Int) (nth (nth L v.i).es k).key b)) from by congr 1;first | (rw [hhi8];rfl) | (rw [hph.of_none hg35];rfl)) ?_
    refine dV 33 rfl (Xn rfl rfl hg33 rfl) ?_
    refine Qy (show _ = Value.bool (Qat (⟨(j : Int),mo,rm,pln L⟩ : Tre) v (nth (nth L v.i).es k)) from by congr 1;show _ = ((v.lo.any fun b=>decide (0 ≤ Xm (j : Int) b (nth (nth L v.i).es k).key)) || (v.hi.any fun b=>decide (0 ≤ Xm (j : Int) (nth (nth L v.i).es k).key b)));first | (rw [show (v.lo.any fun b=>decide (0 ≤ Xm (j : Int) b (nth (nth L v.i).es k).key)) = true by assumption];rfl) | (rw [show (v.lo.any fun b=>decide (0 ≤ Xm (j : Int) b (nth (nth L v.i).es k).key)) = false by assumption];rfl)) ?_
    refine dNi ?_
    exact Qt () trivial aSx (fun w h=>h.ent aEt)
   intro hg37
   have hs38:=hg37;skip
   refine dOf 20 91 hg37 ?_
   refine dOf 21 91 hg37 ?_
   refine dOf 22 91 hg37 ?_
   refine dOf 23 91 hg37 ?_
   refine dOf 24 91 hg37 ?_
   refine dOf 25 91 hg37 ?_
   refine dOf 26 91 hg37 ?_
   refine dOf 27 91 hg37 ?_
   refine dOf 28 91 hg37 ?_
   refine dOf 29 91 hg37 ?_
   refine dOf 30 91 hg37 ?_
   refine dOf 31 91 hg37 ?_
   refine dVo 32 88 hg33 rfl rfl rfl (Xn rfl rfl hg37 rfl) ?_
   refine Qy (show _ = Value.bool (v.hi.any fun b=>decide (0 ≤ Xm (j : Int) (nth (nth L v.i).es k).key b)) from by congr 1;first | (rw [hhi8];rfl) | (rw [hph.of_none hg37];rfl)) ?_
   refine dV 33 rfl (Xn rfl rfl hg33 rfl) ?_
   refine Qy (show _ = Value.bool (Qat (⟨(j : Int),mo,rm,pln L⟩ : Tre) v (nth (nth L v.i).es k)) from by congr 1;show _ = ((v.lo.any fun b=>decide (0 ≤ Xm (j : Int) b (nth (nth L v.i).es k).key)) || (v.hi.any fun b=>decide (0 ≤ Xm (j : Int) (nth (nth L v.i).es k).key b)));first | (rw [show (v.lo.any fun b=>decide (0 ≤ Xm (j : Int) b (nth (nth L v.i).es k).key)) = true by assumption];rfl) | (rw [show (v.lo.any fun b=>decide (0 ≤ Xm (j : Int) b (nth (nth L v.i).es k).key)) = false by assumption];rfl)) ?_
   refine dNi ?_
   exact Qt () trivial aSx (fun w h=>h.ent aEt)
  intro _ _
  refine sCd rfl (fun h39=>?_) fun h39=>?_
  ·have hz2 : ZI (⟨(j : Int),mo,rm,pln L⟩ : Tre) v = true:=by rw [hO,List.any_eq_true];exact ⟨_,Qv hkl,h39⟩
   refine aU6 ?_
   exact Qj (rs:=[.tmp 10,.tmp 11]) rfl (.tmp rfl (.tmp rfl (.nil))) (fun w' h'=>⟨(),by rw [hE];simp only [];rw [if_neg (by rw [hz1];decide),if_pos hz2];rfl,trivial,by rw [hS,if_neg (by rw [hz1];decide),if_pos hz2];exact h'.ent aEt⟩)
  refine aT4 ?_
  refine aU2 ?_
  exact sBk (k + 1) (by omega) ⟨by omega,fun i hi9=>(Nat.lt_or_ge i k).elim (hk2 i) (fun h=>by obtain rfl : i = k:=(by omega);have hq:=h39;simpa using hq)⟩
 obtain rfl : k = (nth L v.i).es.length:=by omega
 have hz2 : ZI (⟨(j : Int),mo,rm,pln L⟩ : Tre) v = false:=by rw [hO,List.any_eq_false];intro x hx;obtain ⟨i9,hi9,e9⟩:=List.getElem_of_mem hx;have e8 : nth (nth L v.i).es i9 = x:=Y2 (by rw [List.getElem?_eq_getElem hi9,e9]);rw [← e8,hk2 i9 hi9];decide
 refine Qi rfl ?_
 refine aU8 ?_
 refine sCd rfl (fun h40=>?_) fun h40=>?_
 ·have hc9 : (nth L v.i).cs.length = 0:=by have hq:=h40;omega
  have hEv : erV (⟨(j : Int),mo,rm,pln L⟩ : Tre) s v = ((v.i : Int),if (if s = 0 then v.d else s) = v.d then 0 else 22):=by rw [hE,if_neg (by rw [hz1];decide),if_neg (by rw [hz2];decide),if_pos hc9]
  refine aU6 ?_
  refine Yo (α:=Unit) [114] (fun _=>[]) (fun _=>HS w (fps [.blk c7 3 1 [.int .i64 s]]) [.blk b2 69 3 (nth L 0).vals,.blk b1 69 3 (nth L v.i).vals,.blk c7 3 1 [.int .i64 (if s = 0 then v.d else s)]]) (fun _=>True) ?_ ?_
  ·skip
   refine sCd rfl (fun h41=>?_) fun h41=>?_
   ·refine aU4 ?_
    exact Qt () trivial aSx (fun w h=>by rw [if_pos h41];exact h.ent aEt)
   refine aU ?_
   exact Qt () trivial aSx (fun w h=>by rw [if_neg h41];exact h.ent aEt)
  intro _ _
  refine aU6 ?_
  refine oCq rfl (fun w1 h1=>Qer w1 _ _) ?_
  refine aU3 ?_
  exact Qj (rs:=[.tmp 10,.tmp 11]) rfl (.tmp rfl (.tmp rfl (.nil))) (fun w' h'=>⟨(),by rw [hEv];simp only [QW,cond_eq_ite,decide_eq_true_eq],trivial,by rw [hS,if_neg (by rw [hz1];decide),if_neg (by rw [hz2];decide),if_pos hc9];exact h'.ent aEt⟩)
 have hc9 : ¬ (nth L v.i).cs.length = 0:=by have hq:=h40;omega
 refine aU7 ?_
 exact Qj (rs:=[.tmp 10,.tmp 11]) rfl (.tmp rfl (.tmp rfl (.nil))) (fun w' h'=>⟨(),by rw [hE];simp only [];rw [if_neg (by rw [hz1];decide),if_neg (by rw [hz2];decide),if_neg hc9];rfl,trivial,by rw [hS,if_neg (by rw [hz1];decide),if_neg (by rw [hz2];decide),if_neg hc9];exact h'.ent aEt⟩)
theorem Qvz : QS Tryz.prog 4 = some [.bool false]:=by kernel_rfl
theorem Qva : QS Tryz.prog 102 = some [.slice none 0 0]:=by kernel_rfl
theorem c200 (w : World) (bt : Nat) (j : Nat) (mo rm : Int) (a : Option Addr) (cap : Nat) (L : List LNd) (ht : TbR w [] bt (j : Int) mo rm a L.length cap) (hs : Nt w [] a L) (hj : j ≤ 3) (hmo : 0 ≤ mo ∧ mo ≤ 1000) (h0 : 0 < L.length) (hB : Bd (pln L)) (hT : TOk (j : Int) (pln L)) : Calls Tryz.prog 200 #[.pointer (some ⟨bt,0,none⟩)] w fun en w'=>en = .returned (.tuple #[.int .i64 (QbZ (⟨(j : Int),mo,rm,pln L⟩ : Tre)).1,.int .i64 (QbZ (⟨(j : Int),mo,rm,pln L⟩ : Tre)).2]) ∧ Below w.heap.size w w':=by
 have hle:=hB.len
 rw [Qe] at hle
 have hvis : vis (pln L) L.length Qcd = YT (pln L):=by unfold YT;rw [Qe]
 have hmar:=Qny (YT (pln L)) (List.replicate L.length false)
 rw [List.length_replicate] at hmar
 have hbel : ∀ i,i < L.length → (XJ Qhu (fun _ _=>(0,0)) (List.replicate L.length false) (YT (pln L))).2.getD i false = decide (i ∈ (YT (pln L)).map Vis.i):=fun i hi=>by rw [hmar.2.2 i hi,show (List.replicate L.length false).getD i false = false from by rw [List.getD_eq_getElem?_getD,List.getElem?_replicate];split <;> rfl,Bool.false_or]
 have hes9 : ∀ i,i < L.length → (nth L i).es.length ≤ 1000:=fun i hi=>by have h9:=hB.es i (by rw [Qe];exact hi);rw [Q0 hi] at h9;exact h9
 have hcs9 : ∀ i,i < L.length → (nth L i).cs.length ≤ 1000:=fun i hi=>by have h9:=hB.cs i (by rw [Qe];exact hi);rw [Q0 hi] at h9;exact h9
 have hok9 : ∀ i,i < L.length → ∀ x ∈ (nth L i).es,QU (j : Int) x.key = true ∧ x.key.length ≤ 1000000:=fun i hi=>by have h9:=Qek hT (i:=i) (by rw [Qe];exact hi);rw [Q0 hi] at h9;exact h9
 refine eN1 Tryz.func200 Tryz.ntmps200 ?_
 refine aU2 ?_
 refine oBx fun b1 _=>?_
 refine aU9 ?_
 refine o_q (Qb rfl rfl Qb4 (ht 3 _ rfl)) rfl ?_
 refine aU ?_
 refine o_h (Qe4 (n:=L.length) rfl rfl rfl Qby Qvz (by omega) (by omega)) rfl (fun b2 _=>?_)
 refine XA (fun w h=>(show HS _ _ [.blk b2 4 L.length ((List.replicate L.length false).map Value.bool),.blk b1 158 1 [.pointer (some ⟨bt,0,none⟩)]] w from by have h9:=h;rw [Nat.mul_one,Qcc,← List.map_replicate] at h9;exact h9.ent aEt)) ?_
 refine oAl (fun b3 _=>?_) Qva
 refine aU6 ?_
 refine o_h (QX (Cs:=[.blk b2 4 L.length ((List.replicate L.length false).map Value.bool)]) rfl QlB rfl aPs (fun w1 h1 hf=>by have h9:=QlF (List Bool) (fun s=>s.length = L.length) (fun s=>.blk b2 4 L.length (s.map Value.bool)) Qhu (fun _ _=>(0,0)) 236 #[.pointer (some ⟨b3,0,none⟩)] bt j mo rm a cap L L.length w1 (List.replicate L.length false) Qcd none none [] hf (by kernel_rfl) (fun _ _=>rfl) (fun s v h=>by simpa [Qhu] using h) (by simp) (fun s2 v2 p2 p3 w2 h2 hs2 hi2 _ _ _ _=>c236 w2 v2.i v2.d p2 p3 b3 b2 L.length s2 (HS.focus (Cs:=[_]) (Ds:=[]) h2) (h2.keep (h1.rd_blkF aPs (b:=b3) aPk rfl)) hi2 hs2) ((ht.keep h1).mono (Q9 aPs)) ((hs.keep h1).mono (Q9 aPs)) hT hB rfl rfl h0 rfl (by simp) rfl (fun _ h=>by cases h) (fun _ h=>by cases h);rw [hvis] at h9;exact h9)) rfl (fun _ _=>?_)
 refine aU3 ?_
 refine XA (fun w h=>(show HS _ _ [.blk b2 4 L.length ((XJ Qhu (fun _ _=>(0,0)) (List.replicate L.length false) (YT (pln L))).2.map Value.bool),.blk b3 102 1 [.slice (some ⟨b2,0,none⟩) L.length L.length],.blk b1 158 1 [.pointer (some ⟨bt,0,none⟩)]] w from h.ent aEt)) ?_
 refine aU8 ?_
 refine o_q (Qb rfl rfl Qb4 (ht 3 _ rfl)) rfl ?_
 refine aU4 ?_
 refine Ql (L':=[(1,_),(2,_),(3,_),(4,_),(25,_),(26,_),(27,_)]) aSx (fun _ h=>h) ?_
 refine Qr (α:=Nat) [2,3,5,6,27,28,29,30,31,32,33,34,35,36,37,38,39,40,41,42] (fun k=>[(27,.int .i64 (k : Int))]) (fun _=>HS w [] [.blk b2 4 L.length ((XJ Qhu (fun _ _=>(0,0)) (List.replicate L.length false) (YT (pln L))).2.map Value.bool),.blk b3 102 1 [.slice (some ⟨b2,0,none⟩) L.length L.length],.blk b1 158 1 [.pointer (some ⟨bt,0,none⟩)]]) (fun k=>k ≤ L.length ∧ Qas (pln L) ((YT (pln L)).map Vis.i) L.length 0 = Qas (pln L) ((YT (pln L)).map Vis.i) (L.length - k) k) (fun k=>L.length - k) 0 ⟨Nat.zero_le _,rfl⟩ aSx (fun w h=>h.ent aEt) (fun k hx=>?_)
 obtain ⟨hk1,hk2⟩:=hx
 refine aU5 ?_
 refine sCd rfl (fun h4=>?_) fun h4=>?_
 ·have hkl : k < L.length:=by omega
  have hst:=Qh9 (ns:=pln L) (below:=(YT (pln L)).map Vis.i) (k:=k) (by rw [Qe];exact hkl)
  rw [Qe,Q0 hkl] at hst
  refine aU6 ?_
  refine o_p (Qa rfl rfl rfl Q3 (k) (by omega) (by omega) (Rw.some hs.1 (by omega))) rfl ?_
  refine o_q (Qw _ rfl rfl XC rfl (Rw.rd hs.1 hkl)) rfl ?_
  refine oAl (fun b5 _=>?_) Xq
  refine aU8 ?_
  refine Yq 6 34 40 rfl
   (fun hg6 _=>by
    refine aU5 ?_
    refine o_p (Qa rfl rfl rfl Qby (k) (by omega) (by omega) rfl) rfl ?_
    refine aU ?_
    refine o_q (XZ rfl rfl QeZ (fun w h=>by rw [Nat.zero_add,Nat.mul_one];exact h.rd_blk (Mc:=[]) (b:=b2) aPk (Qso (by rw [hmar.2.1];exact hkl)) (by simp))) rfl ?_
    refine aU2 ?_
    exact oJt 6 40)
   (fun hg8 _=>by
    refine aU5 ?_
    exact oJf 6 40) ?_
  refine aU ?_
  refine sCd rfl (fun h10=>?_) fun h10=>?_
  ·have hz : (nth L k).pl.us = true ∧ k ∉ (YT (pln L)).map Vis.i:=by have hq:=h10;rw [hbel k hkl] at hq;simp only [LNd.pl];simpa using hq
   refine aU6 ?_
   exact Qj (rs:=[.tmp 2,.tmp 3]) rfl (.tmp rfl (.tmp rfl (.nil))) (fun w' h'=>⟨by rw [Qdx (t:=(⟨(j : Int),mo,rm,pln L⟩ : Tre)) (i:=k) (show Qas (pln L) _ (pln L).length 0 = some k from by rw [Qe,hk2,hst,if_pos hz])];rfl,h'.below⟩)
  have hz : ¬ ((nth L k).pl.us = true ∧ k ∉ (YT (pln L)).map Vis.i):=by have hq:=h10;rw [hbel k hkl] at hq;simp only [LNd.pl];intro h9;simp at hq h9;grind
  refine aT4 ?_
  refine aU2 ?_
  exact sBk (k + 1) (by omega) ⟨by omega,by rw [hk2,hst,if_neg hz]⟩
 have hnone : Qas (pln L) ((YT (pln L)).map Vis.i) L.length 0 = none:=by rw [hk2,show L.length - k = 0 by omega];rfl
 refine Qi rfl ?_
 refine aU2 ?_
 refine oAl (fun b11 _=>?_) Qew
 refine aU6 ?_
 refine o_h (QX (Cs:=[.blk b11 3 1 [.int .i64 0]]) rfl QlB rfl aPs (fun w1 h1 hf=>by have h9:=QlF Int (fun _=>True) (fun s=>.blk b11 3 1 [.int .i64 s]) (stV (⟨(j : Int),mo,rm,pln L⟩ : Tre)) (erV (⟨(j : Int),mo,rm,pln L⟩ : Tre)) 237 #[.pointer (some ⟨b1,0,none⟩),.pointer (some ⟨b11,0,none⟩)] bt j mo rm a cap L L.length w1 0 Qcd none none [] hf (by kernel_rfl) (fun _ _=>rfl) (fun _ _ _=>trivial) trivial (fun s2 v2 p2 p3 w2 h2 _ hi2 ha2 hb2 hp2 hp3=>c237 w2 v2 p2 p3 b1 b11 s2 bt j mo rm a cap L (HS.focus (Cs:=[_]) (Ds:=[]) h2) (h2.keep (h1.rd_blkF aPs (b:=b1) aPk rfl)) (((ht.keep h1).mono (Q9 aPs)).keep h2) (((hs.keep h1).mono (Q9 aPs)).keep h2) hj hmo hi2 hle (hes9 _ hi2) (hcs9 _ hi2) (hcs9 _ h0) (hes9 _ h0) hp2 hp3 ha2 hb2 (hok9 _ hi2)) ((ht.keep h1).mono (Q9 aPs)) ((hs.keep h1).mono (Q9 aPs)) hT hB rfl rfl h0 rfl (by simp) rfl (fun _ h=>by cases h) (fun _ h=>by cases h);rw [hvis,Gx.run_shape (t:=(⟨(j : Int),mo,rm,pln L⟩ : Tre)) hT (by show 0 < (pln L).length;rw [Qe];exact h0)] at h9;exact h9)) rfl (fun _ _=>?_)
 refine aU5 ?_
 exact Qj (rs:=[.tmp 2,.tmp 3]) rfl (.tmp rfl (.tmp rfl (.nil))) (fun w' h'=>⟨by rw [QdA (t:=(⟨(j : Int),mo,rm,pln L⟩ : Tre)) (show Qas (pln L) _ (pln L).length 0 = none from by rw [Qe];exact hnone)];rfl,h'.below⟩)
theorem Qwu : YY Tryz.prog 166 = some [(0,4),(4,2)]:=by kernel_rfl
theorem QuT : QS Tryz.prog 166 = some [.int .i64 0,.int .i64 0,.int .i64 0,.slice none 0 0,.nilFunc,.nilFunc]:=by kernel_rfl
theorem Qwt : QK Tryz.prog 199 = true:=by kernel_rfl
instance : TFn Tryz.prog 200:=⟨by kernel_rfl⟩
theorem c140 (w : World) (co mo rm : Int) (a : Option Addr) (cap : Nat) (L : List LNd) (hs : Nt w [] a L) (hB : Bd (pln L)) (hkl : ∀ i,i < L.length → ∀ x ∈ (nth L i).es,x.key.length ≤ 1000000) : Calls Tryz.prog 140 #[.agg #[.int .i64 co,.int .i64 mo,.int .i64 rm,.slice a L.length cap]] w fun en w'=>en = .returned (.tuple #[.int .i64 (Yx (⟨co,mo,rm,pln L⟩ : Tre)).1,.int .i64 (Yx (⟨co,mo,rm,pln L⟩ : Tre)).2]) ∧ Below w.heap.size w w':=by
 have hle:=hB.len
 rw [Qe] at hle
 have hes9 : ∀ i,i < L.length → (nth L i).es.length ≤ 1000:=fun i hi=>by have h9:=hB.es i (by rw [Qe];exact hi);rw [Q0 hi] at h9;exact h9
 have hcs9 : ∀ i,i < L.length → (nth L i).cs.length ≤ 1000:=fun i hi=>by have h9:=hB.cs i (by rw [Qe];exact hi);rw [Q0 hi] at h9;exact h9
 refine eN1 Tryz.func140 Tryz.ntmps140 ?_
 refine aU2 ?_
 refine oBx fun b1 _=>?_
 refine Qbn ?_
 refine oCq rfl (fun w1 h1=>c155 w1 _ _ _) ?_
 refine aU7 ?_
 refine sCd rfl (fun h2=>?_) fun h2=>?_
 ·have hz:=Qc2 (t:=(⟨co,mo,rm,pln L⟩ : Tre)) h2
  refine aU6 ?_
  exact Qj (rs:=[.tmp 2,.tmp 3]) rfl (.tmp rfl (.tmp rfl (.nil))) (fun w' h'=>⟨by rw [hz];rfl,h'.below⟩)
 have hc0 : (if Qs co = 0 then XG mo rm else Qs co) = 0:=h2
 obtain ⟨hco,hsz⟩:=QiL (t:=(⟨co,mo,rm,pln L⟩ : Tre)) hc0
 obtain ⟨j,rfl,hj⟩:=Qjk hco
 have hsz2 : (3 ≤ mo ∧ mo ≤ 8) ∧ (mo / 2 ≤ rm ∧ rm ≤ mo):=Qrn hsz
 refine aU3 ?_
 refine Qz [] QN ?_
 refine dFa 0 ?_
 refine dLd 1 [] ?_
 refine dV 2 rfl (QR rfl rfl Tryz.underlying35) ?_
 refine dP 3 ?_
 refine dQ 4 [] rfl (Qq rfl QbB rfl (fun w1 h1=>Qer w1 _ _)) ?_
 refine dFa 5 ?_
 refine dLd 6 [] ?_
 refine dV 7 rfl (QR rfl rfl Tryz.underlying35) ?_
 refine dP 8 ?_
 refine dQ 9 [] rfl (Qq rfl QbB rfl (fun w1 h1=>Qer w1 _ _)) ?_
 refine dH 10 rfl (Qm (cs:=[_,_]) rfl rfl YK QaE rfl rfl rfl) (fun b3 _=>?_)
 refine dBa ?_
 refine dQ 11 [] rfl (Qq rfl Qho rfl (fun w1 h1=>Qom h1 aPk (by rfl) (by rfl) (by decide))) ?_
 refine Qy (show _ = Value.int .i64 (Zi L.length) from by congr 1;rw [Qbx];unfold Zi;simp only [cond_eq_ite,decide_eq_true_eq];first | (split <;> (try split) <;> (try split) <;> (try split) <;> first | rfl | omega)) ?_
 refine dP 12 ?_
 refine dNi ?_
 refine aU5 ?_
 refine sCd rfl (fun h4=>?_) fun h4=>?_
 ·have hz:=QdZ (t:=(⟨(j : Int),mo,rm,pln L⟩ : Tre)) hc0 (by rw [show ((⟨(j : Int),mo,rm,pln L⟩ : Tre)).ns.length = L.length from Qe L];exact h4)
  rw [show ((⟨(j : Int),mo,rm,pln L⟩ : Tre)).ns.length = L.length from Qe L] at hz
  refine aU6 ?_
  exact Qj (rs:=[.tmp 2,.tmp 3]) rfl (.tmp rfl (.tmp rfl (.nil))) (fun w' h'=>⟨by rw [hz];rfl,h'.below⟩)
 have hc1 : Zi L.length = 0:=h4
 have hz:=Qe8 (t:=(⟨(j : Int),mo,rm,pln L⟩ : Tre)) hc0 (by rw [show ((⟨(j : Int),mo,rm,pln L⟩ : Tre)).ns.length = L.length from Qe L];exact hc1)
 rw [show ((⟨(j : Int),mo,rm,pln L⟩ : Tre)).ns.length = L.length from Qe L] at hz
 obtain ⟨h00,h120⟩:=Ql9 hc1
 refine aU2 ?_
 refine Ql (L':=[(1,_),(2,_),(3,_)]) aSx (fun _ h=>h) ?_
 refine Yo (α:=Nat × Nat) [6,7,37,38,39,40,41,42,43,44] (fun x=>[(6,.pointer (some ⟨x.1,0,none⟩)),(7,.map (some x.2))]) (fun x=>HS w [] [.blk b1 37 4 [.int .i64 (j : Int),.int .i64 mo,.int .i64 rm,.slice a L.length cap],.blk x.1 166 6 (tbV (j : Int) mo rm a L.length cap),.mp x.2 KI []]) (fun _=>True) ?_ ?_
 ·skip
  refine Qz [] QN ?_
  refine dLn 0 [] ?_
  refine dQ 1 [] rfl (Qq rfl Qrm rfl (fun w1 h1=>QwG w1)) ?_
  refine dFa 2 ?_
  refine dLd 3 [] ?_
  refine dV 4 rfl (QeH rfl rfl rfl QiT Qi0 j rfl (by omega)) ?_
  refine Qy (Qhi j hj) ?_
  refine dV 5 rfl (QD (cs:=[_,_,_,_,_,_]) rfl rfl Qwu QuT rfl) ?_
  refine QxJ 6 7 rfl rfl  (Qne rfl rfl) (QcK rfl KI) (by kernel_rfl) (fun w h=>h.ent aEt) rfl rfl  (fun b5 _=>?_) (fun b6 _=>?_)
  ·skip
   refine dBa ?_
   refine dP 8 ?_
   refine dH 7 rfl (QcK rfl KI) (fun b7 _=>?_)
   refine dBa ?_
   refine dP 9 ?_
   refine dNi ?_
   exact Qt (b5,b7) trivial aSx (fun w h=>h.ent aEt)
  skip
  refine dBa ?_
  refine dH 6 rfl (Qne rfl rfl) (fun b8 _=>?_)
  refine dBa ?_
  refine dP 8 ?_
  refine dP 9 ?_
  refine dNi ?_
  exact Qt (b8,b6) trivial aSx (fun w h=>h.ent aEt)
 intro ⟨bt,r⟩ _
 refine aU9 ?_
 refine Qr (α:=Nat × List Int × List Int) [2,3,8,9,48,49,50,51,52,53,54,55,56,57,58,59] (fun x=>[(48,.int .i64 (x.1 : Int))]) (fun x=>HS w [] [.blk b1 37 4 [.int .i64 (j : Int),.int .i64 mo,.int .i64 rm,.slice a L.length cap],.blk bt 166 6 (tbV (j : Int) mo rm a L.length cap),.mp r KI x.2.1]) (fun x=>x.1 ≤ L.length ∧ (∀ y,y ∈ x.2.1 ↔ y ∈ x.2.2) ∧ (X5 (⟨(j : Int),mo,rm,pln L⟩ : Tre) L.length 0 []) = X5 (⟨(j : Int),mo,rm,pln L⟩ : Tre) (L.length - x.1) x.1 x.2.2) (fun x=>L.length - x.1) (0,[],[]) ⟨Nat.zero_le _,fun _=>Iff.rfl,rfl⟩ aSx (fun w h=>h.ent aEt) (fun ⟨k,K,S9⟩ hx=>?_)
 dsimp only
 obtain ⟨hk1,hk2,hk3⟩:=hx
 simp only [] at hk1 hk2 hk3
 refine aU5 ?_
 refine sCd rfl (fun h9=>?_) fun h9=>?_
 ·have hkl9 : k < L.length:=by omega
  have hst:=QgJ (t:=(⟨(j : Int),mo,rm,pln L⟩ : Tre)) (k:=k) (seen:=S9) (by rw [show ((⟨(j : Int),mo,rm,pln L⟩ : Tre)).ns.length = L.length from Qe L];exact hkl9)
  rw [show ((⟨(j : Int),mo,rm,pln L⟩ : Tre)).ns.length = L.length from Qe L] at hst
  refine Qcb ?_
  refine o_h (QX (Cs:=[.mp r KI K]) rfl Qwt rfl aPs (fun w1 h1 hf=>c199 w1 k r K S9 bt j mo rm a cap L hf hk2 (fun k9 v9 hv9=>h1.rd_blkF aPs (b:=bt) aPk hv9) ((hs.keep h1).mono (Q9 aPs)) hle hj hkl9 (hes9 _ hkl9) (hcs9 _ hkl9) (hkl _ hkl9))) rfl (fun b10 hkG=>?_)
  refine aU7 ?_
  refine sCd rfl (fun h11=>?_) fun h11=>?_
  ·have hz3 : (X5 (⟨(j : Int),mo,rm,pln L⟩ : Tre) L.length 0 []) = ((k : Int),(XS (⟨(j : Int),mo,rm,pln L⟩ : Tre) k S9).1):=by rw [hk3,hst,if_neg h11]
   rw [hz3,if_neg (show ¬ (((k : Int),(XS (⟨(j : Int),mo,rm,pln L⟩ : Tre) k S9).1) : Int × Int).2 = 0 from h11)] at hz
   refine aU7 ?_
   exact Qj (rs:=[.tmp 2,.tmp 3]) rfl (.tmp rfl (.tmp rfl (.nil))) (fun w' h'=>⟨by rw [hz];rfl,h'.below⟩)
  have hz3 : X5 (⟨(j : Int),mo,rm,pln L⟩ : Tre) (L.length - k) k S9 = X5 (⟨(j : Int),mo,rm,pln L⟩ : Tre) (L.length - (k + 1)) (k + 1) (XS (⟨(j : Int),mo,rm,pln L⟩ : Tre) k S9).2:=by rw [hst,if_pos h11]
  refine aT4 ?_
  refine aU2 ?_
  exact sBk (k + 1,b10,(XS (⟨(j : Int),mo,rm,pln L⟩ : Tre) k S9).2) (by (try simp only []);omega) ⟨by (try simp only []);omega,hkG,by simp only [];rw [hk3,hz3]⟩
 have hnd : (X5 (⟨(j : Int),mo,rm,pln L⟩ : Tre) L.length 0 []) = (0,0):=by rw [hk3,show L.length - k = 0 by omega];rfl
 rw [hnd,if_pos rfl] at hz
 have hT : TOk (j : Int) (pln L):=Qha (t:=(⟨(j : Int),mo,rm,pln L⟩ : Tre)) (by show (X5 (⟨(j : Int),mo,rm,pln L⟩ : Tre) (pln L).length 0 []).2 = 0;rw [Qe,hnd])
 refine Qi rfl ?_
 refine aU3 ?_
 refine oCq rfl (fun w1 h1=>c200 w1 bt j mo rm a cap L (HS.tbr h1 aPk) (hs.later h1) hj (by omega) h00 hB hT) ?_
 refine Qbn ?_
 refine Yo (α:=Unit) [10] (fun _=>[(10,.int .i64 (Yx (⟨(j : Int),mo,rm,pln L⟩ : Tre)).1)]) (fun _=>HS w [] []) (fun _=>True) ?_ ?_
 ·skip
  refine sCd rfl (fun h12=>?_) fun h12=>?_
  ·refine aU3 ?_
   exact Qt () trivial (by rw [hz,QmS h12];exact aSx) (fun w h=>h.ent aEt)
  refine aU ?_
  exact Qt () trivial (by rw [hz];exact aSx) (fun w h=>h.ent aEt)
 intro _ _
 refine aU7 ?_
 exact Qj (rs:=[.tmp 2,.tmp 3]) rfl (.tmp rfl (.tmp rfl (.nil))) (fun w' h'=>⟨by simp only [QW];rw [hz],h'.below⟩)
end Go.Proofs
