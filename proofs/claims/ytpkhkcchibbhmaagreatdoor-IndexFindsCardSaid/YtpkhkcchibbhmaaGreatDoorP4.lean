/- Contracts of the program's functions, proved by walking them with the rules of the Gx texts; without conditions beyond those that each contract names. -/
import Derived.WalkKit
import Derived.Deep.Draws
import Derived.TacticsIn
import Derived.OrdersIn
import Derived.RangeFuncLeaves
import Derived.Lib.Strings
import Derived.Laws.BytesArg
import Derived.Laws.IdiomStrings
import Derived.Deep.Quiet
import Derived.ProofKit
import Derived.OpenShut
import Derived.Laws.StructEq
import Derived.ChangeKeysEq
import Derived.Laws.Externs
import Derived.Lib.Overlaps
import Derived.Carry
import Derived.Laws.Small
import Derived.Lib.Bytealg
import Derived.Lib.Builder
import Derived.Laws.Pointers
import Derived.RangeFuncRecord
import Derived.Test.YtpkhkcchibbhmaaGreatDoorProg
import Derived.KernelRfl
import Derived.SizedLaws
import Derived.ChangeSame
import Derived.Handed
import Derived.Test.YtpkhkcchibbhmaaGreatDoorTie
import Derived.Test.YtpkhkcchibbhmaaGreatDoorCards
import Derived.SevenTiedAt
import Derived.LaidMore
import Derived.Lay
import Derived.Stop.Joined
import Derived.Test.YtpkhkcchibbhmaaGreatDoorP3
set_option linter.unusedSimpArgs false
set_option maxHeartbeats 1000000
set_option linter.unusedVariables false
set_option linter.unusedSectionVars false
set_option linter.unnecessarySimpa false
namespace Gx
namespace Ev
open Go Go.RowKit
def QoW (P : Program) (Z : FuncId → Bool) : Op → Bool
 | .alloc _=>true
 | .box _ _=>true
 | .store _ _ _=>true
 | .buildSlice _ _ _=>true
 | .makeSlice _ _ _=>true
 | .makeMap _ _=>true
 | .mapUpdate _ _ _ _=>true
 | .convert _ dst _=>match P.underlying dst with
  | some (.slice _)=>true
  | _=>false
 | .call ⟨.value (.func g),_,_⟩=>Xl P g && !Z g
 | .call ⟨.value _,_,_⟩=>true
 | .call ⟨.builtin b,_,_⟩=>match b with
  | .append=>true
  | .copy=>true
  | .clear=>true
  | _=>false
 | _=>false
def isQ : Op → Bool
 | .load _ _=>true
 | .lookup _ _ _ _=>true
 | .convert _ _ _=>true
 | .call ⟨.value _,_,_⟩=>true
 | _=>false
noncomputable def at' (ops : List Oper) (i : Nat) : Option Oper:=List.rec (fun _=>none) (fun o _ ih i=>Nat.rec (some o) (fun j _=>ih j) i) ops i
noncomputable def Qvk (P : Program) (Z : FuncId → Bool) (ops : List Oper) (M : Nat) (rows : List Row) : Option Nat:=List.rec none (fun r _ ih=>Bool.rec (Bool.rec ih (match at' ops r.i with
 | some o=>Bool.rec (some r.i) ih (QoW P Z o.op || isQ o.op)
 | none=>ih) (Y5 r.need M)) ih (has M r.i)) rows
noncomputable def Qvh (P : Program) (Z : FuncId → Bool) (ops : List Oper) (M : Nat) (rows : List Row) : Option Nat:=List.rec none (fun r _ ih=>Bool.rec (Bool.rec ih (match at' ops r.i with
 | some o=>Bool.rec (some r.i) ih (QoW P Z o.op)
 | none=>ih) (Y5 r.need M)) ih (has M r.i)) rows
noncomputable def QsD (P : Program) (Z : FuncId → Bool) (ops : List Oper) (M : Nat) (rows : List Row) : Option Nat:=match Qvk P Z ops M rows with
 | some i=>some i
 | none=>Qvh P Z ops M rows
noncomputable def QtN (M : Nat) (rows : List Row) : Option Nat:=List.rec none (fun r _ ih=>Bool.rec (Bool.rec ih (some r.i) (Y5 r.em M)) ih (has M r.i)) rows
def isNw : Op → Bool
 | .makeMap _ none=>true
 | .alloc _=>true
 | _=>false
noncomputable def psR (P : Program) (Z : FuncId → Bool) (ops : List Oper) (rows : List Row) (f : Nat) : Nat → List Nat:=Nat.rec (fun _=>[]) (fun _ ih M=>match QsD P Z ops M rows with
 | some i=>i :: ih (XW M i)
 | none=>[]) f
noncomputable def Qu1 (P : Program) (Z : FuncId → Bool) (ops : List Oper) (allr : List Row) (M i : Nat) (ni : Bool) (rows : List Row) : Option It:=List.rec none (fun r _ ih=>Bool.rec (Bool.rec (Bool.rec ih (match at' ops r.i with
 | some o=>Bool.rec (Bool.rec ih (some (.two r.i i (psR P Z ops allr ops.length (XW M r.i)))) ni) (some (.two i r.i (psR P Z ops allr ops.length (XW M i)))) (isNw o.op)
 | none=>ih) (Y5 r.em M)) ih (has M r.i)) ih (Nat.beq r.i i)) rows
noncomputable def makR (P : Program) (Z : FuncId → Bool) (ops : List Oper) (rows : List Row) (M i : Nat) : It:=Bool.rec (match at' ops i with
 | some o=>(match Qu1 P Z ops rows M i (isNw o.op) rows with
  | some x=>x
  | none=>.one i)
 | none=>.one i) (.one i) (Qje M i rows)
noncomputable def addI (M : Nat) : It → Nat
 | .one i=>XW M i
 | .two i j ps=>XW (addL ps (XW M i)) j
noncomputable def Qer (P : Program) (Z : FuncId → Bool) (ops : List Oper) (rows : List Row) (f : Nat) : Nat → List It:=Nat.rec (fun _=>[]) (fun _ ih M=>match QsD P Z ops M rows with
 | some i=>.one i :: ih (XW M i)
 | none=>(match QtN M rows with
  | some i=>makR P Z ops rows M i :: ih (addI M (makR P Z ops rows M i))
  | none=>[])) f
noncomputable def Qkr (tm : Nat) (qs : List Nat) : Bool:=List.rec true (fun q _ ih=>Bool.rec false ih (has tm q)) qs
noncomputable def QfP (P : Program) (Z : FuncId → Bool) (ops : List Oper) (fs : List (Nat × Inf)) (rows : List Row) (order : List It) : List Nat → List Fin1:=List.rec (fun _=>[]) (fun x _ ih qs=>match x with
 | .two _ _ _=>ih qs
 | .one i=>match at' ops i,Qcf i rows with
 | some o,some r=>Bool.rec (ih (Bool.rec qs (i :: qs) (isQ o.op))) (Bool.rec (ih (Bool.rec qs (i :: qs) (isQ o.op))) (⟨i,Qex fs r.em⟩ :: ih []) (Qkr (Qex fs r.em) qs)) (QoW P Z o.op)
 | _,_=>ih qs) order
theorem QaE {P : Program} {Z : FuncId → Bool} {ops : List Oper} {fs : List (Nat × Inf)} : ∀ (order : List It) (qs : List Nat),∀ f ∈ QfP P Z ops fs (Qy fs fs) order qs,QgB fs f
 | [],qs,f,h=>by cases h
 | .two _ _ _ :: order,qs,f,h=>QaE order qs f h
 | .one i :: order,qs,f,h=>by
  have hu : QfP P Z ops fs (Qy fs fs) (.one i :: order) qs = (match at' ops i,Qcf i (Qy fs fs) with
   | some o,some r=>Bool.rec (QfP P Z ops fs (Qy fs fs) order (Bool.rec qs (i :: qs) (isQ o.op))) (Bool.rec (QfP P Z ops fs (Qy fs fs) order (Bool.rec qs (i :: qs) (isQ o.op))) (⟨i,Qex fs r.em⟩ :: QfP P Z ops fs (Qy fs fs) order []) (Qkr (Qex fs r.em) qs)) (QoW P Z o.op)
   | _,_=>QfP P Z ops fs (Qy fs fs) order qs):=rfl
  rw [hu] at h;split at h
  ·rename_i o r h1 h2;cases hk : QoW P Z o.op with
   | false=>rw [hk] at h;exact QaE order _ f h
   | true=>
    rw [hk] at h;cases hh : Qkr (Qex fs r.em) qs with
    | false=>rw [hh] at h;exact QaE order _ f h
    | true=>
     rw [hh] at h;rcases List.mem_cons.1 h with rfl | h
     ·obtain ⟨g1,g2⟩:=ZI h2;exact ⟨r,g1,g2,rfl⟩
     ·exact QaE order _ f h
  ·exact QaE order _ f h
noncomputable def ltI (n : Nat) : It → Bool
 | .one i=>Nat.blt i n
 | .two i j ps=>Nat.blt i n && (Nat.blt j n && ps.all fun q=>Nat.blt q n)
noncomputable def Qiq (n : Nat) (l : List It) : Bool:=List.rec true (fun i _ ih=>Bool.rec false ih (ltI n i)) l
theorem QgR {n : Nat} : ∀ {l : List It},Qiq n l = true → ∀ i ∈ l,QrV n i
 | a :: l,h,i,hi=>by
  have hu : Qiq n (a :: l) = (Bool.rec false (Qiq n l) (ltI n a) : Bool):=rfl;rw [hu] at h;cases hb : ltI n a with
  | false=>rw [hb] at h;cases h
  | true=>
   rw [hb] at h;rcases List.mem_cons.1 hi with rfl | hi
   ·cases i with
    | one i=>simpa [ltI,QrV,Nat.blt_eq] using hb
    | two i j ps=>simpa [ltI,QrV,Nat.blt_eq] using hb
   ·exact QgR h i hi
 | [],_,i,hi=>by cases hi
noncomputable def QoM (P : Program) (Z : FuncId → Bool) (nt : Nat) : Array Oper → CS
 | ⟨ops⟩=>match QcO ops 0 ops with
  | some fs=>Bool.rec noC (match QfP P Z ops fs (Qy fs fs) (Qer P Z ops (Qy fs fs) ops.length 0) [] with
    | []=>⟨fun F T H n=>(Qbb P nt ⟨ops⟩ (mkF (Qy fs fs) [] none 0 (Qer P Z ops (Qy fs fs) ops.length 0))).run F T H n []⟩
    | f :: Fs=>⟨fun F T H n=>(Qbb P nt ⟨ops⟩ (mkF (Qy fs fs) Fs (some f) 0 (Qer P Z ops (Qy fs fs) ops.length 0))).run F T H n []⟩)
   (Nat.beq (Qnl (Qer P Z ops (Qy fs fs) ops.length 0)) ops.length && (Nat.beq (Qnr 0 (Qer P Z ops (Qy fs fs) ops.length 0)) (2 ^ ops.length - 1) && Qiq ops.length (Qer P Z ops (Qy fs fs) ops.length 0)))
  | none=>noC
theorem Qo4 {P : Program} {Z : FuncId → Bool} (hm : P.follows .mixedOrders = true) : Qkd P (QoM P Z):=by
 intro l id r0 w0 X k F T H n ρ L' As hP hF ht hs;unfold QoM at ht;simp only [] at ht;split at ht
 ·rename_i fs hf;cases hc : (Nat.beq (Qnl (Qer P Z l (Qy fs fs) l.length 0)) l.length && (Nat.beq (Qnr 0 (Qer P Z l (Qy fs fs) l.length 0)) (2 ^ l.length - 1) && Qiq l.length (Qer P Z l (Qy fs fs) l.length 0))) with
  | false=>rw [hc] at ht;exact ht.elim
  | true=>
   rw [hc] at ht;simp only [Bool.and_eq_true] at hc;have hlen:=Nat.eq_of_beq_eq_true hc.1
   have key : ∀ (Fs : List Fin1) (F' : Option Fin1),(∀ f,F' = some f → QgB fs f) → (∀ f ∈ Fs,QgB fs f) → QX r0 w0 ρ X k ((Qbb P X.n ⟨l⟩ (mkF (Qy fs fs) Fs F' 0 (Qer P Z l (Qy fs fs) l.length 0))).run F T H n []) → S X (.c (.region id ⟨l⟩ true) :: k) L' (HS w0 [] As):=by
    intro Fs F' h1 h2 h;refine QeJ ([] ++ ρ.ex) (Qdi F') (by rw [hP];exact hm) ?_;have:=Qbx (w0:=w0) (k:=k) hF hP hf (Qer P Z l (Qy fs fs) l.length 0) Fs F' (Array.replicate l.length false) 0 (Lm.start _) (QgR hc.2.2) (Nat.eq_of_beq_eq_true hc.2.1) h1 h2 T H n [] [] ρ L' As [] h hs rfl trivial;rw [hlen] at this;exact this
   split at ht <;> grind [QaE,Qer,Qy]
 ·exact ht.elim
def extCS (c : Nat) : FuncId → List Value → Option Value:=fun f vs=>match vs with
 | [.string ⟨⟨a⟩⟩,.string ⟨⟨b⟩⟩]=>bif Nat.beq f c then some (.int .i64 (Qbf a b)) else none
 | _=>none
theorem extCS_ok {P : Program} {c : Nat} (hc : Qtg P c) : Qi9 P (extCS c):=by
 intro f vs v h w0 ρ us As hvs o L' args ts ho hev;unfold extCS at h;split at h
 ·rename_i a b;obtain ⟨h1,rfl⟩:=Qq h;have hf:=Nat.eq_of_beq_eq_true h1;subst hf;injection hvs with hvs
  subst hvs
  obtain ⟨x,y,hxy,hx,hy⟩ : ∃ x y,args.toList = [x,y] ∧ Gx.ev L' x = some (.string (bs a)) ∧ Gx.ev L' y = some (.string (bs b)):=by
   match hl : args.toList with
   | []=>rw [hl] at hev;cases hev
   | [x]=>grind [evs]
   | [x,y]=>
    rw [hl] at hev;simp only [evs] at hev;split at hev
    ·rename_i v vs h1 h2;split at h2
     ·rename_i v' vs' h3 h4;injection h4 with h4
      injection h2 with h2
      subst h4 h2;injection hev with hev
      injection hev with e1 e2
      injection e2 with e2 e3
      subst e1 e2;exact ⟨x,y,rfl,h1,h3⟩
     ·cases h2
    ·cases hev
   | x :: y :: z :: r=>grind [evs]
  rw [Qc7 hxy] at ho;exact ⟨_,rfl,Qem ho hx hy hc⟩
 ·cases h
noncomputable def noK (e : FuncId → List Value → Option Value) : CallF:=⟨fun _ _ _ _ _=>none,e,noY⟩
theorem ev_run {P : Program} {K : CallF} {Z : FuncId → Bool} {m f : Nat} {g : FuncId} {vs : List Value} {v : Value} (hK : KnOk P K) (hm : P.follows .mixedOrders = true) (hvs : Xd vs = true) (hv : ZB v = true) (h : (match (evF P K Z m (QoM P Z) f).f noY g vs .lf 0 with
  | some r=>some r.1
  | none=>none) = some v) : ∀ w,Calls P g vs.toArray w (fun e w'=>e = .returned v ∧ HS w [] [] w'):=by
 intro w;split at h
 ·rename_i r hr;injection h with h
  subst h;obtain ⟨v,H',n'⟩:=r
  have:=((Qqr (Z:=Z) (m:=m) hK (Qo4 hm) f ⟨fun _=>none,[]⟩).f _ _ QcK) g vs .lf 0 v H' n' hr w ⟨fun _=>none,[]⟩ vs [] (Rho.le_refl _) (Xh (fun a b e=>Qcq (QaS e)) (XQ hvs)) ⟨[],[],(fun m r hm=>by
   have h' : YE (pth m) m (.lf : Hp) = some r:=hm;rw [YQ] at h';cases h'),rfl,rfl⟩ (fun _ _=>rfl) w (HS.refl w [])
  refine Calls.mono this fun e w' ⟨ρ',As',u,h1,h2,h3,h4,h5,h6⟩=>?_;rw [Qay hv] at h3;injection h3 with h3
  subst h3;exact ⟨h5,h6.sub (List.nil_sublist _)⟩
 ·cases h
end Ev
namespace Ev
open Go Go.RowKit
def InsC (P : Program) (f e sz by' : Nat) : Prop:=∀ (w : World) (a : Option Addr) (i n m cap : Nat) (xs news : List Value) (b0 c0 tot2 : Nat),HS w (fps [.own (.slice a n cap) e sz n xs,.blk b0 e tot2 news]) [.own (.slice a n cap) e sz n xs,.blk b0 e tot2 news] w → 0 < m → news.length = m * sz → (∀ u ∈ news,u.oneCell' = true) → (∀ u ∈ xs,u.oneCell' = true) → (n + m) * by' ≤ 140737488355328 → i ≤ n →
 Calls P f #[.slice a n cap,.int .i64 (i : Int),.slice (some ⟨b0,0,none⟩) m c0] w fun en w'=>∃ g : Option Addr × Nat,en = .returned (.slice g.1 (n + m) g.2) ∧ True ∧ HS w (fps [.own (.slice a n cap) e sz n xs,.blk b0 e tot2 news]) [.own (.slice g.1 (n + m) g.2) e sz (n + m) (xs.take (i * sz) ++ news ++ xs.drop (i * sz)),.blk b0 e tot2 news] w'
noncomputable def QuG (e sz by' : Nat) (H : Hp) (n : Nat) : List Value → Option (Value × Hp × Nat)
 | [.slice none l c,.int .i64 (.ofNat i),.slice (some ⟨q,0,_⟩) m _]=>match Yq H q with
  | some rq=>bif (Nat.beq rq.ty e && (Nat.beq rq.cs.length (m * sz) && (Nat.blt 0 m && Nat.ble i l))) && ((Nat.beq l 0 && Nat.beq c 0) && Nat.ble ((l + m) * by') 140737488355328) then some (.slice (some ⟨n,0,none⟩) (l + m) (l + m),X5 H n ⟨e,sz,rq.cs⟩,n + 1) else none
  | none=>none
 | [.slice (some ⟨p,0,none⟩) l c,.int .i64 (.ofNat i),.slice (some ⟨q,0,_⟩) m _]=>match Yq H p,Yq H q with
  | some r,some rq=>bif (Nat.beq rq.ty e && (Nat.beq rq.cs.length (m * sz) && (Nat.blt 0 m && Nat.ble i l))) && ((!Nat.beq q p && (Nat.beq r.ty e && (Nat.beq r.sz sz && (Nat.beq r.cs.length (c * sz) && Nat.blt 0 sz)))) && ((Nat.ble l c && Nat.ble c maxLen) && Nat.ble ((l + m) * by') 140737488355328)) then some (.slice (some ⟨n,0,none⟩) (l + m) (l + m),X5 (Qhv H p) n ⟨e,sz,(r.cs.take (l * sz)).take (i * sz) ++ rq.cs ++ (r.cs.take (l * sz)).drop (i * sz)⟩,n + 1) else none
  | _,_=>none
 | _=>none
noncomputable def Qrh : List (Nat × Nat × Nat × Nat) → Qis
 | [],_,_,_,_=>none
 | (f,e,sz,by') :: l,g,vs,H,n=>bif Nat.beq g f then QuG e sz by' H n vs else Qrh l g vs H n
theorem Qpy {ρ : Rho} {p o l c : Nat} {u : Value} (h : den ρ (.slice (some ⟨p,o,none⟩) l c) = some u) : ∃ b d,ρ p = some (b,d) ∧ u = .slice (some ⟨b,o,none⟩) l (c + d):=by grind [den,Xr,QP,XJ]
theorem Ql6 {ρ : Rho} {p o l c : Nat} {q : Option Nat} {u : Value} (h : den ρ (.slice (some ⟨p,o,q⟩) l c) = some u) : ∃ b d c',ρ p = some (b,d) ∧ u = .slice (some ⟨b,o,none⟩) l c':=by cases q <;> grind [Qpy,den,Xr,QP,XJ]
theorem ZJ {α β : Type} {f : α → Option β} {a : α} {l : List α} {m : List β} (h : Qu f (a :: l) = some m) : ∃ b m',f a = some b ∧ Qu f l = some m' ∧ m = b :: m':=by grind [Qu]
theorem QrI {P : Program} {f e sz by' : Nat} (hI : InsC P f e sz by') {vs : List Value} {H : Hp} {n : Nat} {v : Value} {H' : Hp} {n' : Nat} (h : QuG e sz by' H n vs = some (v,H',n')) (w0 : World) (ρ : Rho) (us : List Value) (As : List HA) (hus : Qu (den ρ) vs = some us) (hH : HM ρ H As) (hf : QO ρ n) (w : World) (hw : HS w0 [] As w) : Calls P f us.toArray w (Ql1 w0 ρ v H' n'):=by
 unfold QuG at h;split at h
 ·rename_i l c i q x m y;obtain ⟨u1,m1,d1,hus1,rfl⟩:=ZJ hus;obtain ⟨u2,m2,d2,hus2,rfl⟩:=ZJ hus1;obtain ⟨u3,m3,d3,hus3,rfl⟩:=ZJ hus2;cases hus3;cases d1;cases d2;obtain ⟨b0,d0,c0,e1,rfl⟩:=Ql6 d3;split at h
  ·rename_i rq hq;obtain ⟨hc,he⟩:=Qq h
   clear h
   simp only [Bool.and_eq_true] at hc;obtain ⟨⟨k1,k2,k3,k4⟩,⟨k5,k6⟩,k7⟩:=hc;have hl0:=Nat.eq_of_beq_eq_true k5;have hc0:=Nat.eq_of_beq_eq_true k6;have hi0 : i = 0:=by have:=Nat.le_of_ble_eq_true k4;omega
   have hty:=Nat.eq_of_beq_eq_true k1;subst hl0 hc0 hi0 hty;injection he with h1 h2
   injection h2 with h2 h3
   subst h1 h2 h3;obtain ⟨b,d,cu,Rs,g1,g2,g3,g4,_,_⟩:=X3 hH hq;rw [g1] at e1;injection e1 with e1
   injection e1 with e1 e3
   subst e1 e3;have hw2:=((hw.perm g4.perm).own_nil rq.ty sz);have hlen : cu.length = m * sz:=by rw [Q6 g2];exact Nat.eq_of_beq_eq_true k2
   have hfoc:=HS.focus (Cs:=[.own (.slice none 0 0) rq.ty sz 0 [],.blk b rq.ty (cu.length + d * rq.sz) cu]) (Ds:=Rs) hw2;refine Calls.mono (hI w none 0 0 m 0 [] cu b c0 _ hfoc (by simpa [Nat.blt_eq] using k3) hlen (List.all_eq_true.1 (YL g2)) (fun _ h=>by cases h) (Nat.le_of_ble_eq_true k7) (Nat.le_refl _)) fun en w' ⟨g,h1,_,h2⟩=>?_;have h3:=HS.callM (Cs:=[.own (.slice none 0 0) rq.ty sz 0 [],.blk b rq.ty (cu.length + d * rq.sz) cu]) (As:=Rs) hw2 (fun b hb=>by obtain ⟨A,hA,hb⟩:=List.mem_flatMap.1 hb;exact ⟨A,hA,hb⟩) h2;have hpos : 0 < 0 + m:=by simpa [Nat.blt_eq] using k3
   obtain ⟨gg,ga,_,hn,hcm,hxl,h4⟩:=h3.own_blk hpos .here;have h5 : HS w0 [] (.blk gg rq.ty (g.2 * sz) ([].take (0 * sz) ++ cu ++ [].drop (0 * sz)) :: As) w':=h4.perm (.cons _ g4.perm.symm);obtain ⟨ρ',As',o1,o2,o3,o4,o5⟩:=Qde (w0:=w0) (e:=rq.ty) (sz:=sz) (k:=0) (m:=m) (g:=(gg,g.2)) (xs:=cu) ⟨As,hH,.refl _⟩ hf g2 hn hcm (by rw [hlen,Nat.zero_add]);refine ⟨ρ',As',_,o1,o2,o3,o4,?_,o5 _ (by simpa using h5)⟩;rw [h1,ga]
  ·cases h
 ·rename_i p l c i q x m y;obtain ⟨u1,m1,d1,hus1,rfl⟩:=ZJ hus;obtain ⟨u2,m2,d2,hus2,rfl⟩:=ZJ hus1;obtain ⟨u3,m3,d3,hus3,rfl⟩:=ZJ hus2;cases hus3;cases d2;obtain ⟨b9,d9,e9,rfl⟩:=Qpy d1;obtain ⟨b0,d0,c0,e1,rfl⟩:=Ql6 d3;split at h
  ·rename_i r rq hp hq;obtain ⟨hc,he⟩:=Qq h
   clear h
   simp only [Bool.and_eq_true] at hc;obtain ⟨⟨k1,k2,k3,k4⟩,⟨k5,k6,k7,k8,k9⟩,⟨k10,k11⟩,k12⟩:=hc;have hty:=Nat.eq_of_beq_eq_true k1;have hty2:=Nat.eq_of_beq_eq_true k6;have hsz2:=Nat.eq_of_beq_eq_true k7;have hlenr:=Nat.eq_of_beq_eq_true k8;have hsz0 : 0 < sz:=by simpa [Nat.blt_eq] using k9
   have hlc:=Nat.le_of_ble_eq_true k10;have hcm:=Nat.le_of_ble_eq_true k11;have hqp : q ≠ p:=fun h=>by subst h;simp [Nat.beq_refl] at k5
   injection he with h1 h2
   injection h2 with h2 h3
   subst h1 h2 h3;obtain ⟨b,d,rs,Rs,g1,g2,g3,g4,_,As3,g6,g7⟩:=X3 hH hp;rw [g1] at e9;injection e9 with e9
   injection e9 with e9 e3
   subst e9 e3;obtain ⟨b',d',cu,Rs2,f1,f2,f3,f4,_,_⟩:=X3 g6 (by unfold Yq;rw [QbB hqp];exact hq);rw [f1] at e1;injection e1 with e1
   injection e1 with e1 e3
   subst e1 e3;have hlr:=Q6 g2
   have hcd : c + d ≤ maxLen:=by
    unfold room at g3;rcases g3 with g3 | g3
    ·omega
    ·rw [hlenr,hsz2,← Nat.add_mul] at g3;exact Nat.le_of_mul_le_mul_right g3 hsz0
   have htot : rs.length + d * r.sz = (c + d) * sz:=by rw [hlr,hlenr,hsz2,Nat.add_mul]
   rw [hty2,htot] at g4;rw [hty] at f4;have hw2:=HS.to_own (n:=l) g4 hw (List.take_append_drop (l * sz) rs).symm (by rw [List.length_take,hlr,hlenr];exact Nat.min_eq_left (Nat.mul_le_mul_right _ hlc)) (by omega) hcd;have hw3:=hw2.perm (.cons _ (g7.trans f4.perm));have hlen : cu.length = m * sz:=by rw [Q6 f2];exact Nat.eq_of_beq_eq_true k2
   have hfoc:=HS.focus (Cs:=[.own (.slice (some ⟨b,0,none⟩) l (c + d)) e sz l (rs.take (l * sz)),.blk b' e (cu.length + d' * rq.sz) cu]) (Ds:=Rs2) hw3;have hone:=List.all_eq_true.1 (YL g2);refine Calls.mono (hI w _ i l m (c + d) (rs.take (l * sz)) cu b' c0 _ hfoc (by simpa [Nat.blt_eq] using k3) hlen (List.all_eq_true.1 (YL f2)) (fun u hu=>hone u (List.mem_of_mem_take hu)) (Nat.le_of_ble_eq_true k12) (Nat.le_of_ble_eq_true k4)) fun en w' ⟨g,h1,_,h2⟩=>?_;have h3:=HS.callM (Cs:=[.own (.slice (some ⟨b,0,none⟩) l (c + d)) e sz l (rs.take (l * sz)),.blk b' e (cu.length + d' * rq.sz) cu]) (As:=Rs2) hw3 (fun b hb=>by obtain ⟨A,hA,hb⟩:=List.mem_flatMap.1 hb;exact ⟨A,hA,hb⟩) h2
   have hpos : 0 < l + m:=by
     have : 0 < m:=by simpa [Nat.blt_eq] using k3
     omega
   obtain ⟨gg,ga,_,hn,hcm2,hxl,h4⟩:=h3.own_blk hpos .here;have h5 : HS w0 [] (.blk gg e (g.2 * sz) ((rs.take (l * sz)).take (i * sz) ++ cu ++ (rs.take (l * sz)).drop (i * sz)) :: As3) w':=h4.perm (.cons _ f4.perm.symm);have hcells : Qu (QP ρ) ((r.cs.take (l * sz)).take (i * sz) ++ rq.cs ++ (r.cs.take (l * sz)).drop (i * sz)) = some ((rs.take (l * sz)).take (i * sz) ++ cu ++ (rs.take (l * sz)).drop (i * sz)):=Ze (Ze (XG _ (XG _ g2)) f2) (Yt _ (XG _ g2));obtain ⟨ρ',As',o1,o2,o3,o4,o5⟩:=Qde (w0:=w0) (e:=e) (sz:=sz) (k:=l) (m:=m) (g:=(gg,g.2)) ⟨As3,g6,.refl _⟩ hf hcells hn hcm2 hxl;refine ⟨ρ',As',_,o1,o2,o3,o4,?_,o5 _ h5⟩;rw [h1,ga]
  ·cases h
 ·cases h
theorem Qlu {P : Program} {r0 : Rho} : ∀ {l : List (Nat × Nat × Nat × Nat)},(∀ x ∈ l,InsC P x.1 x.2.1 x.2.2.1 x.2.2.2) → QiU P r0 (Qrh l)
 | [],_=>fun _ _ _ _ _ _ _ h=>by cases h
 | (f,e,sz,by') :: l,hl=>by
  intro g vs H n v H' n' h;simp only [Qrh] at h;cases hb : Nat.beq g f with
  | true=>
   rw [hb] at h;have hg:=Nat.eq_of_beq_eq_true hb;subst hg;exact fun w0 ρ us As _ hus hH hf w hw=>QrI (hl _ (List.mem_cons_self ..)) h w0 ρ us As hus hH hf w hw
  | false=>
   rw [hb] at h;exact Qlu (fun x hx=>hl x (List.mem_cons_of_mem _ hx)) g vs H n v H' n' h
noncomputable def knI (l : List (Nat × Nat × Nat × Nat)) (e : FuncId → List Value → Option Value) : CallF:=⟨fun _=>Qrh l,e,noY⟩
theorem knI_ok {P : Program} {l : List (Nat × Nat × Nat × Nat)} {e : FuncId → List Value → Option Value} (h : ∀ x ∈ l,InsC P x.1 x.2.1 x.2.2.1 x.2.2.2) (he : Qi9 P e) : KnOk P (knI l e):=⟨fun r1 _=>Qlu h,he⟩
end Ev
end Gx
namespace Go.Proofs
open Go Go.RowKit Gx
theorem QuC : Ev.InsC Tryz.prog 165 27 2 32:=fun w a i n m cap xs news b0 c0 tot2=>c165 w a i n m cap xs news b0 c0 tot2
theorem Quv : Ev.InsC Tryz.prog 249 3 1 8:=fun w a i n m cap xs news b0 c0 tot2=>c249 w a i n m cap xs news b0 c0 tot2
set_option maxRecDepth 1000000 in
theorem c11 (w : World) : Calls Tryz.prog 11 #[] w fun en w'=>en = .returned (.bool true) ∧ Below w.heap.size w w':=by
  have h:=Ev.ev_run (P:=Tryz.prog) (K:=Ev.knI [(165,27,2,32),(249,3,1,8)] (Ev.extCS 254)) (Z:=fun g=>Ev.memN g [127]) (m:=1000) (f:=60) (g:=11) (vs:=[]) (v:=.bool true) (Ev.knI_ok (fun x hx=>by
    rcases List.mem_cons.1 hx with rfl | hx
    · exact QuC
    · rcases List.mem_cons.1 hx with rfl | hx
      · exact Quv
      · cases hx) (Ev.extCS_ok Qps)) QZ rfl rfl (by kernel_rfl) w
  refine Calls.mono h ?_
  intro en w' hh
  obtain ⟨h1,h2⟩:=hh
  exact ⟨h1,HS.below h2⟩
end Go.Proofs
namespace Go.Proofs
open Go Go.RowKit Gx
attribute [local irreducible] Go.Calls Gx.S Gx.O Gx.D Gx.OpP Gx.OpQ Gx.OpH
set_option maxRecDepth 20000
instance : TFn Tryz.prog 11:=⟨by kernel_rfl⟩
instance : TFn Tryz.prog 28:=⟨by kernel_rfl⟩
instance : TFn Tryz.prog 31:=⟨by kernel_rfl⟩
end Go.Proofs
namespace Gx
open Go Go.RowKit
section
variable {P : Program} {o : Oper} {L : Qb} {w0 : World} {M : List Nat} {As As' : List HA}
theorem Qfm {dt st by' m cd b tot i : Nat} {d s : Operand} {ad : Option Addr} {bt : TypeId} {x l : List UInt8} {e : TypeId} (ho : o.op = .call { callee:=.builtin .copy,args:=#[d,s],argTypes:=#[dt,st] }) (hd : Gx.ev L d = some (.slice ad m cd)) (ha : 0 < m → ad = some ⟨b,i,none⟩) (hx : Gx.ev L s = some (.string (bs l))) (ht : tsl P dt = some (e,1,by'))
  (hp : Put As (.blk b bt tot (x.map bv)) (.blk b bt tot ((Qz x i l).map bv)) As') (hm0 : 0 < m) (hk : l.length ≤ m) (hr : i + l.length ≤ x.length) :
  OpH P o L (HS w0 M As) (fun _ : Unit=>.int .i64 (l.length : Int)) (fun _=>True) (fun _=>HS w0 M As'):=by
 rw [ha hm0] at hd;intro ρ w hρ hw;obtain ⟨hu,inf,hi,hs1,hs2⟩:=QV ht;have hsz : (Go.sizeOf e).run P w = .ok 1 w:=by simp [Go.sizeOf,typeInfo,hi,hs1]
 have hfc : (Builtin.firstCells 1 l.length (.string (bs l))).run P w = .ok (l.map bv).toArray w:=by
  have hx : (bs l).extract 0 l.length = bs l:=(QgJ _).trans (congrArg bs (by rw [Lib.extract_data];simp));simp only [Builtin.firstCells,hx,Sem.run_pure];congr 1;simp [bs,bv]
 have hbl : (bs l).size = l.length:=rfl;have hk' : Nat.min l.length m = l.length:=Nat.min_eq_left hk;obtain ⟨Rs,h3,h4⟩:=hp.ex;have hpk:=hw.pick h3;obtain ⟨w',hst,hb,r1,r2,r3,r4,r5⟩:=Xs (P:=P) (l.map bv) 0 (x.map bv) w hpk.head (by simpa using hr) (QlU l) (i:=i)
 have he : (Builtin.copy_ #[dt,st] o.type #[.slice (some ⟨b,i,none⟩) m cd,.string (bs l)]).run P w = .ok (.int .i64 (l.length : Int)) w':=by
  unfold Builtin.copy_;simp [run_underlying hu,Builtin.lenOf,hbl,hk',hsz,hfc,goInt,hst]
 have hcs : Qd (x.map bv) i (l.map bv) = (Qz x i l).map bv:=by
  rw [Qcy _ _ _ (by simpa using hr),Qz];simp only [List.map_append,List.map_take,List.map_drop,List.length_map]
 simp only [execOp,ho,resolve,Sem.run_bind,Sem.run_pure,Result.andThen_ok,invoke,builtin,List.map_toArray,List.map_cons,List.map_nil,hρ _ _ hd,hρ _ _ hx,he];exact ⟨(),rfl,trivial,(HS.swap hpk (B:=.blk b bt tot ((Qz x i l).map bv)) (fun _ h=>h) r1 r2 r3 r4 (fun k hk=>r5 k (by simpa [HA.fp_blk] using hk)) (show QQ b bt tot ((Qz x i l).map bv) w' by rw [← hcs];simpa using hb)).perm h4⟩
end
theorem Qo3 (s : List UInt8) : Value.int .i64 (bits .or .i64 (IntKind.i64.wrap ((s.getD 0 0).toNat : Int)) (IntKind.i64.wrap (IntKind.i64.wrap ((s.getD 1 0).toNat : Int) * 2 ^ 8))) = .int .i64 ((ub2 s 0 : Nat) : Int):=by
 have ha:=(s.getD 0 0).toNat_lt;have hb:=(s.getD 1 0).toNat_lt;have e2 : IntKind.i64.wrap ((s.getD 1 0).toNat : Int) = (((s.getD 1 0).toNat : Nat) : Int):=IntWalk.i64_in _ ⟨by omega,by omega⟩;have e1 : IntKind.i64.wrap ((s.getD 0 0).toNat : Int) = (((s.getD 0 0).toNat : Nat) : Int):=IntWalk.i64_in _ ⟨by omega,by omega⟩;have e3 : (((s.getD 1 0).toNat : Nat) : Int) * 2 ^ 8 = ((256 * (s.getD 1 0).toNat : Nat) : Int):=by omega
 have e4 : IntKind.i64.wrap ((256 * (s.getD 1 0).toNat : Nat) : Int) = ((256 * (s.getD 1 0).toNat : Nat) : Int):=IntWalk.i64_in _ ⟨by omega,by omega⟩;rw [e2,e1,e3,e4,Qnc _ _ (by omega) (by omega),QqR _ _ (by omega)]
 grind [ub2,ub1]
def trL : List UInt8 → List UInt8
 | []=>[]
 | b :: l=>if b = 0 then trL l else b :: l
def trR (s : List UInt8) : List UInt8:=(trL s.reverse).reverse
theorem QnR : ∀ s : List UInt8,(trL s).length ≤ s.length
 | []=>Nat.le_refl _
 | b :: l=>by
  unfold trL;split
  ·exact Nat.le_succ_of_le (QnR l)
  grind
theorem Quk (s : List UInt8) : (trR s).length ≤ s.length:=by grind [QnR,trR]
theorem QkQ : ∀ s : List UInt8,trL s = [] ↔ zer s = true
 | []=>⟨fun _=>rfl,fun _=>rfl⟩
 | b :: l=>by
  unfold trL zer;rw [List.all_cons];split
  ·simp_all [QkQ,zer]
  grind
theorem QkL (s : List UInt8) : zer s.reverse = zer s:=by unfold zer;rw [List.all_reverse]
theorem Qir : ∀ s : List UInt8,zer (trL s) = zer s
 | []=>rfl
 | b :: l=>by
  unfold trL;split
  ·rename_i h;rw [Qir l];simp [zer,h]
  ·rfl
theorem Qpk (s : List UInt8) : trL (trR s) = [] ↔ zer s = true:=by
 unfold trR;rw [QkQ,QkL,Qir,QkL]
theorem Qh3 {s : List UInt8} (h0 : 0 < s.length) (h : s.getD 0 0 = 0) : trL (s.drop 1) = trL s:=by
 match s,h0,h with
 | b :: l,_,h=>grind [trL]
theorem Qia {s : List UInt8} (h : ¬ (0 < s.length ∧ s.getD 0 0 = 0)) : trL s = s:=by
 match s,h with
 | [],_=>rfl
 | b :: l,h=>grind [trL]
theorem QjC (s : List UInt8) (h0 : 0 < s.length) : s.reverse.getD 0 0 = s.getD (s.length - 1) 0:=by grind
theorem QoO {s : List UInt8} (h0 : 0 < s.length) (h : s.getD (s.length - 1) 0 = 0) : trR (s.take (s.length - 1)) = trR s:=by
 unfold trR;rw [List.reverse_take,show s.length - (s.length - 1) = 1 by omega,Qh3 (by simpa using h0) (by rw [QjC s h0];exact h)]
theorem Qqq {s : List UInt8} (h : ¬ (0 < s.length ∧ s.getD (s.length - 1) 0 = 0)) : trR s = s:=by grind [trR,Qia,QjC]
def X9 (s : List UInt8) (k : Nat) : List Int:=((List.range k).filter (Qao s)).map fun i=>((i : Nat) : Int)
theorem Qkz {s : List UInt8} {k : Nat} (h : Qao s k = true) : X9 s (k + 1) = X9 s k ++ [(k : Int)]:=by
 unfold X9;rw [List.range_succ,List.filter_append,List.map_append];simp [h]
theorem QmV {s : List UInt8} {k : Nat} (h : Qao s k = false) : X9 s (k + 1) = X9 s k:=by
 unfold X9;rw [List.range_succ,List.filter_append,List.map_append];simp [h]
theorem QjY (s : List UInt8) (k : Nat) : (X9 s k).length ≤ k:=by grind [X9]
theorem QgK {s : List UInt8} : 0 < (X9 s 8).length ↔ Xy s = true:=by simp_all [X9,Xy,Qao]
theorem Qhr {s : List UInt8} {p : Nat} (h : p + 2 ≤ s.length) : ub2 (Qn s p 2) 0 = ub2 s p:=Qur (s:=s) (p:=p) (n:=2) (j:=0) (by omega)
theorem Qqv {s : List UInt8} {p q : Nat} (hp : p + 2 ≤ s.length) (hq : q + 2 ≤ s.length) : Qn s p 2 = Qn s q 2 ↔ ub2 s p = ub2 s q:=by
 constructor
 ·grind [Qhr]
 ·intro h;obtain ⟨h1,h2⟩:=Qit h;apply List.ext_getElem?;intro j;rcases Nat.lt_or_ge j 2 with hj | hj
  ·grind [Zn,Qkb]
  grind [Qn]
theorem QgU {s : List UInt8} {i : Nat} (hs : s.length = 512) (hi : i < 8) : Qao s i = true ↔ (ub2 s 40 = 0 ∨ Qn s (tlA i) 2 ≠ Qn s 40 2):=by grind [Qao,Qqv,tlA]
theorem Qi1 (c : Nat) : Xw [.int .u8 0] (c * 1) = (List.replicate c (0 : UInt8)).map bv:=by
 rw [Nat.mul_one,List.map_replicate];exact Qc5 _ _
theorem QlX {x l : List UInt8} {i : Nat} (h : i + l.length ≤ x.length) : Qd (x.map bv) i (l.map bv) = (Qz x i l).map bv:=by simp_all [Qcy,Qz]
theorem Z4 {s : List UInt8} {p q n : Nat} (h : q = p + n) : (s.take q).drop p = Qn s p n:=by
 subst h;rw [List.drop_take,Nat.add_sub_cancel_left,Qn]
theorem QJ {s : List UInt8} {p n : Nat} (h : p + n ≤ s.length) : (Qn s p n).length = n:=by grind [Qn]
theorem QqZ (i : Nat) (h : i ≤ 1000) : ((i : Int) + 1) * 64 - 2 = ((tlA i : Nat) : Int):=by unfold tlA;omega
end Gx
namespace Go.Proofs
open Go Go.RowKit Gx
attribute [local irreducible] Go.Calls Gx.S Gx.O Gx.D Gx.OpP Gx.OpQ Gx.OpH
set_option maxRecDepth 20000
theorem QfV : tsl Tryz.prog 236 = some (5,1,1):=by kernel_rfl
theorem QrU (w : World) (i : Nat) (hi : i ≤ 1000) : Calls Tryz.prog 197 #[.int .i64 (i : Int)] w fun en w'=>en = .returned (.int .i64 ((tlA i : Nat) : Int)) ∧ Below w.heap.size w w':=by
 refine eN1 Tryz.func197 Tryz.ntmps197 ?_
 refine aT8 ?_
 refine aT ?_
 refine aT ?_
 refine aU2 ?_
 exact rT rfl rfl (fun w' h'=>⟨by rw [← QqZ i hi];rfl,h'.below⟩)
theorem c194 (w : World) (s : List UInt8) (hl : 2 ≤ s.length) : Calls Tryz.prog 194 #[.string (bs s)] w fun en w'=>en = .returned (.int .i64 ((ub2 s 0 : Nat) : Int)) ∧ Below w.heap.size w w':=by
 refine eN1 Tryz.func194 Tryz.ntmps194 ?_
 refine aU5 ?_
 refine QL [] QZ ?_
 refine dP 0 ?_
 refine dV 1 rfl (Q1 rfl rfl rfl Tryz.underlying9 0 rfl (by omega)) ?_
 refine dV 2 rfl (Qm rfl rfl Zf YY) ?_
 try refine dWr ?_
 refine dP 3 ?_
 refine dV 4 rfl (Q1 rfl rfl rfl Tryz.underlying9 1 rfl (by omega)) ?_
 refine dV 5 rfl (Qm rfl rfl Zf YY) ?_
 try refine dWr ?_
 refine dV 6 rfl (QeZ rfl rfl rfl (by decide) 8 rfl) ?_
 refine dP 7 ?_
 refine dP 8 ?_
 refine dNi ?_
 exact rT rfl rfl (fun w' h'=>⟨by rw [← Qo3];rfl,h'.below⟩)
theorem c206 (w : World) (u : Int) (hu : 0 ≤ u ∧ u < 65536) : Calls Tryz.prog 206 #[.int .i64 u] w fun en w'=>en = .returned (.string (bs (le2 u))) ∧ Below w.heap.size w w':=by
 refine eN1 Tryz.func206 Tryz.ntmps206 ?_
 refine aU7 ?_
 refine o_p (Qm rfl rfl YY Zf) rfl ?_
 refine Qk (show _ = bv (by8 u) from YO _) ?_
 refine aU ?_
 refine o_p (QcQ rfl rfl rfl (by decide) 8 rfl) rfl ?_
 refine o_p (Qm rfl rfl YY Zf) rfl ?_
 refine Qk (show _ = bv (by8 (u / 256)) from YO _) ?_
 refine o_h (Ql (cs:=[_,_]) rfl rfl Qw Qbe rfl rfl rfl) rfl (fun b1 _=>?_)
 refine o_q (Yw rfl rfl Tryz.underlying139 Tryz.underlying9 Tryz.underlying5 aPk (by simp [le2]) (QaH (le2 u))) rfl ?_
 refine aU2 ?_
 exact rT rfl rfl (fun w' h'=>⟨by exact congrArg (fun z=>Ending.returned (Value.string (bs z))) (ZK (le2 u)),h'.below⟩)
theorem Qnh (w : World) (a : Option Addr) (cap m i : Nat) (l : List UInt8) (hs : Vl w a (l.map bv)) (hm : l.length = m) (hi : i + 2 ≤ m) (hc : m ≤ cap) (hc9 : cap ≤ 9223372036854775807) : Calls Tryz.prog 195 #[.slice a m cap,.int .i64 (i : Int)] w fun en w'=>en = .returned (.string (bs (Qn l i 2))) ∧ Below w.heap.size w w':=by
 refine eN2 Tryz.func195 Tryz.ntmps195 ?_
 refine Qml ?_
 refine o_p (Qs _ _ i (i + 2) rfl rfl QfV ⟨_,_,rfl,rfl⟩ ⟨_,_,rfl,(by omega)⟩ (by omega) (by omega)) rfl ?_
 refine o_q (Zp (Qn l i 2) rfl rfl Tryz.underlying236 Tryz.underlying9 Tryz.underlying5 (by rw [QJ (by omega)];omega) (hs.sub (by omega) (by omega))) rfl ?_
 refine aU2 ?_
 exact rT rfl rfl (fun w' h'=>⟨by rfl,h'.below⟩)
theorem QrM (w : World) (g cap m tot p : Nat) (l x : List UInt8) (hw : HS w (fps [.blk g u8T tot ((l).map bv)]) [.blk g u8T tot ((l).map bv)] w) (hm : l.length = m) (hp : p + x.length ≤ m) (hpm : p < m) (hc : m ≤ cap) (hc9 : cap ≤ 9223372036854775807) : Calls Tryz.prog 196 #[.slice (some ⟨g,0,none⟩) m cap,.int .i64 (p : Int),.string (bs x)] w fun en w'=>∃ _ : Unit,en = .returned (.tuple #[]) ∧ True ∧ HS w (fps [.blk g u8T tot ((l).map bv)]) [.blk g u8T tot ((Qz l p x).map bv)] w':=by
 refine eW3 Tryz.func196 Tryz.ntmps196 hw ?_
 refine aU3 ?_
 refine o_p (Qs _ _ p m rfl rfl QfV ⟨_,_,rfl,rfl⟩ rfl (by omega) (by omega)) rfl ?_
 refine aU ?_
 refine o_h (Qfm (b:=g) (i:=p) rfl rfl (fun _=>by rw [XB (by omega)] <;> (congr 2 <;> omega)) rfl QfV aPt (by omega) (by omega) (by omega)) rfl (fun _ _=>?_)
 refine aU ?_
 exact Qfw rfl (fun w' h'=>⟨(),rfl,trivial,h'.ent aEt⟩)
theorem c238 (w : World) (s : List UInt8) (hl : s.length ≤ 1000000) : Calls Tryz.prog 238 #[.string (bs s),.int .u8 0] w fun en w'=>en = .returned (.string (bs (trL s))) ∧ Below w.heap.size w w':=by
 refine eN2 Tryz.func238 Tryz.ntmps238 ?_
 refine aU6 ?_
 refine Qt (α:=List UInt8) [0,5,6,7,8,9,10,11,12,13,14,15] (fun l=>[(0,.string (bs l))]) (fun _=>_) (fun l=>l.length ≤ s.length ∧ trL l = trL s) (fun l=>l.length) s ⟨Nat.le_refl _,rfl⟩ aSx (fun w h=>h) (fun l hl9=>?_)
 obtain ⟨hl1,hl2⟩:=hl9
 refine aU4 ?_
 refine o_p (Qf rfl rfl Tryz.underlying9) rfl ?_
 refine aU2 ?_
 refine YS 5 8 13 rfl
  (fun hg1 _=>by
   refine aU3 ?_
   refine o_p (Q1 rfl rfl rfl Tryz.underlying9 0 rfl (by omega)) rfl ?_
   refine aU4 ?_
   exact oJt 5 13)
  (fun hg3 _=>by
   refine aU4 ?_
   exact oJf 5 13) ?_
 refine aU ?_
 refine sCd rfl (fun h5=>?_) fun h5=>?_
 ·have hk : 0 < l.length ∧ l.getD 0 0 = 0:=by have hq:=h5;first | (exact ⟨by omega,QiA.1 hq.2⟩) | (simp [QiA] at hq;exact ⟨by omega,hq.2⟩)
  refine aU4 ?_
  refine o_p (Yv 1 rfl rfl rfl Tryz.underlying9 rfl (by omega)) rfl ?_
  refine aU3 ?_
  exact QW (l.drop 1) (by rw [List.length_drop];omega) ⟨by rw [List.length_drop];omega,(Qh3 hk.1 hk.2).trans hl2⟩ aSx (fun w h=>h)
 have hk : ¬ (0 < l.length ∧ l.getD 0 0 = 0):=fun h9=>by have hq:=h5;have h8:=QiA.2 h9.2;simp [h8] at hq;omega
 refine Qo rfl ?_
 refine aU5 ?_
 exact rT rfl rfl (fun w' h'=>⟨by rw [← hl2,Qia hk];rfl,h'.below⟩)
theorem c239 (w : World) (s : List UInt8) (hl : s.length ≤ 1000000) : Calls Tryz.prog 239 #[.string (bs s),.int .u8 0] w fun en w'=>en = .returned (.string (bs (trR s))) ∧ Below w.heap.size w w':=by
 refine eN2 Tryz.func239 Tryz.ntmps239 ?_
 refine aU6 ?_
 refine Qt (α:=List UInt8) [0,5,6,7,8,9,10,11,12,13,14,15,16,17,18,19,20,21] (fun l=>[(0,.string (bs l))]) (fun _=>_) (fun l=>l.length ≤ s.length ∧ trR l = trR s) (fun l=>l.length) s ⟨Nat.le_refl _,rfl⟩ aSx (fun w h=>h) (fun l hl9=>?_)
 obtain ⟨hl1,hl2⟩:=hl9
 refine aU4 ?_
 refine o_p (Qf rfl rfl Tryz.underlying9) rfl ?_
 refine aU2 ?_
 refine YS 8 8 16 rfl
  (fun hg1 _=>by
   refine aU5 ?_
   refine o_p (Qf rfl rfl Tryz.underlying9) rfl ?_
   refine aT2 ?_
   refine aU ?_
   refine o_p (Q1 rfl rfl rfl Tryz.underlying9 (l.length - 1) (by omega) (by omega)) rfl ?_
   refine aU4 ?_
   exact oJt 8 16)
  (fun hg3 _=>by
   refine aU7 ?_
   exact oJf 8 16) ?_
 refine aU ?_
 refine sCd rfl (fun h5=>?_) fun h5=>?_
 ·have hk : 0 < l.length ∧ l.getD (l.length - 1) 0 = 0:=by have hq:=h5;first | (exact ⟨by omega,QiA.1 hq.2⟩) | (simp [QiA] at hq;exact ⟨by omega,hq.2⟩)
  refine aU5 ?_
  refine o_p (Qf rfl rfl Tryz.underlying9) rfl ?_
  refine aT ?_
  refine o_p (YR (l.length - 1) rfl rfl rfl Tryz.underlying9 (by omega) (by omega)) rfl ?_
  refine aU3 ?_
  exact QW (l.take (l.length - 1)) (by rw [List.length_take];omega) ⟨by rw [List.length_take];omega,(QoO hk.1 hk.2).trans hl2⟩ aSx (fun w h=>h)
 have hk : ¬ (0 < l.length ∧ l.getD (l.length - 1) 0 = 0):=fun h9=>by have hq:=h5;have h8:=QiA.2 h9.2;simp [h8] at hq;omega
 refine Qo rfl ?_
 refine aU5 ?_
 exact rT rfl rfl (fun w' h'=>⟨by rw [← hl2,Qqq hk];rfl,h'.below⟩)
theorem QtD : Xl Tryz.prog 239 = true:=by kernel_rfl
theorem Qt5 : Xl Tryz.prog 238 = true:=by kernel_rfl
instance : TFn Tryz.prog 129:=⟨by kernel_rfl⟩
instance : TFn Tryz.prog 204:=⟨by kernel_rfl⟩
instance : TFn Tryz.prog 205:=⟨by kernel_rfl⟩
instance : TFn Tryz.prog 203:=⟨by kernel_rfl⟩
instance : TFn Tryz.prog 206:=⟨by kernel_rfl⟩
theorem Qhg : Xl Tryz.prog 196 = true:=by kernel_rfl
instance : TFn Tryz.prog 197:=⟨by kernel_rfl⟩
instance : TFn Tryz.prog 195:=⟨by kernel_rfl⟩
instance : TFn Tryz.prog 194:=⟨by kernel_rfl⟩
theorem c204 (w : World) (s : List UInt8) (hl : s.length ≤ 1000000) : Calls Tryz.prog 204 #[.string (bs s),.string (bs [0])] w fun en w'=>en = .returned (.string (bs (trL (trR s)))) ∧ Below w.heap.size w w':=by
 have hT:=Quk s
 refine eN2 Tryz.func204 Tryz.ntmps204 ?_
 refine Qaj ?_
 refine oOr 3 9 12 rfl
  (fun hg1 _=>by
   refine aU4 ?_
   exact oJf 3 12)
  (fun hg3 _=>by
   refine aU2 ?_
   exact oJt 3 12) ?_
 refine aU ?_
 refine sCd rfl (fun h5=>?_) fun h5=>?_
 ·have h0 : s = []:=by have hq:=h5;simpa using hq
  refine aU5 ?_
  exact rT rfl rfl (fun w' h'=>⟨by subst h0;rfl,h'.below⟩)
 refine aU5 ?_
 refine o_p (Qf rfl rfl Tryz.underlying9) rfl ?_
 refine aU2 ?_
 refine YS 4 17 21 rfl
  (fun hg6 _=>by
   refine aU3 ?_
   refine o_p (Q1 rfl rfl rfl Tryz.underlying9 0 rfl (by omega)) rfl ?_
   refine aU2 ?_
   exact oJt 4 21)
  (fun hg8 _=>by
   refine aU3 ?_
   exact oJf 4 21) ?_
 refine aU ?_
 refine sCd rfl (fun h10=>?_) fun h10=>?_
 ·refine aU ?_
  refine QL [] QZ ?_
  refine dP 0 ?_
  refine dP 1 ?_
  refine dV 2 rfl (Q1 rfl rfl rfl Tryz.underlying9 0 rfl (by omega)) ?_
  refine dQ 3 [] rfl (QE rfl QtD rfl (fun w1 h1=>c239 w1 s hl)) ?_
  refine dP 4 ?_
  refine dV 5 rfl (Q1 rfl rfl rfl Tryz.underlying9 0 rfl (by omega)) ?_
  refine dQ 6 [] rfl (QE rfl Qt5 rfl (fun w1 h1=>c238 w1 (trR s) (by omega))) ?_
  refine dP 7 ?_
  refine dNi ?_
  exact rT rfl rfl (fun w' h'=>⟨by rfl,h'.below⟩)
 exfalso;simp at h10
theorem c149 (w : World) (s : List UInt8) (u : Int) (h5 : s.length = 512) (hz : zer (Qn s 40 18) = true) (hu : 1 ≤ u ∧ u ≤ 65535) : Calls Tryz.prog 149 #[.string (bs s),.int .i64 u] w fun en w'=>en = .returned (.tuple #[.string (bs (Qbc s u)),.int .i64 0]) ∧ Below w.heap.size w w':=by
 have hsl : Qn s 40 18 = (s.drop 40).take 18:=rfl
 have hb : (Qn s 40 18).length = 18:=QJ (by omega)
 have hzt:=(Qpk (Qn s 40 18)).2 hz
 have h0l : s.length = s.length:=rfl
 refine eN2 Tryz.func149 Tryz.ntmps149 ?_
 refine aU9 ?_
 refine oCq rfl (fun w1 h1=>QsW w1 _) ?_
 refine aU7 ?_
 refine sCd rfl (fun h1=>?_) fun h1=>?_
 ·exfalso;have hq:=h1;simp [h5] at hq
 refine aU5 ?_
 refine o_p (Q0 _ _ 40 58 rfl rfl Tryz.underlying9 ⟨_,_,rfl,rfl⟩ ⟨_,_,rfl,rfl⟩ (by omega) (by omega)) rfl ?_
 refine Qk (show _ = Value.string (bs (Qn s 40 18)) from by rw [Z4 (n:=18) rfl]) ?_
 refine oCq rfl (fun w1 h1=>c204 w1 (Qn s 40 18) (by omega)) ?_
 refine aU ?_
 refine oCq rfl (fun w1 h1=>Qtd w1 _ _) ?_
 refine aU ?_
 refine oCq rfl (fun w1 h1=>c205 w1 _ _ _) ?_
 refine oCq rfl (fun w1 h1=>Qtd w1 _ _) ?_
 refine o_h (Ql (cs:=[_,_]) rfl rfl Y3 Qcj rfl rfl rfl) rfl (fun b2 _=>?_)
 refine oCq rfl (fun w1 h1=>f203 h1 aPk (by rfl) (by rfl) (by decide)) ?_
 refine aU7 ?_
 refine sCd rfl (fun h3=>?_) fun h3=>?_
 ·exfalso;have hq:=h3;simp [hzt,hu] at hq;exact hq rfl
 refine aU4 ?_
 refine o_h (Z2 rfl rfl Tryz.underlying9 Tryz.underlying236 Tryz.underlying5 rfl (by simp only [maxLen];omega)) rfl (fun ⟨b4,c5⟩ ⟨h6,k7⟩=>?_)
 refine aU6 ?_
 refine oCq rfl (fun w1 h1=>c206 w1 u (by omega)) ?_
 refine o_h (Xg (Cs:=[.blk b4 u8T c5 ((s).map bv)]) rfl Qhg rfl aPs (fun w1 h1 hf=>QrM w1 b4 c5 s.length c5 40 s (le2 u) hf rfl (by rw [show ((le2 u)).length = 2 from rfl];first | omega | (unfold tlA;omega)) (by first | omega | (unfold tlA;omega)) (by omega) (by simp only [maxLen] at *;omega))) rfl (fun _ _=>?_)
 refine aU7 ?_
 refine Qj (L':=[(1,_),(4,_),(5,_),(8,_),(34,_)]) aSx (fun _ h=>h) ?_
 refine Qt (α:=Nat) [9,34,35,36,37,38,39,40,41,42,43,44,45,46,47,48,49,50,51,52] (fun k=>[(34,.int .i64 (k : Int))]) (fun k=>HS w [] [.blk b4 u8T c5 ((prI s u k).map bv)]) (fun k=>k ≤ 8) (fun k=>8 - k) 0 (Nat.zero_le _) aSx (fun w h=>h.ent aEt) (fun k hk8=>?_)
 refine aU5 ?_
 refine sCd rfl (fun h8=>?_) fun h8=>?_
 ·have hk : k < 8:=by omega
  have hpl : (prI s u k).length = s.length:=by rw [QcR h5 k (by omega),h5]
  have hpl1 : (Qz (prI s u k) (42 + 2 * k) (Qn (prI s u k) (tlA k) 2)).length = s.length:=by rw [XA (by rw [show (Qn (prI s u k) (tlA k) 2).length = 2 from QJ (by rw [hpl];unfold tlA;omega),hpl];omega),hpl]
  refine aT13 ?_
  refine aT ?_
  refine Qk (show _ = Value.int .i64 ((42 + 2 * k : Nat) : Int) from by congr 1) ?_
  refine aU2 ?_
  refine oCq rfl (fun w1 h1=>QrU w1 k (by omega)) ?_
  refine oCq rfl (fun w1 h1=>Qnh w1 (some ⟨b4,0,none⟩) c5 s.length (tlA k) (prI s u k) (h1.vl_blk aPk) hpl (by unfold tlA;omega) (by omega) (by simp only [maxLen] at *;omega)) ?_
  refine o_h (Xg (Cs:=[.blk b4 u8T c5 (((prI s u k)).map bv)]) rfl Qhg rfl aPs (fun w1 h1 hf=>QrM w1 b4 c5 s.length c5 (42 + 2 * k) (prI s u k) (Qn (prI s u k) (tlA k) 2) hf hpl (by rw [show ((Qn (prI s u k) (tlA k) 2)).length = 2 from QJ (by rw [hpl];unfold tlA;omega)];first | omega | (unfold tlA;omega)) (by first | omega | (unfold tlA;omega)) (by omega) (by simp only [maxLen] at *;omega))) rfl (fun _ _=>?_)
  refine aU4 ?_
  refine oCq rfl (fun w1 h1=>QrU w1 k (by omega)) ?_
  refine aU ?_
  refine oCq rfl (fun w1 h1=>c206 w1 u (by omega)) ?_
  refine o_h (Xg (Cs:=[.blk b4 u8T c5 (((Qz (prI s u k) (42 + 2 * k) (Qn (prI s u k) (tlA k) 2))).map bv)]) rfl Qhg rfl aPs (fun w1 h1 hf=>QrM w1 b4 c5 s.length c5 (tlA k) (Qz (prI s u k) (42 + 2 * k) (Qn (prI s u k) (tlA k) 2)) (le2 u) hf hpl1 (by rw [show ((le2 u)).length = 2 from rfl];first | omega | (unfold tlA;omega)) (by first | omega | (unfold tlA;omega)) (by omega) (by simp only [maxLen] at *;omega))) rfl (fun _ _=>?_)
  refine aT4 ?_
  refine aU2 ?_
  exact sBk (k + 1)
 obtain rfl : k = 8:=by omega
 have hpl : (prI s u 8).length = s.length:=by rw [QcR h5 8 (by omega),h5]
 refine Qo rfl ?_
 refine aU3 ?_
 refine o_q (Yw rfl rfl Tryz.underlying236 Tryz.underlying9 Tryz.underlying5 aPk (by simp [hpl]) (QaH _)) rfl ?_
 refine aU3 ?_
 exact Qi (rs:=[.tmp 4,.tmp 5]) rfl (.tmp rfl (.tmp rfl (.nil))) (fun w' h'=>⟨by rw [ZK];rfl,h'.below⟩)
theorem c193 (w : World) (s : List UInt8) (hs5 : s.length = 512) : Calls Tryz.prog 193 #[.string (bs s)] w fun en w'=>∃ g : Option Addr × Nat,en = .returned (.slice g.1 (X9 s 8).length g.2) ∧ True ∧ HS w [] [.own (.slice g.1 (X9 s 8).length g.2) 3 1 (X9 s 8).length ((X9 s 8).flatMap inV)] w':=by
 refine eN1 Tryz.func193 Tryz.ntmps193 ?_
 refine aU7 ?_
 refine o_h (Z2 rfl rfl Tryz.underlying9 Tryz.underlying236 Tryz.underlying5 rfl (by simp only [maxLen];omega)) rfl (fun ⟨b1,c2⟩ ⟨h3,k4⟩=>?_)
 refine Qes ?_
 refine Qt (α:=Nat × Option Addr × Nat) [4,5,8,9,10,11,12,13,14,15,16,17,18,19,20,21,22,23,24,25,26,27,28] (fun x=>[(8,.int .i64 (x.1 : Int)),(4,.slice x.2.1 (X9 s x.1).length x.2.2)]) (fun x=>HS w [] [.blk b1 5 c2 (s.map bv),.own (.slice x.2.1 (X9 s x.1).length x.2.2) 3 1 (X9 s x.1).length ((X9 s x.1).flatMap inV)]) (fun x=>x.1 ≤ 8) (fun x=>8 - x.1) (0,none,0) (Nat.zero_le _) aSx (fun w h=>((h.own_nil 3 1).ent aEt)) (fun ⟨k,ga,gc⟩ hk8=>?_)
 dsimp only
 simp only [] at hk8
 have htl:=QjY s k
 refine aU5 ?_
 refine sCd rfl (fun h5=>?_) fun h5=>?_
 ·have hk : k < 8:=by omega
  have h40:=Qhr (s:=s) (p:=40) (by omega)
  refine Qfe ?_
  refine oCq rfl (fun w1 h1=>Qnh w1 (some ⟨b1,0,none⟩) c2 s.length 40 s (h1.vl_blk aPk) rfl (by first | omega | (unfold tlA;omega)) (by omega) (by simp only [maxLen] at *;omega)) ?_
  refine oCq rfl (fun w1 h1=>c194 w1 (Qn s 40 2) (by rw [QJ (by omega)];exact Nat.le_refl _)) ?_
  refine aU2 ?_
  refine oOr 8 15 23 rfl
   (fun hg6 _=>by
    refine aU5 ?_
    refine oCq rfl (fun w1 h1=>QrU w1 k (by omega)) ?_
    refine aU ?_
    refine oCq rfl (fun w1 h1=>Qnh w1 (some ⟨b1,0,none⟩) c2 s.length (tlA k) s (h1.vl_blk aPk) rfl (by first | omega | (unfold tlA;omega)) (by omega) (by simp only [maxLen] at *;omega)) ?_
    refine aU3 ?_
    refine oCq rfl (fun w1 h1=>Qnh w1 (some ⟨b1,0,none⟩) c2 s.length 40 s (h1.vl_blk aPk) rfl (by first | omega | (unfold tlA;omega)) (by omega) (by simp only [maxLen] at *;omega)) ?_
    refine aU2 ?_
    exact oJf 8 23)
   (fun hg8 _=>by
    refine aU7 ?_
    exact oJt 8 23) ?_
  refine aU ?_
  refine sCd rfl (fun h10=>?_) fun h10=>?_
  ·have hnx:=Qkz (s:=s) (k:=k) ((QgU hs5 hk).2 (by have hq:=h10;rw [h40] at hq;simpa using hq))
   refine aU3 ?_
   refine o_h (Ql (cs:=[_]) rfl rfl QN Qbp rfl rfl rfl) rfl (fun b11 _=>?_)
   refine o_h (Xx _ rfl rfl rfl QN Tryz.underlying28 Qbp rfl aPk (Xe aPk) rfl (by intro u hu;simp only [List.mem_cons,List.mem_nil_iff,or_false] at hu;subst hu;rfl) (by omega) (by simp only [maxLen];omega)) rfl (fun b12 _=>?_)
   refine aT5 ?_
   refine aU2 ?_
   exact QW (k + 1,b12.1,b12.2) (by (try simp only []);omega) (by simp only [];omega) (by dsimp only;rw [hnx,List.length_append];exact aSx) (fun w h=>by dsimp only;rw [hnx,List.length_append,Qcs];exact h.ent aEt)
  have hnx:=QmV (s:=s) (k:=k) (Bool.eq_false_iff.2 fun h9=>by have hq:=h10;rw [h40] at hq;have h8:=(QgU hs5 hk).1 h9;simp at hq;rcases h8 with h8 | h8;exact hq.1 h8;exact h8 hq.2)
  refine aT4 ?_
  refine aU2 ?_
  exact QW (k + 1,ga,gc) (by (try simp only []);omega) (by simp only [];omega) (by dsimp only;rw [hnx];exact aSx) (fun w h=>by dsimp only;rw [hnx];exact h.ent aEt)
 obtain rfl : k = 8:=by omega
 refine Qo rfl ?_
 refine aU5 ?_
 exact rT rfl rfl (fun w' h'=>⟨(ga,gc),rfl,trivial,h'.ent aEt⟩)
instance : TFn Tryz.prog 193:=⟨by kernel_rfl⟩
def Qhn (s : List UInt8) : List UInt8 × Int × Int:=if s.length = 512 then if Xy s then ([],0,31) else (QA s,((ub2 s 40 : Nat) : Int),0) else ([],0,10)
theorem Qoi {s : List UInt8} (h : ¬ s.length = 512) : Qhn s = ([],0,10):=by unfold Qhn;rw [if_neg h]
theorem Qgl {s : List UInt8} (h : s.length = 512) (ht : Xy s = true) : Qhn s = ([],0,31):=by unfold Qhn;rw [if_pos h,if_pos ht]
theorem QhA {s : List UInt8} (h : s.length = 512) (ht : Xy s = false) : Qhn s = (QA s,((ub2 s 40 : Nat) : Int),0):=by unfold Qhn;rw [if_pos h,ht];rfl
theorem c130 (w : World) (s : List UInt8) (hsl : s.length ≤ 1000000) : Calls Tryz.prog 130 #[.string (bs s)] w fun en w'=>en = .returned (.tuple #[.string (bs (Qhn s).1),.int .i64 (Qhn s).2.1,.int .i64 (Qhn s).2.2]) ∧ Below w.heap.size w w':=by
 refine eN1 Tryz.func130 Tryz.ntmps130 ?_
 refine Qaj ?_
 refine oCq rfl (fun w1 h1=>QsW w1 _) ?_
 refine aU7 ?_
 refine sCd rfl (fun h1=>?_) fun h1=>?_
 ·have hn5 : ¬ s.length = 512:=fun h9=>by have hq:=h1;simp [h9] at hq
  have hV:=Qoi hn5
  have hd9 : decide ((s.length : Int) = 512) = false:=decide_eq_false (by omega)
  refine aU7 ?_
  exact Qi (rs:=[.tmp 2,.tmp 3,.tmp 4]) rfl (.tmp rfl (.tmp rfl (.tmp rfl (.nil)))) (fun w' h'=>⟨by rw [hV,hd9];rfl,h'.below⟩)
 have hs5 : s.length = 512:=by have hq:=h1;cases hd9 : decide ((s.length : Int) = 512);rw [hd9] at hq;cases hq;have:=of_decide_eq_true hd9;omega
 refine aU5 ?_
 refine oCh rfl (fun w1 h1=>c193 w1 s hs5) (fun ⟨ga,gc⟩ _=>?_)
 refine aU3 ?_
 refine sCd rfl (fun h2=>?_) fun h2=>?_
 ·have hV:=Qgl hs5 (QgK.1 (by have hq:=h2;omega))
  refine aU6 ?_
  exact Qi (rs:=[.tmp 2,.tmp 3,.tmp 4]) rfl (.tmp rfl (.tmp rfl (.tmp rfl (.nil)))) (fun w' h'=>⟨by rw [hV];rfl,h'.below⟩)
 have ht : Xy s = false:=Bool.eq_false_iff.2 fun h9=>by have hq:=h2;have:=QgK.2 h9;omega
 have hV:=QhA hs5 ht
 refine aU4 ?_
 refine o_h (Z2 rfl rfl Tryz.underlying9 Tryz.underlying236 Tryz.underlying5 rfl (by simp only [maxLen];omega)) rfl (fun ⟨b3,c4⟩ ⟨h5,k6⟩=>?_)
 refine aU5 ?_
 refine oCq rfl (fun w1 h1=>Qnh w1 (some ⟨b3,0,none⟩) c4 s.length 40 s (h1.vl_blk aPk) rfl (by omega) (by omega) (by simp only [maxLen] at *;omega)) ?_
 refine oCq rfl (fun w1 h1=>by have h9:=c194 w1 (Qn s 40 2) (by rw [QJ (by omega)];exact Nat.le_refl _);rw [Qhr (by omega)] at h9;exact h9) ?_
 refine aU8 ?_
 refine Qj (L':=[(2,_),(3,_),(4,_),(6,_),(7,_),(23,_)]) aSx (fun _ h=>h) ?_
 refine Qt (α:=Nat) [8,23,24,25,26,27,28,29,30,31,32,33,34,35] (fun k=>[(23,.int .i64 (k : Int))]) (fun k=>HS w [] [.blk b3 u8T c4 ((opI s k).map bv)]) (fun k=>k ≤ 8) (fun k=>8 - k) 0 (Nat.zero_le _) aSx (fun w h=>h.ent aEt) (fun k hk8=>?_)
 refine aU5 ?_
 refine sCd rfl (fun h7=>?_) fun h7=>?_
 ·have hk : k < 8:=by omega
  have hpl : (opI s k).length = s.length:=by rw [ZH hs5 k (by omega),hs5]
  have hxl : (Qn (opI s k) (42 + 2 * k) 2).length = 2:=QJ (by rw [hpl];omega)
  have htl : tlA k = 64 * k + 62:=rfl
  refine Qfe ?_
  refine oCq rfl (fun w1 h1=>QrU w1 k (by omega)) ?_
  refine aT3 ?_
  refine aT ?_
  refine Qk (show _ = Value.int .i64 ((42 + 2 * k : Nat) : Int) from by congr 1) ?_
  refine oCq rfl (fun w1 h1=>Qnh w1 (some ⟨b3,0,none⟩) c4 s.length (42 + 2 * k) (opI s k) (h1.vl_blk aPk) hpl (by omega) (by omega) (by simp only [maxLen] at *;omega)) ?_
  refine o_h (Xg (Cs:=[.blk b3 u8T c4 (((opI s k)).map bv)]) rfl Qhg rfl aPs (fun w1 h1 hf=>QrM w1 b3 c4 s.length c4 (tlA k) (opI s k) (Qn (opI s k) (42 + 2 * k) 2) hf hpl (by omega) (by omega) (by omega) (by simp only [maxLen] at *;omega))) rfl (fun _ _=>?_)
  refine aT4 ?_
  refine aU2 ?_
  exact sBk (k + 1)
 obtain rfl : k = 8:=by omega
 have hpl : (opI s 8).length = s.length:=by rw [ZH hs5 8 (by omega),hs5]
 have hop : (QA s).length = s.length:=by rw [YK hs5,hs5]
 have hpu:=QlX (x:=(opI s 8)) (l:=List.replicate 18 (0 : UInt8)) (i:=40) (by rw [hpl,List.length_replicate];omega)
 have hcl : Qd ((opI s 8).map bv) 40 (Xw [.int .u8 0] (18 * 1)) = (QA s).map bv:=by rw [Qi1];exact hpu
 refine Qo rfl ?_
 refine aU3 ?_
 refine o_p (Qs _ _ 40 58 rfl rfl QfV ⟨_,_,rfl,rfl⟩ ⟨_,_,rfl,rfl⟩ (by omega) (by omega)) rfl ?_
 refine QmN (Qlw (b:=b3) (i:=40) rfl rfl QfV Qbe rfl rfl (by simp) aPt (fun _=>by rw [XB (by omega)] <;> (congr 2 <;> omega)) (by rw [List.length_map,hpl];omega)) (fun _ _=>?_)
 refine aU4 ?_
 refine Ye (L:=_) (C':=HS w [] [.blk b3 u8T c4 ((QA s).map bv)]) (fun w9 h=>by have h9 : HS w [] [.blk b3 u8T c4 (Qd ((opI s 8).map bv) 40 (Xw [.int .u8 0] (18 * 1)))] w9:=h;rwa [hcl] at h9) ?_
 refine o_q (Yw rfl rfl Tryz.underlying236 Tryz.underlying9 Tryz.underlying5 aPk (by simp [hop]) (QaH _)) rfl ?_
 refine aU5 ?_
 exact Qi (rs:=[.tmp 2,.tmp 3,.tmp 4]) rfl (.tmp rfl (.tmp rfl (.tmp rfl (.nil)))) (fun w' h'=>⟨by rw [hV,ZK];rfl,h'.below⟩)
theorem Quy (w : World) (g m cap tot p : Nat) (l : List UInt8) (u : Int) (hw : HS w (fps [.blk g u8T tot ((l).map bv)]) [.blk g u8T tot ((l).map bv)] w) (hp : p + m ≤ l.length) (hm : 2 ≤ m) (hu : 0 ≤ u ∧ u < 65536) : Calls Tryz.prog 147 #[.slice (some ⟨g,p,none⟩) m cap,.int .u16 u] w fun en w'=>∃ _ : Unit,en = .returned (.tuple #[]) ∧ True ∧ HS w (fps [.blk g u8T tot ((l).map bv)]) [.blk g u8T tot ((Qz l p (le2 u)).map bv)] w':=by
 refine eW2 Tryz.func147 Tryz.ntmps147 hw ?_
 refine aU4 ?_
 refine o_p (Qm rfl rfl X0 Zf) rfl ?_
 refine Qk (show _ = bv (by8 u) from YO _) ?_
 refine aU ?_
 refine o_p (QcQ rfl rfl rfl (by decide) 8 rfl) rfl ?_
 refine o_p (Qm rfl rfl X0 Zf) rfl ?_
 refine Qk (show _ = bv (by8 (u / 256)) from YO _) ?_
 refine o_p (Qc rfl rfl rfl Qw 0 rfl (by omega) rfl) rfl ?_
 refine aU ?_
 refine o_p (Qc rfl rfl rfl Qw 1 rfl (by omega) rfl) rfl ?_
 refine aU2 ?_
 exact Qfw rfl (fun w' h'=>⟨(),rfl,trivial,by have h9:=QlX (x:=l) (l:=le2 u) (i:=p) (by simp only [le2,List.length_cons,List.length_nil];omega);rw [← h9];exact h'.ent aEt⟩)
end Go.Proofs
namespace Gx
open Go Go.RowKit
section
variable {w0 w : World} {M : List Nat} {As As' : List HA}
theorem HS.byz_full {g cap : Nat} {l : List UInt8} (hp : QD As (.byz (some ⟨g,0,none⟩) cap l) As') (h : HS w0 M As w) (h0 : 0 < cap) : HS w0 M (.blk g u8T cap ((l ++ List.replicate (cap - l.length) 0).map bv) :: As') w:=by
 obtain ⟨g',e,_,_,h1⟩:=HS.blk_byz hp h h0;injection e with e
 injection e with e
 subst e
 rwa [List.map_append,List.map_replicate]
theorem QsU {cap : Nat} {l : List UInt8} (n : Nat) (h : n = cap - l.length) : (l ++ List.replicate n 0).map bv = Qeu cap l:=by
 subst h;rw [List.map_append,List.map_replicate];rfl
end
theorem Qgo {l x y : List UInt8} {p q : Nat} (hq : q = p + x.length) (h : p + x.length + y.length ≤ l.length) : Qz (Qz l p x) q y = Qz l p (x ++ y):=by
 subst hq;apply List.ext_getElem?
 grind [Yp,XA]
theorem Qty (num lsn : Int) (c : Nat) : Qz (Qz (Qz (Qz (List.replicate 512 0) 0 Qdh) 8 (le4 lsn)) 12 (le4 num)) 16 (le2 c) = hdB num lsn c ++ List.replicate 448 0:=by
 have e0 : (List.replicate 512 (0 : UInt8)) = List.replicate 64 0 ++ List.replicate 448 0:=by rw [List.replicate_append_replicate]
 have hp : ∀ (A B x : List UInt8) (p : Nat),p + x.length ≤ A.length → Qz (A ++ B) p x = Qz A p x ++ B:=fun A B x p h=>by
  unfold Qz;rw [List.take_append_of_le_length (by omega),List.drop_append_of_le_length (by omega)];simp only [List.append_assoc]
 rw [e0,hp _ _ _ _ (by decide),hp _ _ _ _ (by show 8 + 4 ≤ 64;decide),hp _ _ _ _ (by show 12 + 4 ≤ 64;decide),hp _ _ _ _ (by show 16 + 2 ≤ 64;decide)];rfl
end Gx
namespace Go.Proofs
open Go Go.RowKit Gx
attribute [local irreducible] Go.Calls Gx.S Gx.O Gx.D Gx.OpP Gx.OpQ Gx.OpH
set_option maxRecDepth 20000
theorem Qj2 : Xl Tryz.prog 147 = true:=by kernel_rfl
instance : TFd Tryz.prog 118 1 3 3:=⟨by kernel_rfl⟩
theorem QpF : Xl Tryz.prog 146 = true:=by kernel_rfl
instance : TFd Tryz.prog 118 0 0 69:=⟨by kernel_rfl⟩
instance : TFd Tryz.prog 118 2 4 3:=⟨by kernel_rfl⟩
theorem Qs9 : Xl Tryz.prog 149 = true:=by kernel_rfl
theorem QuS (w : World) (g m cap tot p : Nat) (l : List UInt8) (u : Int) (hw : HS w (fps [.blk g u8T tot ((l).map bv)]) [.blk g u8T tot ((l).map bv)] w) (hp : p + m ≤ l.length) (hm : 2 ≤ m) : Calls Tryz.prog 147 #[.slice (some ⟨g,p,none⟩) m cap,.int .u16 (u % 65536)] w fun en w'=>∃ _ : Unit,en = .returned (.tuple #[]) ∧ True ∧ HS w (fps [.blk g u8T tot ((l).map bv)]) [.blk g u8T tot ((Qz l p (le2 u)).map bv)] w':=by
  have h9:=Quy w g m cap tot p l (u % 65536) hw hp hm (by omega);rw [QoT] at h9;exact h9
theorem c146 (w : World) (g m cap tot p : Nat) (l : List UInt8) (u : Int) (hw : HS w (fps [.blk g u8T tot ((l).map bv)]) [.blk g u8T tot ((l).map bv)] w) (hp : p + m ≤ l.length) (hm : 4 ≤ m) (hmc : m ≤ cap) (hc9 : cap ≤ 9223372036854775807) (hu : 0 ≤ u ∧ u < 4294967296) : Calls Tryz.prog 146 #[.slice (some ⟨g,p,none⟩) m cap,.int .u32 u] w fun en w'=>∃ _ : Unit,en = .returned (.tuple #[]) ∧ True ∧ HS w (fps [.blk g u8T tot ((l).map bv)]) [.blk g u8T tot ((Qz l p (le4 u)).map bv)] w':=by
 have hl1 : (Qz l p (le2 u)).length = l.length:=XA (by show p + 2 ≤ _;omega)
 have he9 : Qz (Qz l p (le2 u)) (p + 2) (le2 (u / 65536)) = Qz l p (le4 u):=by rw [Qgo (l:=l) (p:=p) (q:=p + 2) (x:=le2 u) rfl (by show p + 2 + 2 ≤ _;omega),show le2 (u / 65536) = [by8 (u / 65536),by8 (u / 16777216)] from by unfold le2;rw [show u / 65536 / 256 = u / 16777216 from by omega]];rfl
 refine eW2 Tryz.func146 Tryz.ntmps146 hw ?_
 refine aU4 ?_
 refine o_p (Qm rfl rfl YH X0) rfl ?_
 refine Qk (show _ = Value.int .u16 (u % 65536) from by rw [Qjl]) ?_
 refine o_h (Xg (Cs:=[.blk g u8T tot ((l).map bv)]) rfl Qj2 rfl aPs (fun w1 h1 hf=>QuS w1 g m cap tot p l u hf hp (by omega))) rfl (fun _ _=>?_)
 refine aU3 ?_
 refine o_p (Qs _ _ 2 m rfl rfl Qw ⟨_,_,rfl,rfl⟩ rfl (by omega) (by omega)) rfl ?_
 refine Qk (show _ = Value.slice (some ⟨g,p + 2,none⟩) (m - 2) (cap - 2) from by rw [QhZ rfl (by omega)]) ?_
 refine aU ?_
 refine o_p (QcQ rfl rfl rfl (by decide) 16 rfl) rfl ?_
 refine o_p (Qm rfl rfl YH X0) rfl ?_
 refine Qk (show _ = Value.int .u16 (u / 65536) from by rw [Qjl];congr 1;omega) ?_
 refine o_h (Xg (Cs:=[.blk g u8T tot (((Qz l p (le2 u))).map bv)]) rfl Qj2 rfl aPs (fun w1 h1 hf=>Quy w1 g (m - 2) (cap - 2) tot (p + 2) (Qz l p (le2 u)) (u / 65536) hf (by omega) (by omega) (by omega))) rfl (fun _ _=>?_)
 refine aU ?_
 exact Qfw rfl (fun w' h'=>⟨(),rfl,trivial,by rw [← he9];exact h'.ent aEt⟩)
theorem c79 (w : World) (n : LNd) (num lsn usn : Int) (hes : Rw TEnt.vals 2 w [] n.ea n.es) (hcs : Rw inV 1 w [] n.ca n.cs) (hp : NdP n.pl) (hcb : (YN n.pl).length ≤ 448) (hnum : 0 ≤ num ∧ num < 4294967296) (hlsn : 0 ≤ lsn ∧ lsn < 4294967296) (hu : 1 ≤ usn ∧ usn ≤ 65535) : Calls Tryz.prog 79 #[.agg #[.bool n.us,.slice n.ea n.es.length n.ec,.slice n.ca n.cs.length n.cc,.int .i64 lsn,.int .i64 usn],.int .i64 num] w fun en w'=>en = .returned (.string (bs (QiV n.pl num lsn usn))) ∧ Below w.heap.size w w':=by
 have hel : n.es.length ≤ 1000:=hp.el
 have z0 : (List.replicate 512 (0 : UInt8)).length = 512:=List.length_replicate
 have z1 : (Qz (List.replicate 512 (0 : UInt8)) 0 Qdh).length = 512:=by rw [XA (by rw [z0];decide),z0]
 have z2 : (Qz (Qz (List.replicate 512 (0 : UInt8)) 0 Qdh) 8 (le4 lsn)).length = 512:=by rw [XA (by rw [z1];show 8 + 4 ≤ 512;decide),z1]
 have z3 : (Qz (Qz (Qz (List.replicate 512 (0 : UInt8)) 0 Qdh) 8 (le4 lsn)) 12 (le4 num)).length = 512:=by rw [XA (by rw [z2];show 12 + 4 ≤ 512;decide),z2]
 have hd9:=Qty num lsn n.es.length
 have hfu : ((hdB num lsn n.es.length) ++ YN n.pl) ++ List.replicate (512 - ((hdB num lsn n.es.length) ++ YN n.pl).length) 0 = QcN n.pl num lsn:=by rw [List.length_append,Qa1,show 512 - (64 + (YN n.pl).length) = 448 - (YN n.pl).length by omega];rfl
 have hnl:=Qic (num:=num) (lsn:=lsn) hcb
 refine eN2 Tryz.func79 Tryz.ntmps79 ?_
 refine aU2 ?_
 refine oBx fun b1 _=>?_
 refine aU4 ?_
 refine o_h (Ev.h_make2 (k:=64) (n:=512) rfl rfl rfl Qw Qbe (by decide) (by decide) (by decide)) rfl (fun b2 _=>?_)
 refine Ye (C':=HS w [] [.blk b1 118 5 _,.blk b2 u8T 512 (((List.replicate 512 (0 : UInt8))).map bv)]) (fun w9 h=>by have h9:=h.ent (Bs:=[.blk b1 118 5 _,.blk b2 u8T 512 (Xw [.int .u8 0] (512 * 1))]) aEt;rwa [Qi1] at h9) ?_
 refine aU5 ?_
 refine o_h (Qfm (b:=b2) (i:=0) (l:=Qdh) (x:=(List.replicate 512 (0 : UInt8))) rfl rfl (fun _=>rfl) rfl Qw aPt (by decide) (by decide) (by rw [z0];decide)) rfl (fun _ _=>?_)
 refine aU2 ?_
 refine QL [5] QZ ?_
 refine dP 0 ?_
 refine dV 1 rfl (Qs _ _ 8 64 rfl rfl Qw ⟨_,_,rfl,rfl⟩ rfl (by omega) (by omega)) ?_
 refine QT (show _ = Value.slice (some ⟨b2,8,none⟩) 56 504 from by rw [XB (by decide)]) ?_
 refine dFa 2 ?_
 refine dLd 3 [[4]] ?_
 refine dV 4 rfl (Qm rfl rfl YY YH) ?_
 refine QT (show _ = Value.int .u32 lsn from by rw [Qea];congr 1;omega) ?_
 refine dH 5 rfl (Xg (Cs:=[.blk b2 u8T 512 (((Qz (List.replicate 512 (0 : UInt8)) 0 Qdh)).map bv)]) rfl QpF rfl aPs (fun w1 h1 hf=>c146 w1 b2 56 504 512 8 (Qz (List.replicate 512 (0 : UInt8)) 0 Qdh) lsn hf (by rw [z1];decide) (by decide) (by decide) (by decide) hlsn)) (fun _ _=>?_)
 refine dTu [] ?_
 refine dNi ?_
 refine aU3 ?_
 refine o_p (Qs _ _ 12 64 rfl rfl Qw ⟨_,_,rfl,rfl⟩ rfl (by omega) (by omega)) rfl ?_
 refine Qk (show _ = Value.slice (some ⟨b2,12,none⟩) 52 500 from by rw [XB (by decide)]) ?_
 refine aU ?_
 refine o_p (Qm rfl rfl YY YH) rfl ?_
 refine Qk (show _ = Value.int .u32 num from by rw [Qea];congr 1;omega) ?_
 refine o_h (Xg (Cs:=[.blk b2 u8T 512 (((Qz (Qz (List.replicate 512 (0 : UInt8)) 0 Qdh) 8 (le4 lsn))).map bv)]) rfl QpF rfl aPs (fun w1 h1 hf=>c146 w1 b2 52 500 512 12 (Qz (Qz (List.replicate 512 (0 : UInt8)) 0 Qdh) 8 (le4 lsn)) num hf (by rw [z2];decide) (by decide) (by decide) (by decide) hnum)) rfl (fun _ _=>?_)
 refine aU2 ?_
 refine QL [7] QZ ?_
 refine dP 0 ?_
 refine dV 1 rfl (Qs _ _ 16 64 rfl rfl Qw ⟨_,_,rfl,rfl⟩ rfl (by omega) (by omega)) ?_
 refine QT (show _ = Value.slice (some ⟨b2,16,none⟩) 48 496 from by rw [XB (by decide)]) ?_
 refine dFa 2 ?_
 refine dFa 3 ?_
 refine dLd 4 [[6,5]] ?_
 refine dV 5 rfl (Xk rfl rfl Tryz.underlying67) ?_
 refine dV 6 rfl (Qm rfl rfl YY X0) ?_
 refine QT (show _ = Value.int .u16 (n.es.length : Int) from by rw [Qjl];congr 1;omega) ?_
 refine dH 7 rfl (Xg (Cs:=[.blk b2 u8T 512 (((Qz (Qz (Qz (List.replicate 512 (0 : UInt8)) 0 Qdh) 8 (le4 lsn)) 12 (le4 num))).map bv)]) rfl Qj2 rfl aPs (fun w1 h1 hf=>Quy w1 b2 48 496 512 16 (Qz (Qz (Qz (List.replicate 512 (0 : UInt8)) 0 Qdh) 8 (le4 lsn)) 12 (le4 num)) (n.es.length : Int) hf (by rw [z3];decide) (by decide) (by omega))) (fun _ _=>?_)
 refine dTu [] ?_
 refine dNi ?_
 refine aU3 ?_
 refine Ye (fun w9 h=>(HS.byz_blk (l:=(hdB num lsn n.es.length)) (cap:=512) (g:=b2) (cs:=(Qz (Qz (Qz (Qz (List.replicate 512 (0 : UInt8)) 0 Qdh) 8 (le4 lsn)) 12 (le4 num)) 16 (le2 (n.es.length : Int))).map bv) aPk h (by rw [Qa1];decide) (by decide) (by rw [hd9,QsU (cap:=512) 448 (by rw [Qa1])]))) ?_
 refine aU2 ?_
 refine o_h (Xg (Cs:=[.byz (some ⟨b2,0,none⟩) 512 ((hdB num lsn n.es.length))]) rfl QsY rfl aPs (fun w1 h1 hf=>c148 w1 (some ⟨b2,0,none⟩) 512 (hdB num lsn n.es.length) n hf (by rw [Qa1];decide) (by rw [Qa1]) ((hes.keep h1).mono (Qbu aPs)) ((hcs.keep h1).mono (Qbu aPs)) hp)) rfl (fun ⟨b3,c4⟩ hz5=>?_)
 obtain ⟨hB9,hC9⟩:=hz5 (by rw [List.length_append,Qa1];omega)
 simp only [] at hB9 hC9
 subst hB9 hC9
 refine Ye (C':=HS w [] [.blk b2 u8T 512 (((QcN n.pl num lsn)).map bv),.blk b1 118 5 _]) (fun w9 h=>by have h8:=HS.byz_full (l:=(hdB num lsn n.es.length) ++ YN n.pl) (cap:=512) (g:=b2) aPk h (by decide);rw [hfu] at h8;exact h8) ?_
 refine aU3 ?_
 refine Qj (L':=[(2,_),(4,_),(5,_)]) aSx (fun _ h=>h) ?_
 refine QL [] QZ ?_
 refine dP 0 ?_
 refine dV 1 rfl (Qs _ _ 0 512 rfl rfl Qw rfl ⟨_,_,rfl,rfl⟩ (by omega) (by omega)) ?_
 refine QT (show _ = Value.slice (some ⟨b2,0,none⟩) 512 512 from by first | (simp only [Y9];done) | (simp only [Y9];rfl)) ?_
 refine dQ 2 [] rfl (Yw rfl rfl Tryz.underlying139 Tryz.underlying9 Tryz.underlying5 aPk (by simp [hnl]) (QaH (QcN n.pl num lsn))) ?_
 refine QT (show _ = Value.string (bs (QcN n.pl num lsn)) from by rw [ZK]) ?_
 refine dFa 3 ?_
 refine dLd 4 [] ?_
 refine dQ 5 [] rfl (QE rfl Qs9 rfl (fun w1 h1=>c149 w1 (QcN n.pl num lsn) usn hnl QgA hu)) ?_
 refine dP 6 ?_
 refine dP 7 ?_
 refine dP 8 ?_
 refine dP 9 ?_
 refine dP 10 ?_
 refine dNi ?_
 refine aU5 ?_
 exact rT rfl rfl (fun w' h'=>⟨by rfl,h'.below⟩)
end Go.Proofs
namespace Gx
open Go Go.RowKit
section
variable {b : List UInt8} {num : Int} {n : Nd} {last : Nat}
theorem Qj5 (h : ¬ b.length = 512) : Xv b num = ndE 10:=by unfold Xv;rw [if_neg h]
theorem QkF (h : b.length = 512) (hn : ¬ (1 ≤ num ∧ num ≤ 120)) : Xv b num = ndE 2:=by unfold Xv;rw [if_pos h,if_neg hn]
theorem QhL (h : b.length = 512) (hn : 1 ≤ num ∧ num ≤ 120) (ht : Xy b = true) : Xv b num = ndE 31:=by unfold Xv;rw [if_pos h,if_pos hn,if_pos ht]
theorem QeE (h : b.length = 512) (hn : 1 ≤ num ∧ num ≤ 120) (ht : Xy b = false) (hr : rdB (QA b) = none) : Xv b num = ndE 3:=by grind [Xv]
theorem QcZ (h : b.length = 512) (hn : 1 ≤ num ∧ num ≤ 120) (ht : Xy b = false) (hr : rdB (QA b) = some (n,last)) :
  Xv b num = if Qgc (QA b) num && zer ((QA b).drop last) then ⟨n,(ub4 (QA b) 8 : Int),(ub2 b 40 : Int),0⟩ else ndE 3:=by
 grind [Xv]
theorem Qtx {s : List UInt8} (h : Qgc s num = true) : ub4 s 8 ≤ 2147483647:=by grind [Qgc]
theorem Qtr (h : b.length = 512) (hn : 1 ≤ num ∧ num ≤ 120) (ht : Xy b = false) (hr : rdB (QA b) = some (n,last)) (hx : ¬ (ub4 (QA b) 8 ≤ 2147483647 ∧ QiV n num (ub4 (QA b) 8 : Int) (ub2 b 40 : Int) = b)) : Xv b num = ndE 3:=by
 rw [QcZ h hn ht hr,if_neg]
 grind [ub4,QA,Qtx,Qly]
theorem Qvj (h : b.length = 512) (hn : 1 ≤ num ∧ num ≤ 120) (ht : Xy b = false) (hr : rdB (QA b) = some (n,last)) (hl : ub4 (QA b) 8 ≤ 2147483647) (hx : QiV n num (ub4 (QA b) 8 : Int) (ub2 b 40 : Int) = b) : Xv b num = ⟨n,(ub4 (QA b) 8 : Int),(ub2 b 40 : Int),0⟩:=by
 rw [QcZ h hn ht hr,if_pos ((Qly h ht (by omega) hr hl).1 hx)]
theorem QnC {u v : Bool} (hu : u = true ↔ b.length = 512) (hv : v = true ↔ 1 ≤ num ∧ num ≤ 120) :
  (Xt [.int .i64 (bif u then 0 else 10),.int .i64 (bif v then 0 else 2)] = 0 → b.length = 512 ∧ (1 ≤ num ∧ num ≤ 120)) ∧
  (¬ Xt [.int .i64 (bif u then 0 else 10),.int .i64 (bif v then 0 else 2)] = 0 → Xv b num = ndE (Xt [.int .i64 (bif u then 0 else 10),.int .i64 (bif v then 0 else 2)])):=by
 cases u with
 | false=>exact ⟨fun h=>absurd (show (10 : Int) = 0 from h) (by decide),fun _=>Qj5 fun h9=>by cases hu.2 h9⟩
 | true=>
  cases v with
  | false=>exact ⟨fun h=>absurd h (by decide),fun _=>QkF (hu.1 rfl) fun h9=>by cases hv.2 h9⟩
  | true=>exact ⟨fun _=>⟨hu.1 rfl,hv.1 rfl⟩,fun h=>absurd rfl h⟩
theorem Qqt {s : List UInt8} (h : 1 ≤ ub2 s 16 ∧ ub2 s 16 ≤ 4) : rdB s = rdN s 64 (ub2 s 16):=by unfold rdB;rw [if_pos h]
theorem Qqf {s : List UInt8} (h : ¬ (1 ≤ ub2 s 16 ∧ ub2 s 16 ≤ 4)) : rdB s = none:=by unfold rdB;rw [if_neg h]
end
def nbE (t : Tre) (num lsn usn : Int) : Int:=if QsL t = 0 then if (1 ≤ num ∧ num ≤ (t.ns.length : Int) - 1) ∧ (nth t.ns num.toNat).us = true then if (0 ≤ lsn ∧ lsn ≤ 2147483647) ∧ 1 ≤ usn ∧ usn ≤ 65535 then 0 else 2 else 6 else QsL t
section
variable {t : Tre} {num lsn usn : Int}
end
end Gx
namespace Go.Proofs
open Go Go.RowKit Gx
attribute [local irreducible] Go.Calls Gx.S Gx.O Gx.D Gx.OpP Gx.OpQ Gx.OpH
set_option maxRecDepth 20000
theorem Qfd : Zc Tryz.prog 118 = some [(0,3),(3,1),(4,1)]:=by kernel_rfl
theorem QbF : QM Tryz.prog 118 = some [.bool false,.slice none 0 0,.slice none 0 0,.int .i64 0,.int .i64 0]:=by kernel_rfl
instance : TFn Tryz.prog 79:=⟨by kernel_rfl⟩
theorem Qd2 : tsz Tryz.prog 118 = some (5,true):=by kernel_rfl
instance : TSz Tryz.prog 118 5 true:=⟨Qd2⟩
instance : TFn Tryz.prog 130:=⟨by kernel_rfl⟩
theorem c63 (w : World) (s : List UInt8) (num : Int) (hsl : s.length ≤ 1000000) : Calls Tryz.prog 63 #[.string (bs s),.int .i64 num] w fun en w'=>∃ g : LNd,en = .returned (.tuple #[.agg #[.bool g.us,.slice g.ea g.es.length g.ec,.slice g.ca g.cs.length g.cc,.int .i64 (Xv s num).lsn,.int .i64 (Xv s num).usn],.int .i64 (Xv s num).e]) ∧ g.pl = (Xv s num).n ∧ HS w [] [.ents 27 g.ea g.ec g.es,.kids g.ca g.cc g.cs] w':=by
 have hF:=QnC (b:=s) (num:=num) (u:=decide ((s.length : Int) = 512)) (v:=decide (1 ≤ num) && decide (num ≤ 120)) (by rw [decide_eq_true_eq];omega) (by simp only [Bool.and_eq_true,decide_eq_true_eq])
 refine eN2 Tryz.func63 Tryz.ntmps63 ?_
 refine aU2 ?_
 refine oAl (fun b1 _=>?_) QbF
 refine aU6 ?_
 refine oCq rfl (fun w1 h1=>QsW w1 _) ?_
 refine aU ?_
 refine oCq rfl (fun w1 h1=>c87 w1 _ _ _) ?_
 refine oCq rfl (fun w1 h1=>c60 w1 _ _) ?_
 refine o_h (Ql (cs:=[_,_]) rfl rfl Y3 Qcj rfl rfl rfl) rfl (fun b2 _=>?_)
 refine oCq rfl (fun w1 h1=>f59 h1 aPk (by rfl) (by rfl) (by decide)) ?_
 refine aU7 ?_
 refine sCd rfl (fun h3=>?_) fun h3=>?_
 ·have hR:=hF.2 h3
  refine aU2 ?_
  refine o_p (QF (cs:=[_,_,_,_,_]) rfl rfl Qfd QbF rfl) rfl ?_
  refine aU4 ?_
  exact Qi (rs:=[.cell 4 118,.tmp 5]) rfl (.cell rfl Qd2 aPk rfl (.tmp rfl (.nil))) (fun w' h'=>⟨⟨false,none,0,[],none,0,[]⟩,by rw [hR];rfl,by rw [hR];rfl,((h'.nil.own_nil 3 1).own_nil 27 2).ent aEt⟩)
 obtain ⟨hs5,hn5⟩:=hF.1 h3
 refine aU4 ?_
 refine oCq rfl (fun w1 h1=>c130 w1 s hsl) ?_
 refine Qh8 ?_
 refine sCd rfl (fun h4=>?_) fun h4=>?_
 ·have ht : Xy s = true:=by cases ht : Xy s;have hq:=h4;rw [QhA hs5 ht] at hq;exact absurd rfl hq;rfl
  have hR:=QhL hs5 hn5 ht
  refine aU2 ?_
  refine o_p (QF (cs:=[_,_,_,_,_]) rfl rfl Qfd QbF rfl) rfl ?_
  refine aU3 ?_
  exact Qi (rs:=[.cell 4 118,.tmp 5]) rfl (.cell rfl Qd2 aPk rfl (.tmp rfl (.nil))) (fun w' h'=>⟨⟨false,none,0,[],none,0,[]⟩,by rw [hR];rfl,by rw [hR];rfl,((h'.nil.own_nil 3 1).own_nil 27 2).ent aEt⟩)
 have ht : Xy s = false:=by cases ht : Xy s;rfl;have hq:=h4;rw [Qgl hs5 ht] at hq;cases hq
 rw [QhA hs5 ht]
 dsimp only
 have hol9:=YK hs5
 obtain ⟨o,ho⟩ : ∃ o,o = QA s:=⟨_,rfl⟩
 rw [← ho]
 rw [← ho] at hol9
 have hol : o.length = 512:=hol9
 have hdl : ∀ k,k ≤ 512 → (o.drop k).length = 512 - k:=fun k hk=>by rw [List.length_drop,hol]
 have hb4:=Qk8 o 8
 have hb2:=Qc2 o 16
 have hu40:=Qc2 s 40
 have hu0 : 1 ≤ ub2 s 40:=by have:=(Qh9.1 ht).1;omega
 refine aU4 ?_
 refine o_h (Z2 rfl rfl Tryz.underlying9 Tryz.underlying139 Tryz.underlying5 rfl (by simp only [maxLen];omega)) rfl (fun ⟨b5,c6⟩ ⟨h7,k8⟩=>?_)
 refine aU5 ?_
 refine o_p (Qs _ _ 16 o.length rfl rfl Qw ⟨_,_,rfl,rfl⟩ rfl (by omega) (by omega)) rfl ?_
 refine Qk (show _ = Value.slice (XC (some ⟨b5,0,none⟩) c6 16 1) (512 - 16) (c6 - 16) from by rw [hol]) ?_
 refine oCq rfl (fun w1 h1=>QqI w1 (XC (some ⟨b5,0,none⟩) c6 16 1) (512 - 16) (c6 - 16) (o.drop 16) (by have h9:=(h1.vl_blk (cs:=o.map bv) aPk).dropA (k:=16) (cap:=c6) (by rw [List.length_map];omega) (by rw [List.length_map];omega);rw [← List.map_drop] at h9;exact h9) (hdl 16 (by omega)) (by omega) (by omega) (by simp only [maxLen] at *;omega)) ?_
 refine Qk (show _ = Value.int .u16 ((ub2 o 16 : Nat) : Int) from by rw [Qau,Nat.add_zero,Qch]) ?_
 refine o_p (Qm rfl rfl X0 YY) rfl ?_
 try refine oWr ?_
 refine aU4 ?_
 refine Qj (L':=[(0,_),(1,_),(4,_),(5,_),(8,_),(10,_),(11,_)]) aSx (fun _ h=>h) ?_
 refine aU2 ?_
 refine oCq rfl (fun w1 h1=>c87 w1 _ _ _) ?_
 refine aU2 ?_
 refine sCd rfl (fun h9=>?_) fun h9=>?_
 ·have hR:=QeE hs5 hn5 ht (by rw [← ho];exact Qqf (by have hq:=h9;intro h9;simp at hq;omega))
  refine aU2 ?_
  refine o_p (QF (cs:=[_,_,_,_,_]) rfl rfl Qfd QbF rfl) rfl ?_
  refine aU3 ?_
  exact Qi (rs:=[.cell 4 118,.tmp 5]) rfl (.cell rfl Qd2 aPk rfl (.tmp rfl (.nil))) (fun w' h'=>⟨⟨false,none,0,[],none,0,[]⟩,by rw [hR];rfl,by rw [hR];rfl,((h'.nil.own_nil 3 1).own_nil 27 2).ent aEt⟩)
 have hct : 1 ≤ ub2 o 16 ∧ ub2 o 16 ≤ 4:=by have hq:=h9;omega
 have hrb:=Qqt hct
 refine aU4 ?_
 refine o_p (Qs _ _ 64 o.length rfl rfl Qw ⟨_,_,rfl,rfl⟩ rfl (by omega) (by omega)) rfl ?_
 refine aU ?_
 refine oCh rfl (fun w1 h1=>c92 w1 o 64 (ub2 o 16) (XC (some ⟨b5,0,none⟩) c6 64 1) (c6 - 64) (by have h9:=(h1.vl_blk (cs:=o.map bv) aPk).dropA (k:=64) (cap:=c6) (by rw [List.length_map];omega) (by rw [List.length_map];omega);rw [← List.map_drop] at h9;exact h9) (by rw [hol];decide) (by rw [hol];decide) (by rw [hol];omega) (by simp only [maxLen] at *;omega) (by omega)) (fun ⟨gn,gr,gl,gc⟩ hgn=>?_)
 refine aU4 ?_
 refine oAl (fun b10 _=>?_) XS
 refine aU5 ?_
 refine QL [8] QZ ?_
 refine dLn 0 [[]] ?_
 refine dP 1 ?_
 refine dV 2 rfl (Qs _ _ 8 o.length rfl rfl Qw ⟨_,_,rfl,rfl⟩ rfl (by omega) (by omega)) ?_
 refine QT (show _ = Value.slice (XC (some ⟨b5,0,none⟩) c6 8 1) (512 - 8) (c6 - 8) from by rw [hol]) ?_
 refine dQ 3 [[]] rfl (QE rfl Qpd rfl (fun w1 h1=>c132 w1 (XC (some ⟨b5,0,none⟩) c6 8 1) (512 - 8) (c6 - 8) (o.drop 8) (by have h9:=(h1.vl_blk (cs:=o.map bv) aPk).dropA (k:=8) (cap:=c6) (by rw [List.length_map];omega) (by rw [List.length_map];omega);rw [← List.map_drop] at h9;exact h9) (hdl 8 (by omega)) (by omega) (by omega) (by simp only [maxLen] at *;omega))) ?_
 refine QT (show _ = Value.int .u32 ((ub4 o 8 : Nat) : Int) from by rw [QeX,Nat.add_zero,Qf6]) ?_
 refine dV 4 rfl (Qm rfl rfl YH YY) ?_
 try refine dWr ?_
 refine dP 5 ?_
 refine dV 6 rfl (QF (cs:=[_,_,_,_,_]) rfl rfl Qfd QbF rfl) ?_
 refine dH 7 rfl (QbX rfl QbF) (fun b11 _=>?_)
 refine dBa ?_
 refine dSt 8 ?_ (hl:=(by simp only [Qg,List.length_set,List.length_cons,List.length_nil,List.length_map];omega))
 refine dTu [] ?_
 refine dNi ?_
 refine aU6 ?_
 refine oOr 4 63 67 rfl
  (fun hg12 _=>by
   refine aU6 ?_
   exact oJf 4 67)
  (fun hg14 _=>by
   refine aU3 ?_
   exact oJt 4 67) ?_
 refine aU ?_
 refine oOr 6 68 74 rfl
  (fun hg16 _=>by
   refine aU4 ?_
   have hq9:=hg16
   obtain ⟨⟨n9,e9⟩,hrd⟩ : ∃ q,rdN o 64 (ub2 o 16) = some q:=Option.isSome_iff_exists.1 (by grind)
   have hls : ub4 o 8 ≤ 2147483647:=by grind
   obtain ⟨hpl9,_⟩:=hgn.1 _ _ hrd
   obtain ⟨_,q2,q3,q4,q5,q6⟩:=QbZ hol (hrb.trans hrd)
   have hcb : (YN gn.pl).length ≤ 448:=by rw [hpl9,QiB hol (hrb.trans hrd)];omega
   have hnp : NdP gn.pl:=by rw [hpl9];exact q6.ndp (by omega)
   refine aU ?_
   refine oCq rfl (fun w1 h1=>c79 w1 gn num ((ub4 o 8 : Nat) : Int) ((ub2 s 40 : Nat) : Int) (h1.rw_own ev2 aPk rfl) (h1.rw_own iv1 aPk rfl) hnp hcb (by omega) (by omega) (by omega)) ?_
   refine aU4 ?_
   exact oJf 6 74)
  (fun hg18 _=>by
   refine aU5 ?_
   exact oJt 6 74) ?_
 refine aU ?_
 refine sCd rfl (fun h20=>?_) fun h20=>?_
 ·have hR : Xv s num = ndE 3:=by cases hr : rdN o 64 (ub2 o 16) with | none=>exact QeE hs5 hn5 ht (by rw [← ho];exact hrb.trans hr) | some q=>(obtain ⟨n9,e9⟩:=q;have hp9:=(hgn.1 _ _ hr).1;refine Qtr hs5 hn5 ht (by rw [← ho];exact hrb.trans hr) (fun h9=>?_);rw [← ho] at h9;have hq:=h20;rw [hr,hp9] at hq;have h91:=h9.1;have h92:=h9.2;simp [h92] at hq;omega)
  refine aU ?_
  refine Qj (L':=[(4,_),(5,_),(15,_)]) aSx (fun _ h=>h) ?_
  refine aU ?_
  refine o_p (QF (cs:=[_,_,_,_,_]) rfl rfl Qfd QbF rfl) rfl ?_
  refine aU3 ?_
  exact Qi (rs:=[.cell 4 118,.tmp 5]) rfl (.cell rfl Qd2 aPk rfl (.tmp rfl (.nil))) (fun w' h'=>⟨⟨false,none,0,[],none,0,[]⟩,by rw [hR];rfl,by rw [hR];rfl,((h'.nil.own_nil 3 1).own_nil 27 2).ent aEt⟩)
 obtain ⟨⟨n9,e9⟩,hrd⟩ : ∃ q,rdN o 64 (ub2 o 16) = some q:=Option.isSome_iff_exists.1 (by have hq:=h20;grind)
 obtain ⟨hpl9,_⟩:=hgn.1 _ _ hrd
 have hR:=Qvj hs5 hn5 ht (by rw [← ho];exact hrb.trans hrd) (by rw [← ho];have hq:=h20;grind) (by rw [← ho,← hpl9];have hq:=h20;grind)
 rw [← ho] at hR
 refine aU2 ?_
 refine Qj (L':=[(4,_),(5,_),(15,_)]) aSx (fun _ h=>h) ?_
 refine aU5 ?_
 exact Qi (rs:=[.cell 4 118,.tmp 5]) rfl (.cell rfl Qd2 aPk rfl (.tmp rfl (.nil))) (fun w' h'=>⟨gn,by rw [hR];rfl,by rw [hR];exact hpl9,h'.ent aEt⟩)
instance : TFn Tryz.prog 63:=⟨by kernel_rfl⟩
def rpT (s : List UInt8) (u : Int) : Nat → List UInt8
  | 0=>le2 u
  | i + 1=>rpT s u i ++ Qn s (tlA i) 2
def rpS (s : List UInt8) (u : Int) : Nat → List UInt8
  | 0=>s
  | i + 1=>Qz (rpS s u i) (tlA i) (le2 u)
theorem Qdo {s : List UInt8} {u : Int} (h : s.length = 512) : ∀ i,i ≤ 8 → (rpS s u i).length = 512
  | 0,_=>h
  | i + 1,hi=>by
    have h1:=Qdo (u:=u) h i (by omega);show (Qz _ _ _).length = 512;rw [XA (by rw [h1];show tlA i + 2 ≤ 512;unfold tlA;omega),h1]
theorem Qht {s : List UInt8} {u : Int} (h : s.length = 512) : ∀ i,i ≤ 8 → ∀ j,i ≤ j → j < 8 → Qn (rpS s u i) (tlA j) 2 = Qn s (tlA j) 2
  | 0,_,_,_,_=>rfl
  | i + 1,hi,j,hj,h8=>by
    have h1:=Qdo (u:=u) h i (by omega);show Qn (Qz _ _ _) _ _ = _;rw [QaV (by rw [h1];show tlA i + 2 ≤ 512;unfold tlA;omega) (.inr (by show tlA i + 2 ≤ tlA j;unfold tlA;omega))];exact Qht h i (by omega) j (by omega) h8
theorem QeL {s : List UInt8} {u : Int} (h : s.length = 512) : ∀ i,i ≤ 8 → (rpT s u i).length = 2 + 2 * i
  | 0,_=>rfl
  | i + 1,hi=>by
    show (rpT s u i ++ Qn s (tlA i) 2).length = _;rw [List.length_append,QeL h i (by omega),QJ (by unfold tlA;omega)];omega
theorem QgD {l x y : List UInt8} {p q : Nat} (hp : p + x.length ≤ l.length) (hq : q + y.length ≤ l.length) (hd : p + x.length ≤ q ∨ q + y.length ≤ p) : Qz (Qz l p x) q y = Qz (Qz l q y) p x:=by
  apply List.ext_getElem?;intro j;rw [Yp (by rw [XA hp];exact hq),Yp hp,Yp (by rw [XA hq];exact hp),Yp hq]
  by_cases h1 : j < p <;> by_cases h2 : j < q <;> by_cases h3 : j < p + x.length <;> by_cases h4 : j < q + y.length <;> simp only [h1,h2,h3,h4,if_true,if_false] <;> omega
theorem QpL {s : List UInt8} {u : Int} (h : s.length = 512) : ∀ i,i ≤ 8 → prI s u i = Qz (rpS s u i) 40 (rpT s u i)
  | 0,_=>rfl
  | i + 1,hi=>by
    have ih:=QpL (u:=u) h i (by omega);have hS:=Qdo (u:=u) h i (by omega);have hT:=QeL (u:=u) h i (by omega)
    have hsub : Qn (prI s u i) (tlA i) 2 = Qn s (tlA i) 2:=by
      rw [ih,QaV (by rw [hS,hT];omega) (.inr (by rw [hT];unfold tlA;omega)),Qht h i (by omega) i (Nat.le_refl _) (by omega)]
    have h2 : (Qn s (tlA i) 2).length = 2:=QJ (by unfold tlA;omega);show Qz (Qz (prI s u i) (42 + 2 * i) (Qn (prI s u i) (tlA i) 2)) (tlA i) (le2 u) = Qz (Qz (rpS s u i) (tlA i) (le2 u)) 40 (rpT s u i ++ Qn s (tlA i) 2);have e9:=Qgo (l:=rpS s u i) (p:=40) (q:=42 + 2 * i) (x:=rpT s u i) (y:=Qn s (tlA i) 2) (by rw [hT];omega) (by rw [hT,hS,h2];omega);rw [hsub,ih,e9];have hx : (rpT s u i ++ Qn s (tlA i) 2).length = 4 + 2 * i:=by rw [List.length_append,hT,h2];omega
    exact QgD (by rw [hx,hS];omega) (by rw [hS];show tlA i + 2 ≤ 512;unfold tlA;omega) (.inl (by rw [hx];unfold tlA;omega))
theorem QrL {s : List UInt8} {u : Int} (h : s.length = 512) : Qbc s u = Qz (rpS s u 8) 40 (rpT s u 8):=QpL h 8 (Nat.le_refl _)
instance : TFn Tryz.prog 54:=⟨by kernel_rfl⟩
theorem c103 (w : World) (s : List UInt8) (u : Int) (h5 : s.length = 512) (hu : 0 ≤ u ∧ u < 65536) : Calls Tryz.prog 103 #[.string (bs s),.int .i64 u] w fun en w'=>en = .returned (.string (bs (Qbc s u))) ∧ Below w.heap.size w w':=by
 refine eN2 Tryz.func103 Tryz.ntmps103 ?_
 refine aU7 ?_
 refine oCq rfl (fun w1 h1=>by have h9:=c94 w1 (u) 2 (by omega) (by omega);rw [QoG] at h9;exact h9) ?_
 refine aU8 ?_
 refine Qt (α:=Nat) [0,5,6,7,10,11,12,13,14,15,16,17,18,19,20,21,22,23,24,25,26,27,28] (fun k=>[(6,.int .i64 ((k : Int) + 1)),(0,.string (bs (rpS s u k))),(5,.string (bs (rpT s u k)))]) (fun _=>HS w [] []) (fun k=>k ≤ 8) (fun k=>8 - k) 0 (Nat.zero_le _) aSx (fun w h=>h.ent aEt) (fun k hk8=>?_)
 refine aU6 ?_
 refine sCd rfl (fun h1=>?_) fun h1=>?_
 ·have hk : k < 8:=by omega
  have hsl:=Qdo (u:=u) h5 k hk8
  have htl:=QeL (u:=u) h5 k hk8
  have hsb:=Qht (u:=u) h5 k hk8 k (Nat.le_refl _) hk
  have ht9 : tlA k = 64 * k + 62:=rfl
  have hxl : (Qn (rpS s u k) (tlA k) 2).length = 2:=QJ (by omega)
  refine aT7 ?_
  refine aT ?_
  refine Qk (show _ = Value.int .i64 ((tlA k : Nat) : Int) from congrArg (Value.int .i64) (by unfold tlA;omega)) ?_
  refine aT9 ?_
  refine o_p (Q0 _ _ (tlA k) (tlA k + 2) rfl rfl Tryz.underlying9 ⟨_,_,rfl,rfl⟩ ⟨_,_,rfl,(by omega)⟩ (by omega) (by omega)) rfl ?_
  refine Qk (show _ = Value.string (bs (Qn (rpS s u k) (tlA k) 2)) from by rw [Z4 (n:=2) rfl]) ?_
  refine o_p (QbQ rfl rfl rfl (by (try simp only [List.length_append,List.length_cons,List.length_nil,List.length_replicate,List.length_take,List.length_drop]);omega)) rfl ?_
  refine aU6 ?_
  refine oCq rfl (fun w1 h1=>by have h9:=c94 w1 (u) 2 (by omega) (by omega);rw [QoG] at h9;exact h9) ?_
  refine oCq rfl (fun w1 h1=>c54 w1 (rpS s u k) (tlA k) (le2 u) (by show tlA k + 2 ≤ _;omega) (by omega)) ?_
  refine aT6 ?_
  refine Qk (show _ = Value.int .i64 (((k + 1 : Nat) : Int) + 1) from congrArg (Value.int .i64) (by omega)) ?_
  refine aU2 ?_
  exact sBk (k + 1) (by omega) (by omega) (by rw [show (rpT s u (k + 1)) = rpT s u k ++ Qn s (tlA k) 2 from rfl,← hsb];exact aSx)
 obtain rfl : k = 8:=by omega
 have hsl:=Qdo (u:=u) h5 8 hk8
 have htl:=QeL (u:=u) h5 8 hk8
 refine Qo rfl ?_
 refine aU4 ?_
 refine oCq rfl (fun w1 h1=>c54 w1 (rpS s u 8) 40 (rpT s u 8) (by omega) (by omega)) ?_
 refine aU2 ?_
 exact rT rfl rfl (fun w' h'=>⟨by rw [QrL h5];rfl,h'.below⟩)
def roI (s : List UInt8) : Nat → List UInt8
  | 0=>Qz s 40 (List.replicate 18 0)
  | i + 1=>Qz (roI s i) (tlA i) (Qn s (42 + 2 * i) 2)
theorem Qk0 {s : List UInt8} (h : s.length = 512) : ∀ i,i ≤ 8 → (roI s i).length = 512
  | 0,_=>by
    show (Qz _ _ _).length = 512;rw [XA (by rw [h];decide),h]
  | i + 1,hi=>by
    have h1:=Qk0 h i (by omega);have h2 : (Qn s (42 + 2 * i) 2).length = 2:=QJ (by omega);show (Qz _ _ _).length = 512;rw [XA (by rw [h1,h2];unfold tlA;omega),h1]
theorem QkJ {s : List UInt8} (h : s.length = 512) : ∀ i,i ≤ 8 → ∀ j,j < 8 → Qn (opI s i) (42 + 2 * j) 2 = Qn s (42 + 2 * j) 2
  | 0,_,_,_=>rfl
  | i + 1,hi,j,h8=>by
    have h1:=ZH h i (by omega);have h2 : (Qn (opI s i) (42 + 2 * i) 2).length = 2:=QJ (by omega);show Qn (Qz _ _ _) _ _ = _;rw [QaV (by rw [h1,h2];unfold tlA;omega) (.inl (by unfold tlA;omega))];exact QkJ h i (by omega) j h8
theorem Qov {s : List UInt8} (h : s.length = 512) : ∀ i,i ≤ 8 → roI s i = Qz (opI s i) 40 (List.replicate 18 0)
  | 0,_=>rfl
  | i + 1,hi=>by
    have ih:=Qov h i (by omega);have h1:=ZH h i (by omega);have h2 : (Qn s (42 + 2 * i) 2).length = 2:=QJ (by omega);show Qz (roI s i) (tlA i) (Qn s (42 + 2 * i) 2) = Qz (Qz (opI s i) (tlA i) (Qn (opI s i) (42 + 2 * i) 2)) 40 (List.replicate 18 0);rw [ih,QkJ h i (by omega) i (by omega)];exact QgD (by rw [h1];decide) (by rw [h1,h2];unfold tlA;omega) (.inl (by show 40 + 18 ≤ tlA i;unfold tlA;omega))
theorem QqF {s : List UInt8} (h : s.length = 512) : QA s = roI s 8:=(Qov h 8 (Nat.le_refl _)).symm
theorem Qqo {s : List UInt8} (h : ∀ i,i < 8 → Qao s i = false) : Xy s = false:=by
  cases hb : Xy s with
  | false=>rfl
  | true=>
    obtain ⟨i,hi,h1⟩:=List.any_eq_true.1 hb;rw [h i (List.mem_range.1 hi)] at h1;cases h1
theorem Qn6 {s : List UInt8} {i : Nat} (hi : i < 8) (h : Qao s i = true) : Xy s = true:=List.any_eq_true.2 ⟨i,List.mem_range.2 hi,h⟩
theorem c102 (w : World) (s : List UInt8) (h5 : s.length = 512) : Calls Tryz.prog 102 #[.string (bs s)] w fun en w'=>en = .returned (.tuple #[.string (bs (if Xy s = true then [] else QA s)),.bool (!Xy s)]) ∧ Below w.heap.size w w':=by
 refine eN1 Tryz.func102 Tryz.ntmps102 ?_
 refine aU8 ?_
 refine oCq rfl (fun w1 h1=>by have h9:=c72 w1 s (40) 2 (by omega) (by omega) (by omega);rw [QcH,Qch] at h9;exact h9) ?_
 refine aU5 ?_
 refine oCq rfl (fun w1 h1=>c86 w1 18 (by omega)) ?_
 refine oCq rfl (fun w1 h1=>c54 w1 s 40 (List.replicate 18 0) (by rw [List.length_replicate];omega) (by omega)) ?_
 refine aU8 ?_
 refine Qt (α:=Nat) [2,3,5,6,7,13,14,15,16,17,18,19,20,21,22,23,24,25,26,27,28,29,30,31,32,33,34,35,36,37,38,39,40] (fun k=>[(6,.int .i64 ((k : Int) + 1)),(5,.string (bs (roI s k)))]) (fun _=>HS w [] []) (fun k=>k ≤ 8 ∧ ∀ i,i < k → Qao s i = false) (fun k=>8 - k) 0 ⟨Nat.zero_le _,fun i h=>absurd h (Nat.not_lt_zero _)⟩ aSx (fun w h=>h.ent aEt) (fun k hkk=>?_)
 obtain ⟨hk8,hkt⟩:=hkk
 refine aU6 ?_
 refine sCd rfl (fun h1=>?_) fun h1=>?_
 ·have hk : k < 8:=by omega
  have hol:=Qk0 h5 k hk8
  have ht9 : tlA k = 64 * k + 62:=rfl
  have hxl : (Qn s (42 + 2 * k) 2).length = 2:=QJ (by omega)
  refine aT7 ?_
  refine aT ?_
  refine Qk (show _ = Value.int .i64 ((tlA k : Nat) : Int) from congrArg (Value.int .i64) (by unfold tlA;omega)) ?_
  refine aU8 ?_
  refine oOr 6 22 28 rfl
   (fun hg2 _=>by
    refine aU5 ?_
    refine oCq rfl (fun w1 h1=>by have h9:=c72 w1 s (tlA k) 2 (by omega) (by omega) (by omega);rw [QcH,Qch] at h9;exact h9) ?_
    refine aU4 ?_
    exact oJf 6 28)
   (fun hg4 _=>by
    refine aU5 ?_
    exact oJt 6 28) ?_
  refine aU ?_
  refine sCd rfl (fun h6=>?_) fun h6=>?_
  ·have hTB : Xy s = true:=Qn6 hk (decide_eq_true (by have hq:=h6;omega))
   refine aU5 ?_
   exact Qi (rs:=[.tmp 2,.tmp 3]) rfl (.tmp rfl (.tmp rfl (.nil))) (fun w' h'=>⟨by rw [hTB];rfl,h'.below⟩)
  have hT : Qao s k = false:=decide_eq_false (by have hq:=h6;omega)
  refine aT7 ?_
  refine aT ?_
  refine aT2 ?_
  refine aT ?_
  refine aT ?_
  refine o_p (Q0 _ _ (42 + 2 * k) (42 + 2 * k + 2) rfl rfl Tryz.underlying9 ⟨_,_,rfl,(by omega)⟩ ⟨_,_,rfl,(by omega)⟩ (by omega) (by omega)) rfl ?_
  refine Qk (show _ = Value.string (bs (Qn s (42 + 2 * k) 2)) from by rw [Z4 (n:=2) rfl]) ?_
  refine oCq rfl (fun w1 h1=>c54 w1 (roI s k) (tlA k) (Qn s (42 + 2 * k) 2) (by omega) (by omega)) ?_
  refine aU3 ?_
  refine Qj (L':=[(0,_),(4,_),(5,_),(6,_),(8,_),(9,_),(10,_),(11,_),(12,_)]) aSx (fun _ h=>h) ?_
  refine aT3 ?_
  refine Qk (show _ = Value.int .i64 (((k + 1 : Nat) : Int) + 1) from congrArg (Value.int .i64) (by omega)) ?_
  refine aU2 ?_
  exact sBk (k + 1) (by omega) ⟨by omega,fun i hi=>(Nat.lt_or_ge i k).elim (hkt i) (fun h=>by obtain rfl : i = k:=(by omega);exact hT)⟩
 obtain rfl : k = 8:=by omega
 have hTB:=Qqo hkt
 refine Qo rfl ?_
 refine aU6 ?_
 exact Qi (rs:=[.tmp 2,.tmp 3]) rfl (.tmp rfl (.tmp rfl (.nil))) (fun w' h'=>⟨by rw [hTB,QqF h5];rfl,h'.below⟩)
instance : TFn Tryz.prog 102:=⟨by kernel_rfl⟩
theorem c39 (w : World) (s : List UInt8) (num : Int) (hsl : s.length ≤ 1000000) : Calls Tryz.prog 39 #[.string (bs s),.int .i64 num] w fun en w'=>∃ g : LNd,en = .returned (.tuple #[.agg #[.bool g.us,.slice g.ea g.es.length g.ec,.slice g.ca g.cs.length g.cc],.int .i64 (Xv s num).lsn,.int .i64 (Xv s num).usn,.int .i64 (Xv s num).e]) ∧ g.pl = (Xv s num).n ∧ HS w [] [.ents 27 g.ea g.ec g.es,.kids g.ca g.cc g.cs] w':=by
 refine eN2 Tryz.func39 Tryz.ntmps39 ?_
 refine aU2 ?_
 refine oAl (fun b1 _=>?_) XS
 refine aU6 ?_
 refine o_p (QF (cs:=[_,_,_]) rfl rfl QiR XS rfl) rfl ?_
 refine oAl (fun b2 _=>?_) XS
 refine aU6 ?_
 refine o_p (Qf rfl rfl Tryz.underlying9) rfl ?_
 refine aU2 ?_
 refine sCd rfl (fun h3=>?_) fun h3=>?_
 ·have hR : Xv s num = ndE 10:=Qj5 (by have hq:=h3;omega)
  refine aU8 ?_
  exact Qi (rs:=[.cell 4 69,.tmp 5,.tmp 6,.tmp 7]) rfl (.cell rfl Yd aPk rfl (.tmp rfl (.tmp rfl (.tmp rfl (.nil))))) (fun w' h'=>⟨⟨false,none,0,[],none,0,[]⟩,by rw [hR];rfl,by rw [hR];rfl,((h'.nil.own_nil 3 1).own_nil 27 2).ent aEt⟩)
 have hs5 : s.length = 512:=by have hq:=h3;omega
 refine aU5 ?_
 refine oCq rfl (fun w1 h1=>c40 w1 _ _ _) ?_
 refine aU2 ?_
 refine sCd rfl (fun h4=>?_) fun h4=>?_
 ·have hR : Xv s num = ndE 2:=QkF hs5 (by have hq:=h4;grind)
  refine aU8 ?_
  exact Qi (rs:=[.cell 4 69,.tmp 5,.tmp 6,.tmp 7]) rfl (.cell rfl Yd aPk rfl (.tmp rfl (.tmp rfl (.tmp rfl (.nil))))) (fun w' h'=>⟨⟨false,none,0,[],none,0,[]⟩,by rw [hR];rfl,by rw [hR];rfl,((h'.nil.own_nil 3 1).own_nil 27 2).ent aEt⟩)
 have hn5 : 1 ≤ num ∧ num ≤ 120:=by have hq:=h4;grind
 refine aU4 ?_
 refine oCq rfl (fun w1 h1=>c102 w1 s hs5) ?_
 refine Qes ?_
 refine sCd rfl (fun h5=>?_) fun h5=>?_
 ·have ht : Xy s = true:=by have hq:=h5;grind
  have hR:=QhL hs5 hn5 ht
  refine aU8 ?_
  exact Qi (rs:=[.cell 4 69,.tmp 5,.tmp 6,.tmp 7]) rfl (.cell rfl Yd aPk rfl (.tmp rfl (.tmp rfl (.tmp rfl (.nil))))) (fun w' h'=>⟨⟨false,none,0,[],none,0,[]⟩,by rw [hR];rfl,by rw [hR];rfl,((h'.nil.own_nil 3 1).own_nil 27 2).ent aEt⟩)
 have ht : Xy s = false:=by have hq:=h5;grind
 rw [ht]
 rw [if_neg Bool.false_ne_true]
 have hol9:=YK hs5
 obtain ⟨o,ho⟩ : ∃ o,o = QA s:=⟨_,rfl⟩
 rw [← ho]
 rw [← ho] at hol9
 have hol : o.length = 512:=hol9
 have hb2:=Qc2 o 16
 refine aU4 ?_
 refine oCq rfl (fun w1 h1=>by have h9:=c72 w1 o (8) 4 (by omega) (by omega) (by omega);rw [YU,Qf6] at h9;exact h9) ?_
 refine aU ?_
 refine oCq rfl (fun w1 h1=>by have h9:=c72 w1 o (16) 2 (by omega) (by omega) (by omega);rw [QcH,Qch] at h9;exact h9) ?_
 refine aU5 ?_
 refine o_p (QF (cs:=[_,_,_]) rfl rfl QiR XS rfl) rfl ?_
 refine oAl (fun b6 _=>?_) XS
 refine aU6 ?_
 refine Qj (L':=[(0,_),(1,_),(4,_),(5,_),(6,_),(7,_),(8,_),(9,_),(11,_),(12,_),(13,_),(14,_),(15,_)]) aSx (fun _ h=>h) ?_
 refine aU2 ?_
 refine oCq rfl (fun w1 h1=>c40 w1 _ _ _) ?_
 refine aU ?_
 refine Qa2 (α:=LNd × Nat × Bool) [14,15,40,41,42,43,44,45,46] (fun x=>[(14,.int .i64 (x.2.1 : Int)),(15,.bool x.2.2)]) (fun x=>HS w [] [.blk b6 69 3 (LNd.vals x.1),.ents 27 x.1.ea x.1.ec x.1.es,.kids x.1.ca x.1.cc x.1.cs,.blk b2 69 3 [.bool false,.slice none 0 0,.slice none 0 0],.blk b1 69 3 [.bool false,.slice none 0 0,.slice none 0 0]]) (fun x=>x.2.2 = (rdB o).isSome ∧ (∀ nd e,rdB o = some (nd,e) → x.1.pl = nd ∧ x.2.1 = e)) ?_ ?_
 ·skip
  refine sCd rfl (fun h7=>?_) fun h7=>?_
  ·have hct : 1 ≤ ub2 o 16 ∧ ub2 o 16 ≤ 4:=by have hq:=h7;omega
   have hrb:=Qqt hct
   refine aU3 ?_
   refine oCh rfl (fun w1 h1=>c98 w1 o 64 (ub2 o 16) (by omega) (by omega) (by omega)) (fun ⟨gn,gl⟩ hgn=>?_)
   refine aU8 ?_
   exact QH (gn,gl,(rdN o 64 (ub2 o 16)).isSome) ⟨by rw [hrb],fun nd e h9=>hgn.1 nd e (by rw [← hrb];exact h9)⟩ aSx (fun w h=>h.ent aEt)
  have hrb : rdB o = none:=Qqf (by have hq:=h7;omega)
  refine aU ?_
  exact QH (⟨false,none,0,[],none,0,[]⟩,0,false) ⟨by rw [hrb];rfl,fun nd e h9=>(by rw [hrb] at h9;cases h9)⟩ aSx (fun w h=>((h.own_nil 3 1).own_nil 27 2).ent aEt)
 intro ⟨gn,gl,gk⟩ ⟨hg8,hg9⟩
 dsimp only
 simp only [] at hg8 hg9
 refine aU6 ?_
 refine oOr 4 49 53 rfl
  (fun hg8 _=>by
   refine aU3 ?_
   refine o_p (YR 4 rfl rfl rfl Tryz.underlying9 rfl (by omega)) rfl ?_
   refine Qk (show _ = Value.string (bs (o.take 4)) from rfl) ?_
   refine aU2 ?_
   exact oJf 4 53)
  (fun hg10 _=>by
   refine aU3 ?_
   exact oJt 4 53) ?_
 refine aU ?_
 refine oOr 5 54 59 rfl
  (fun hg12 _=>by
   refine aU3 ?_
   refine o_p (Q0 _ _ 4 8 rfl rfl Tryz.underlying9 ⟨_,_,rfl,rfl⟩ ⟨_,_,rfl,rfl⟩ (by omega) (by omega)) rfl ?_
   refine Qk (show _ = Value.string (bs (Qn o 4 4)) from by rw [Z4 (n:=4) rfl]) ?_
   refine aU ?_
   refine oCq rfl (fun w1 h1=>c53 w1 (Qn o 4 4) (by rw [QJ (by omega)];omega)) ?_
   refine aU2 ?_
   exact oJf 5 59)
  (fun hg14 _=>by
   refine aU4 ?_
   exact oJt 5 59) ?_
 refine aU ?_
 refine oOr 4 60 64 rfl
  (fun hg16 _=>by
   refine aU3 ?_
   refine oCq rfl (fun w1 h1=>c35 w1 _) ?_
   refine aU2 ?_
   exact oJf 4 64)
  (fun hg18 _=>by
   refine aU3 ?_
   exact oJt 4 64) ?_
 refine aU ?_
 refine oOr 5 65 70 rfl
  (fun hg20 _=>by
   refine aU3 ?_
   refine oCq rfl (fun w1 h1=>by have h9:=c72 w1 o (12) 4 (by omega) (by omega) (by omega);rw [YU,Qf6] at h9;exact h9) ?_
   refine aU4 ?_
   exact oJf 5 70)
  (fun hg22 _=>by
   refine aU4 ?_
   exact oJt 5 70) ?_
 refine aU ?_
 refine oOr 5 71 76 rfl
  (fun hg24 _=>by
   refine aU3 ?_
   refine o_p (Q0 _ _ 18 40 rfl rfl Tryz.underlying9 ⟨_,_,rfl,rfl⟩ ⟨_,_,rfl,rfl⟩ (by omega) (by omega)) rfl ?_
   refine Qk (show _ = Value.string (bs (Qn o 18 22)) from by rw [Z4 (n:=22) rfl]) ?_
   refine aU ?_
   refine oCq rfl (fun w1 h1=>c53 w1 (Qn o 18 22) (by rw [QJ (by omega)];omega)) ?_
   refine aU2 ?_
   exact oJf 5 76)
  (fun hg26 _=>by
   refine aU4 ?_
   exact oJt 5 76) ?_
 refine aU ?_
 refine oOr 5 77 82 rfl
  (fun hg28 _=>by
   refine aU3 ?_
   refine o_p (Q0 _ _ 58 64 rfl rfl Tryz.underlying9 ⟨_,_,rfl,rfl⟩ ⟨_,_,rfl,rfl⟩ (by omega) (by omega)) rfl ?_
   refine Qk (show _ = Value.string (bs (Qn o 58 6)) from by rw [Z4 (n:=6) rfl]) ?_
   refine aU ?_
   refine oCq rfl (fun w1 h1=>c53 w1 (Qn o 58 6) (by rw [QJ (by omega)];omega)) ?_
   refine aU2 ?_
   exact oJf 5 82)
  (fun hg30 _=>by
   refine aU4 ?_
   exact oJt 5 82) ?_
 refine aU ?_
 refine oOr 6 83 89 rfl
  (fun hg32 _=>by
   refine aU4 ?_
   have hq9:=hg32
   have hgl : gl ≤ 512:=by have hgk : gk = true:=(by grind);rw [hg8] at hgk;obtain ⟨⟨n9,e9⟩,hrd⟩:=Option.isSome_iff_exists.1 hgk;obtain ⟨_,e⟩:=hg9 _ _ hrd;have h3:=(QbZ hol hrd).2.2.1;omega
   refine aU ?_
   refine o_p (Yv gl rfl rfl rfl Tryz.underlying9 rfl (by omega)) rfl ?_
   refine aU ?_
   refine oCq rfl (fun w1 h1=>c53 w1 (o.drop gl) (by rw [List.length_drop];omega)) ?_
   refine aU2 ?_
   exact oJf 6 89)
  (fun hg34 _=>by
   refine aU5 ?_
   exact oJt 6 89) ?_
 refine aU ?_
 refine sCd rfl (fun h36=>?_) fun h36=>?_
 ·have hR : Xv s num = ndE 3:=by cases hr : rdB o with | none=>exact QeE hs5 hn5 ht (by rw [← ho];exact hr) | some q=>(obtain ⟨n9,e9⟩:=q;obtain ⟨_,hp9⟩:=hg9 _ _ hr;rw [QcZ hs5 hn5 ht (by rw [← ho];exact hr),if_neg];rw [← ho];intro h9;have hq:=h36;rw [hg8,hr] at hq;simp only [Qgc,Bool.and_eq_true,decide_eq_true_eq] at h9;obtain ⟨⟨a1,a2,a3,a4,a5,a6⟩,a7⟩:=h9;rw [hp9] at hq;have a0 : List.take 4 o = [73,78,68,88]:=a1;simp [a0,a2,a4,a5,a6,a7] at hq;omega)
  refine aU ?_
  refine Qj (L':=[(0,_),(4,_),(5,_),(6,_),(7,_),(8,_),(11,_),(13,_)]) aSx (fun _ h=>h) ?_
  refine aU7 ?_
  exact Qi (rs:=[.cell 4 69,.tmp 5,.tmp 6,.tmp 7]) rfl (.cell rfl Yd aPk rfl (.tmp rfl (.tmp rfl (.tmp rfl (.nil))))) (fun w' h'=>⟨⟨false,none,0,[],none,0,[]⟩,by rw [hR];rfl,by rw [hR];rfl,((h'.nil.own_nil 3 1).own_nil 27 2).ent aEt⟩)
 obtain ⟨⟨n9,e9⟩,hrd⟩ : ∃ q,rdB o = some q:=Option.isSome_iff_exists.1 (by rw [← hg8];have hq:=h36;grind)
 obtain ⟨hpl9,hl9⟩:=hg9 _ _ hrd
 have hR : Xv s num = ⟨n9,(ub4 o 8 : Int),(ub2 s 40 : Int),0⟩:=by rw [QcZ hs5 hn5 ht (by rw [← ho];exact hrd),if_pos];(rw [← ho]);rw [← ho];have hq:=h36;rw [hl9] at hq;simp only [Qgc,Bool.and_eq_true,decide_eq_true_eq];obtain ⟨⟨⟨⟨⟨⟨⟨q1,q2⟩,q3⟩,q4⟩,q5⟩,q6⟩,q7⟩,q8⟩:=hq;exact ⟨⟨q2,q3,by omega,q5,q6,q7⟩,q8⟩
 refine aU2 ?_
 refine Qj (L':=[(0,_),(4,_),(5,_),(6,_),(7,_),(11,_),(13,_)]) aSx (fun _ h=>h) ?_
 refine QL [4] QZ ?_
 refine dLn 0 [[]] ?_
 refine dP 1 ?_
 refine dP 2 ?_
 refine dQ 3 [[]] rfl (QE rfl Qsq rfl (fun w1 h1=>by have h9:=c72 w1 s (40) 2 (by omega) (by omega) (by omega);rw [QcH,Qch] at h9;exact h9)) ?_
 refine dSt 4 ?_ (hl:=(by simp only [Qg,List.length_set,List.length_cons,List.length_nil,List.length_map];omega))
 refine dTu [] ?_
 refine dP 5 ?_
 refine dP 6 ?_
 refine dP 7 ?_
 refine dNi ?_
 exact Qi (rs:=[.cell 4 69,.tmp 5,.tmp 6,.tmp 7]) rfl (.cell rfl Yd aPk rfl (.tmp rfl (.tmp rfl (.tmp rfl (.nil))))) (fun w' h'=>⟨gn,by rw [hR];rfl,by rw [hR];exact hpl9,h'.ent aEt⟩)
instance : TFn Tryz.prog 39:=⟨by kernel_rfl⟩
end Go.Proofs
namespace Gx
open Go Go.RowKit
theorem QtB (n : Nat) (h : n < 256) : bits .and .u8 (n : Int) 1 = ((n % 2 : Nat) : Int):=by
 have : ∀ k < 256,bits .and .u8 ((k : Nat) : Int) 1 = ((k % 2 : Nat) : Int):=by decide +kernel
 exact this n h
theorem QrX (n m : Nat) : (n : Int) / 2 ^ m = ((n / 2 ^ m : Nat) : Int):=by grind
theorem Qf3 (bm : List UInt8) (j : Nat) : decide (bits .and .u8 (((ub1 bm (j / 8) : Nat) : Int) / 2 ^ (j % 8)) 1 = 1) = ZG bm j:=by
 have hb:=XV bm (j / 8);have hd : ub1 bm (j / 8) / 2 ^ (j % 8) < 256:=Nat.lt_of_le_of_lt (Nat.div_le_self _ _) hb;rw [QrX,QtB _ hd];unfold ZG;exact decide_eq_decide.2 (by omega)
theorem Qrm (bm : List UInt8) (j : Nat) : decide (((ub1 bm (j / 8) : Nat) : Int) / ((2 ^ (j % 8) : Nat) : Int) % 2 = 1) = ZG bm j:=by grind [ZG]
theorem Qnp {bm : List UInt8} {j : Nat} (h : bm.length ≤ j / 8) : ZG bm j = false:=by simp_all [ZG,ub1]
end Gx
namespace Go.Proofs
open Go Go.RowKit Gx
attribute [local irreducible] Go.Calls Gx.S Gx.O Gx.D Gx.OpP Gx.OpQ Gx.OpH
set_option maxRecDepth 20000
instance : TFd Tryz.prog 108 0 0 23:=⟨by kernel_rfl⟩
theorem Qsz : tsz Tryz.prog 23 = some (3,true):=by kernel_rfl
instance : TSz Tryz.prog 23 3 true:=⟨Qsz⟩
instance : TFd Tryz.prog 23 1 1 9:=⟨by kernel_rfl⟩
theorem Qcr : tsz Tryz.prog 108 = some (7,true):=by kernel_rfl
instance : TSz Tryz.prog 108 7 true:=⟨Qcr⟩
instance : TFn Tryz.prog 113:=⟨by kernel_rfl⟩
instance : TFd Tryz.prog 23 2 2 9:=⟨by kernel_rfl⟩
theorem c113 (w : World) (x : Ixs) (co mo rm : Int) (ra : Option Addr) (rn rc : Nat) (hl : x.al.length ≤ 1000000000) : Calls Tryz.prog 113 #[.agg #[.string (bs x.ro),.string (bs x.al),.string (bs x.bm),.int .i64 co,.int .i64 mo,.int .i64 rm,.slice ra rn rc]] w fun en w'=>en = .returned (.int .i64 ((x.n : Nat) : Int)) ∧ Below w.heap.size w w':=by
 refine eN1 Tryz.func113 Tryz.ntmps113 ?_
 refine aU2 ?_
 refine oBx fun b1 _=>?_
 refine aU7 ?_
 refine o_p (Qf rfl rfl Tryz.underlying9) rfl ?_
 refine o_p (XD rfl rfl rfl (by omega) (by omega) (by omega)) rfl ?_
 refine aU2 ?_
 exact rT rfl rfl (fun w' h'=>⟨by rfl,h'.below⟩)
theorem c64 (w : World) (x : Ixs) (co mo rm : Int) (ra : Option Addr) (rn rc : Nat) (i : Nat) (hl : x.al.length ≤ 1000000000) (hi : 1 ≤ i ∧ i * 512 ≤ x.al.length) : Calls Tryz.prog 64 #[.agg #[.string (bs x.ro),.string (bs x.al),.string (bs x.bm),.int .i64 co,.int .i64 mo,.int .i64 rm,.slice ra rn rc],.int .i64 (i : Int)] w fun en w'=>en = .returned (.string (bs (x.blk i))) ∧ Below w.heap.size w w':=by
 refine eN2 Tryz.func64 Tryz.ntmps64 ?_
 refine aU2 ?_
 refine oBx fun b1 _=>?_
 refine aT9 ?_
 refine aT ?_
 refine aT2 ?_
 refine o_p (Q0 _ _ ((i - 1) * 512) (i * 512) rfl rfl Tryz.underlying9 ⟨_,_,rfl,(by omega)⟩ ⟨_,_,rfl,(by omega)⟩ (by omega) (by omega)) rfl ?_
 refine aU2 ?_
 exact rT rfl rfl (fun w' h'=>⟨by rw [Z4 (n:=512) (by omega)];rfl,h'.below⟩)
theorem c66 (w : World) (x : Ixs) (hl : x.al.length ≤ 1000000000) : Calls Tryz.prog 66 #[.agg #[.string (bs x.ro),.string (bs x.al),.string (bs x.bm)]] w fun en w'=>en = .returned (.int .i64 ((x.n : Nat) : Int)) ∧ Below w.heap.size w w':=by
 refine eN1 Tryz.func66 Tryz.ntmps66 ?_
 refine aU2 ?_
 refine oBx fun b1 _=>?_
 refine aU6 ?_
 refine o_p (Qf rfl rfl Tryz.underlying9) rfl ?_
 refine o_p (XD rfl rfl rfl (by omega) (by omega) (by omega)) rfl ?_
 refine aU2 ?_
 exact rT rfl rfl (fun w' h'=>⟨by rfl,h'.below⟩)
theorem c69 (w : World) (x : Ixs) (i : Nat) (hl : x.al.length ≤ 1000000000) (hi : 1 ≤ i ∧ i * 512 ≤ x.al.length) : Calls Tryz.prog 69 #[.agg #[.string (bs x.ro),.string (bs x.al),.string (bs x.bm)],.int .i64 (i : Int)] w fun en w'=>en = .returned (.string (bs (x.blk i))) ∧ Below w.heap.size w w':=by
 refine eN2 Tryz.func69 Tryz.ntmps69 ?_
 refine aU2 ?_
 refine oBx fun b1 _=>?_
 refine aT8 ?_
 refine aT ?_
 refine aT2 ?_
 refine o_p (Q0 _ _ ((i - 1) * 512) (i * 512) rfl rfl Tryz.underlying9 ⟨_,_,rfl,(by omega)⟩ ⟨_,_,rfl,(by omega)⟩ (by omega) (by omega)) rfl ?_
 refine aU2 ?_
 exact rT rfl rfl (fun w' h'=>⟨by rw [Z4 (n:=512) (by omega)];rfl,h'.below⟩)
theorem c135 (w : World) (m : Nat) (hm : m ≤ 8) : Calls Tryz.prog 135 #[.int .i64 (m : Int)] w fun en w'=>en = .returned (.int .i64 ((2 ^ m : Nat) : Int)) ∧ Below w.heap.size w w':=by
 refine eN1 Tryz.func135 Tryz.ntmps135 ?_
 refine aU7 ?_
 refine o_p (QeZ rfl rfl rfl (by omega) m (by show min _ 64 = _;omega)) rfl ?_
 refine aU2 ?_
 exact rT rfl rfl (fun w' h'=>⟨by have h9 : m = 0 ∨ m = 1 ∨ m = 2 ∨ m = 3 ∨ m = 4 ∨ m = 5 ∨ m = 6 ∨ m = 7 ∨ m = 8:=(by omega);rcases h9 with rfl | rfl | rfl | rfl | rfl | rfl | rfl | rfl | rfl <;> rfl,h'.below⟩)
theorem c61 (w : World) (x : Ixs) (co mo rm : Int) (ra : Option Addr) (rn rc : Nat) (i : Nat) (hl : x.al.length ≤ 1000000000) (hb : x.n ≤ 8 * x.bm.length) : Calls Tryz.prog 61 #[.agg #[.string (bs x.ro),.string (bs x.al),.string (bs x.bm),.int .i64 co,.int .i64 mo,.int .i64 rm,.slice ra rn rc],.int .i64 (i : Int)] w fun en w'=>en = .returned (.bool (YC x i)) ∧ Below w.heap.size w w':=by
 have hn9 : x.n ≤ x.al.length:=Nat.div_le_self _ _
 refine eN2 Tryz.func61 Tryz.ntmps61 ?_
 refine aU2 ?_
 refine oBx fun b1 _=>?_
 refine aU6 ?_
 refine oCq rfl (fun w1 h1=>c113 w1 x co mo rm ra rn rc hl) ?_
 refine oCq rfl (fun w1 h1=>c87 w1 _ _ _) ?_
 refine aU ?_
 refine YS 14 9 23 rfl
  (fun hg2 _=>by
   refine Qml ?_
   refine aU ?_
   refine o_p (XD rfl rfl rfl (by omega) (by omega) (by omega)) rfl ?_
   refine aU ?_
   refine o_p (Q1 rfl rfl rfl Tryz.underlying9 ((i - 1) / 8) (by omega) (by omega)) rfl ?_
   refine Qk (show _ = Value.int .u8 ((ub1 x.bm ((i - 1) / 8) : Nat) : Int) from rfl) ?_
   refine aT4 ?_
   refine aU ?_
   refine o_p (Zl rfl rfl rfl (by omega) (by omega)) rfl ?_
   refine aU ?_
   refine o_p (QcQ rfl rfl rfl (by omega) ((i - 1) % 8) (by show min _ 8 = _;omega)) rfl ?_
   refine aU4 ?_
   exact oJt 14 23)
  (fun hg4 _=>by
   refine Qgd ?_
   exact oJf 14 23) ?_
 refine aU2 ?_
 exact rT rfl rfl (fun w' h'=>⟨by simp only [Xj,YC];rw [Qf3];congr 3;rw [← Bool.decide_and];exact decide_eq_decide.2 (by omega),h'.below⟩)
instance : TFn Tryz.prog 135:=⟨by kernel_rfl⟩
theorem QtO (i : Nat) : 1 ≤ 2 ^ (i % 8) ∧ 2 ^ (i % 8) ≤ 128:=by
  have h : i % 8 = 0 ∨ i % 8 = 1 ∨ i % 8 = 2 ∨ i % 8 = 3 ∨ i % 8 = 4 ∨ i % 8 = 5 ∨ i % 8 = 6 ∨ i % 8 = 7:=by omega
  rcases h with h | h | h | h | h | h | h | h <;> rw [h] <;> decide
theorem c67 (w : World) (x : Ixs) (i : Nat) (hi : 1 ≤ i ∧ i ≤ 1000000) (hb : x.bm.length ≤ 1000000) : Calls Tryz.prog 67 #[.agg #[.string (bs x.ro),.string (bs x.al),.string (bs x.bm)],.int .i64 (i : Int)] w fun en w'=>en = .returned (.bool (ZG x.bm (i - 1))) ∧ Below w.heap.size w w':=by
 have hpw:=QtO (i - 1)
 have hbl:=XV x.bm ((i - 1) / 8)
 have hdv : ub1 x.bm ((i - 1) / 8) / 2 ^ ((i - 1) % 8) ≤ ub1 x.bm ((i - 1) / 8):=Nat.div_le_self _ _
 refine eN2 Tryz.func67 Tryz.ntmps67 ?_
 refine aU2 ?_
 refine oBx fun b1 _=>?_
 refine aT6 ?_
 refine Qk (show _ = Value.int .i64 ((i - 1 : Nat) : Int) from congrArg (Value.int .i64) (by omega)) ?_
 refine aU5 ?_
 refine o_p (XD rfl rfl rfl (by omega) (by omega) (by omega)) rfl ?_
 refine Qk (show _ = Value.int .i64 (((i - 1) / 8 : Nat) : Int) from congrArg (Value.int .i64) (by omega)) ?_
 refine aU2 ?_
 refine o_p (Qf rfl rfl Tryz.underlying9) rfl ?_
 refine aU2 ?_
 refine YS 12 14 26 rfl
  (fun hg2 _=>by
   refine aU7 ?_
   refine o_p (XD rfl rfl rfl (by omega) (by omega) (by omega)) rfl ?_
   refine Qk (show _ = Value.int .i64 (((i - 1) / 8 : Nat) : Int) from congrArg (Value.int .i64) (by omega)) ?_
   refine aU ?_
   refine oCq rfl (fun w1 h1=>by have h9:=c72 w1 x.bm ((i - 1) / 8) 1 (by omega) (by omega) (by omega);rw [QcB,QkM] at h9;exact h9) ?_
   refine aU3 ?_
   refine o_p (Zl rfl rfl rfl (by omega) (by omega)) rfl ?_
   refine Qk (show _ = Value.int .i64 (((i - 1) % 8 : Nat) : Int) from congrArg (Value.int .i64) (by omega)) ?_
   refine aU ?_
   refine oCq rfl (fun w1 h1=>c135 w1 ((i - 1) % 8) (by omega)) ?_
   refine aU ?_
   refine o_p (XD rfl rfl rfl (by omega) (by omega) (by omega)) rfl ?_
   refine Qk (show _ = Value.int .i64 ((ub1 x.bm ((i - 1) / 8) / 2 ^ ((i - 1) % 8) : Nat) : Int) from congrArg (Value.int .i64) (Int.natCast_ediv _ _).symm) ?_
   refine aU ?_
   refine o_p (QlM rfl rfl rfl (by decide)) rfl ?_
   refine aU2 ?_
   exact oJt 12 26)
  (fun hg4 _=>by
   refine Qfe ?_
   exact oJf 12 26) ?_
 refine aU2 ?_
 exact rT rfl rfl (fun w' h'=>⟨by simp only [Xj];congr 2;by_cases hq9 : (i - 1) / 8 < x.bm.length;rw [show decide ((((i - 1) / 8 : Nat) : Int) < (x.bm.length : Int)) = true from decide_eq_true (by omega),Bool.true_and,← Qrm];rfl;rw [show decide ((((i - 1) / 8 : Nat) : Int) < (x.bm.length : Int)) = false from decide_eq_false (by omega),Bool.false_and,Qnp (by omega)],h'.below⟩)
end Go.Proofs
namespace Gx
open Go Go.RowKit
section
variable {x : Ixs}
theorem Qik (h : ¬ (x.al.length ≤ 61440 ∧ x.ro.length ≤ 200000)) : ixE x = 8:=by unfold ixE;rw [if_neg h]
theorem Qjz (h : x.al.length ≤ 61440 ∧ x.ro.length ≤ 200000) (h2 : ¬ (x.al.length % 512 = 0 ∧ x.bm.length = QS ((x.n + 7) / 8))) : ixE x = 10:=by unfold ixE;rw [if_pos h,if_neg h2]
theorem Ql4 (h : x.al.length ≤ 61440 ∧ x.ro.length ≤ 200000) (h2 : x.al.length % 512 = 0 ∧ x.bm.length = QS ((x.n + 7) / 8)) (h3 : ¬ (Qa x.ro).2 = 0) : ixE x = (Qa x.ro).2:=by unfold ixE;rw [if_pos h,if_pos h2,if_neg h3]
theorem QkR (h : x.al.length ≤ 61440 ∧ x.ro.length ≤ 200000) (h2 : x.al.length % 512 = 0 ∧ x.bm.length = QS ((x.n + 7) / 8)) (h3 : (Qa x.ro).2 = 0) (h4 : Qee x = true) : ixE x = 3:=by unfold ixE;rw [if_pos h,if_pos h2,if_pos h3,if_pos h4]
theorem Ql5 (h : x.al.length ≤ 61440 ∧ x.ro.length ≤ 200000) (h2 : x.al.length % 512 = 0 ∧ x.bm.length = QS ((x.n + 7) / 8)) (h3 : (Qa x.ro).2 = 0) (h4 : Qee x = false) : ixE x = if x.n = 0 ∨ ZG x.bm (x.n - 1) = true then 0 else 3:=by grind [ixE]
theorem Qi8 {j : Nat} (h : x.n ≤ j) (h2 : j < 8 * x.bm.length) (h3 : ZG x.bm j = true) : Qee x = true:=by grind [Qee]
theorem QlV (h : ∀ j,x.n ≤ j → j < 8 * x.bm.length → ZG x.bm j = false) : Qee x = false:=by grind [Qee]
end
end Gx
namespace Go.Proofs
open Go Go.RowKit Gx
attribute [local irreducible] Go.Calls Gx.S Gx.O Gx.D Gx.OpP Gx.OpQ Gx.OpH
set_option maxRecDepth 20000
instance : TFd Tryz.prog 23 0 0 9:=⟨by kernel_rfl⟩
theorem Qsl : Xl Tryz.prog 66 = true:=by kernel_rfl
instance : TFn Tryz.prog 66:=⟨Qsl⟩
instance : TFn Tryz.prog 67:=⟨by kernel_rfl⟩
theorem c49 (w : World) (x : Ixs) (hl : x.al.length ≤ 900000) (hr : x.ro.length ≤ 1000000) (hb : x.bm.length ≤ 100000) : Calls Tryz.prog 49 #[.agg #[.string (bs x.ro),.string (bs x.al),.string (bs x.bm)]] w fun en w'=>en = .returned (.int .i64 (ixE x)) ∧ Below w.heap.size w w':=by
 have hn9 : x.n ≤ x.al.length:=Nat.div_le_self _ _
 refine eN1 Tryz.func49 Tryz.ntmps49 ?_
 refine aU2 ?_
 refine oBx fun b1 _=>?_
 refine aU7 ?_
 refine o_p (Qf rfl rfl Tryz.underlying9) rfl ?_
 refine aU2 ?_
 refine oOr 5 11 16 rfl
  (fun hg2 _=>by
   refine aU5 ?_
   refine o_p (Qf rfl rfl Tryz.underlying9) rfl ?_
   refine aU2 ?_
   exact oJf 5 16)
  (fun hg4 _=>by
   refine aU4 ?_
   exact oJt 5 16) ?_
 refine aU ?_
 refine sCd rfl (fun h6=>?_) fun h6=>?_
 ·have hE:=Qik (x:=x) (by have hq:=h6;omega)
  refine aU4 ?_
  exact rT rfl rfl (fun w' h'=>⟨by rw [hE];rfl,h'.below⟩)
 have hA : x.al.length ≤ 61440 ∧ x.ro.length ≤ 200000:=by have hq:=h6;omega
 refine aU3 ?_
 refine Qfl (α:=Bool) [17,18,19,20,21,22,23,24,25,26,27,28,29,30,31] (fun b=>[(31,.bool b)]) (fun b=>(b = true → ¬ (x.al.length % 512 = 0 ∧ x.bm.length = QS ((x.n + 7) / 8))) ∧ (b = false → x.al.length % 512 = 0 ∧ x.bm.length = QS ((x.n + 7) / 8))) ?_ ?_
 ·skip
  refine QL [] QZ ?_
  refine dFa 0 ?_
  refine dLd 1 [] ?_
  refine dV 2 rfl (Qf rfl rfl Tryz.underlying9) ?_
  refine dV 3 rfl (Zl rfl rfl rfl (by omega) (by omega)) ?_
  refine dP 4 ?_
  refine dP 5 ?_
  apply Yc 22
  ·exact rfl
  ·intro hg7
   have hs8:=hg7;try simp only [Bool.not_eq_true',decide_eq_false_iff_not] at hs8
   refine dOf 6 22 hg7 ?_
   refine dOf 7 22 hg7 ?_
   refine dOf 8 22 hg7 ?_
   refine dOf 9 22 hg7 ?_
   refine dOf 10 22 hg7 ?_
   refine dOf 11 22 hg7 ?_
   refine dOf 12 22 hg7 ?_
   refine dOf 13 22 hg7 ?_
   refine dV 14 rfl (X2 rfl rfl hg7 rfl) ?_
   refine dNi ?_
   exact QH true ⟨fun _ h9=>by grind,fun h9=>by cases h9⟩ aSx (fun w h=>h.ent aEt)
  intro hg9
  have hs10:=hg9;try simp only [Bool.not_eq_false',decide_eq_true_eq] at hs10
  refine dFo 6 22 hg9 ?_
  refine dQo 7 22 [] hg9 rfl rfl rfl (YA rfl rfl Zw aPk rfl) ?_
  refine dVo 8 22 hg9 rfl rfl rfl (Qf rfl rfl Tryz.underlying9) ?_
  refine dQo 9 22 [] hg9 rfl rfl rfl (Qc8 rfl rfl Qsz aPk rfl) ?_
  refine dQo 10 22 [] hg9 rfl rfl rfl (QE rfl Qsl rfl (fun w1 h1=>c66 w1 x (by omega))) ?_
  refine dQo 11 22 [] hg9 rfl rfl rfl (QE rfl QnW rfl (fun w1 h1=>c121 w1 (x.n : Int) (by omega))) ?_
  refine QT (show _ = Value.int .i64 (((x.n + 7) / 8 : Nat) : Int) from congrArg (Value.int .i64) (by omega)) ?_
  refine dQo 12 22 [] hg9 rfl rfl rfl (QE rfl Qr7 rfl (fun w1 h1=>c95 w1 ((x.n + 7) / 8) (by omega))) ?_
  refine dPo 13 22 hg9 ?_
  refine dV 14 rfl (XM rfl rfl hg9 rfl) ?_
  refine dNi ?_
  exact QH (!decide ((x.bm.length : Int) = ((QS ((x.n + 7) / 8) : Nat) : Int))) ⟨fun h8 h9=>by grind,fun h8=>by grind⟩ aSx (fun w h=>h.ent aEt)
 intro b9 hb9
 refine sCd rfl (fun h11=>?_) fun h11=>?_
 ·have hE:=Qjz hA (hb9.1 h11)
  refine aU4 ?_
  exact rT rfl rfl (fun w' h'=>⟨by rw [hE];rfl,h'.below⟩)
 have hB:=hb9.2 h11
 refine aU6 ?_
 refine oCh rfl (fun w1 h1=>c31 w1 x.ro hr) (fun ⟨⟨ra,rc⟩,RL⟩ hRL=>?_)
 refine aU3 ?_
 refine oAl (fun b12 _=>?_) YD
 refine aU8 ?_
 refine sCd rfl (fun h13=>?_) fun h13=>?_
 ·have hE:=Ql4 hA hB h13
  refine aU5 ?_
  exact rT rfl rfl (fun w' h'=>⟨by rw [hE];rfl,h'.below⟩)
 have hC : (Qa x.ro).2 = 0:=h13
 refine aU5 ?_
 refine oCq rfl (fun w1 h1=>c66 w1 x (by omega)) ?_
 refine aT ?_
 refine aU3 ?_
 refine Qj (L':=[(1,_),(2,_),(5,_)]) aSx (fun _ h=>h) ?_
 refine Qt (α:=Nat) [2,5,44,45,46,47,48,49,50,51,52,53,54] (fun i=>[(5,.int .i64 ((i : Int) + 1))]) (fun _=>HS w [] [.blk b1 23 3 [.string (bs x.ro),.string (bs x.al),.string (bs x.bm)]]) (fun i=>x.n ≤ i ∧ i ≤ x.n + 8 * x.bm.length ∧ ∀ j,x.n ≤ j → j < i → ZG x.bm j = false) (fun i=>8 * x.bm.length - i) x.n ⟨Nat.le_refl _,by omega,fun j h1 h2=>by omega⟩ aSx (fun w h=>h.ent aEt) (fun i hii=>?_)
 obtain ⟨hi1,hi2,hi3⟩:=hii
 refine aU6 ?_
 refine o_p (Qf rfl rfl Tryz.underlying9) rfl ?_
 refine aT ?_
 refine aU2 ?_
 refine sCd rfl (fun h14=>?_) fun h14=>?_
 ·have hi : i + 1 ≤ 8 * x.bm.length:=by have hq:=h14;omega
  refine aU7 ?_
  refine oCq rfl (fun w1 h1=>c67 w1 x (i + 1) (by omega) (by omega)) ?_
  refine aU ?_
  refine sCd rfl (fun h15=>?_) fun h15=>?_
  ·have hE:=QkR hA hB hC (Qi8 hi1 (by omega) (by have hq:=h15;exact hq))
   refine aU4 ?_
   exact rT rfl rfl (fun w' h'=>⟨by rw [hE];rfl,h'.below⟩)
  have hZ : ZG x.bm i = false:=by have hq:=h15;simpa using hq
  refine aT5 ?_
  refine aU2 ?_
  exact sBk (i + 1) (by omega) ⟨by omega,by omega,fun j h1 h2=>(Nat.lt_or_ge j i).elim (hi3 j h1) (fun h=>by obtain rfl : j = i:=(by omega);exact hZ)⟩
 have hi : 8 * x.bm.length ≤ i:=by have hq:=h14;omega
 have hO:=QlV (x:=x) (fun j h1 h2=>hi3 j h1 (by omega))
 have hE:=Ql5 hA hB hC hO
 refine Qo rfl ?_
 refine aU4 ?_
 refine oCq rfl (fun w1 h1=>c66 w1 x (by omega)) ?_
 refine aU7 ?_
 refine YS 5 59 64 rfl
  (fun hg16 _=>by
   refine aU5 ?_
   refine oCq rfl (fun w1 h1=>c67 w1 x x.n (by omega) (by omega)) ?_
   refine aU2 ?_
   exact oJt 5 64)
  (fun hg18 _=>by
   refine aU4 ?_
   exact oJf 5 64) ?_
 refine aU ?_
 refine sCd rfl (fun h20=>?_) fun h20=>?_
 ·have hE2 : ixE x = 3:=by rw [hE,if_neg];have hq:=h20;intro h9;rcases h9 with h9 | h9;omega;rw [h9] at hq;simp at hq
  refine aU4 ?_
  exact rT rfl rfl (fun w' h'=>⟨by rw [hE2];rfl,h'.below⟩)
 have hE2 : ixE x = 0:=by rw [hE,if_pos];have hq:=h20;by_cases h9 : x.n = 0;exact .inl h9;exact .inr (by simp at hq;grind)
 refine aU5 ?_
 exact rT rfl rfl (fun w' h'=>⟨by rw [hE2];rfl,h'.below⟩)
end Go.Proofs
namespace Gx
open Go Go.RowKit
def bmO (ns : List Nd) (g : Nat) : List UInt8:=(List.range g).map fun j=>by8 ((QtE ns j 8 : Nat) : Int)
def bitW (ns : List Nd) (K g : Nat) : Nat → Nat
 | 0=>0
 | i + 1=>bitW ns K g i + (if (nth ns (8 * g + i + 1)).us = true ∧ 8 * g + i + 1 < K then 2 ^ i else 0)
def bmW (ns : List Nd) (r K : Nat) : List UInt8:=(List.range r).map fun g=>by8 ((bitW ns K g 8 : Nat) : Int)
end Gx
namespace Go.Proofs
open Go Go.RowKit Gx
attribute [local irreducible] Go.Calls Gx.S Gx.O Gx.D Gx.OpP Gx.OpQ Gx.OpH
set_option maxRecDepth 20000
def wfI (t : Tre) : Ixs:=if QsL t = 0 then wrI t else ⟨[],[],[]⟩
theorem Qg7 : QM Tryz.prog 108 = some [.string (bs []),.string (bs []),.string (bs []),.int .i64 0,.int .i64 0,.int .i64 0,.slice none 0 0]:=by kernel_rfl
theorem Qto : Zc Tryz.prog 108 = some [(0,3),(3,4)]:=by kernel_rfl
instance : TFd Tryz.prog 108 1 3 37:=⟨by kernel_rfl⟩
theorem Qse : Xl Tryz.prog 61 = true:=by kernel_rfl
instance : TFn Tryz.prog 61:=⟨Qse⟩
theorem QeI {x : Ixs} {v : Bool} (hE : ixE x = if x.n = 0 ∨ ZG x.bm (x.n - 1) = true then 0 else 3) (hv : v = true ↔ (x.n = 0 ∨ ZG x.bm (x.n - 1) = true)) : ixE x = bif v then 0 else 3:=by
  rw [hE];cases v with
  | false=>rw [if_neg (fun h=>by cases hv.2 h)];rfl
  | true=>rw [if_pos (hv.1 rfl)];rfl
theorem Qh0 {x : Ixs} (h : ¬ x.n = 0) : YC x x.n = true ↔ (x.n = 0 ∨ ZG x.bm (x.n - 1) = true):=by
  unfold YC;rw [decide_eq_true (show 1 ≤ x.n ∧ x.n ≤ x.n by omega),Bool.true_and];exact ⟨.inr,fun h9=>h9.elim (fun h8=>absurd h8 h) id⟩
theorem QcW {x : Ixs} {u v : Bool} (hu : u = true ↔ x.al.length ≤ 61440 ∧ x.ro.length ≤ 200000) (hv : v = true ↔ x.al.length % 512 = 0 ∧ x.bm.length = QS ((x.n + 7) / 8)) :
    (Xt [.int .i64 (bif u then 0 else 8),.int .i64 (bif v then 0 else 10)] = 0 → (x.al.length ≤ 61440 ∧ x.ro.length ≤ 200000) ∧ x.al.length % 512 = 0 ∧ x.bm.length = QS ((x.n + 7) / 8)) ∧
    (¬ Xt [.int .i64 (bif u then 0 else 8),.int .i64 (bif v then 0 else 10)] = 0 → ixE x = Xt [.int .i64 (bif u then 0 else 8),.int .i64 (bif v then 0 else 10)]):=by
  cases u with
  | false=>exact ⟨fun h=>absurd (show (8 : Int) = 0 from h) (by decide),fun _=>Qik fun h9=>by cases hu.2 h9⟩
  | true=>
    cases v with
    | false=>exact ⟨fun h=>absurd (show (10 : Int) = 0 from h) (by decide),fun _=>Qjz (hu.1 rfl) fun h9=>by cases hv.2 h9⟩
    | true=>exact ⟨fun _=>⟨hu.1 rfl,hv.1 rfl⟩,fun h=>absurd rfl h⟩
set_option maxHeartbeats 2000000 in
theorem c56 (w : World) (x : Ixs) (hl : x.al.length ≤ 900000) (hr : x.ro.length ≤ 1000000) (hb : x.bm.length ≤ 100000) : Calls Tryz.prog 56 #[.agg #[.string (bs x.ro),.string (bs x.al),.string (bs x.bm)]] w fun en w'=>∃ g : (Int × Int × Int) × (Option Addr × Nat) × List LNd,en = .returned (.tuple #[.agg #[.string (bs x.ro),.string (bs x.al),.string (bs x.bm),.int .i64 g.1.1,.int .i64 g.1.2.1,.int .i64 g.1.2.2,.slice g.2.1.1 g.2.2.length g.2.1.2],.int .i64 (ixE x)]) ∧ (ixE x = 0 → (⟨g.1.1,g.1.2.1,g.1.2.2,pln g.2.2⟩ : Tre) = (Qa x.ro).1) ∧ HS w [] [.nodes 27 69 g.2.1.1 g.2.1.2 g.2.2] w':=by
 have hn9 : x.n ≤ x.al.length:=Nat.div_le_self _ _
 have hpd : QS ((x.n + 7) / 8) = ((x.n + 7) / 8 + 7) / 8 * 8:=rfl
 refine eN1 Tryz.func56 Tryz.ntmps56 ?_
 refine aU2 ?_
 refine oBx fun b1 _=>?_
 refine oAl (fun b2 _=>?_) Qg7
 refine aU5 ?_
 refine o_p (QF (cs:=[_,_,_,_,_,_,_]) rfl rfl Qto Qg7 rfl) rfl ?_
 refine oAl (fun b3 _=>?_) Qg7
 refine aU5 ?_
 refine oCq rfl (fun w1 h1=>c113 w1 x 0 0 0 none 0 0 (by omega)) ?_
 refine aT6 ?_
 refine aT ?_
 refine o_p (XD rfl rfl rfl (by omega) (by omega) (by omega)) rfl ?_
 refine aU3 ?_
 refine Qfl (α:=Int) [7,17,18,19,20,21,22,23,24,25,26,27,28,29,30,31,32,33,34,35,36,37,38,39,40,41,42,43,44,45,46] (fun e=>[(7,.int .i64 e)]) (fun e=>(e = 0 → (x.al.length ≤ 61440 ∧ x.ro.length ≤ 200000) ∧ x.al.length % 512 = 0 ∧ x.bm.length = QS ((x.n + 7) / 8)) ∧ (¬ e = 0 → ixE x = e)) ?_ ?_
 ·skip
  refine QL [] QZ ?_
  refine dFa 0 ?_
  refine dLd 1 [] ?_
  refine dV 2 rfl (Qf rfl rfl Tryz.underlying9) ?_
  refine dP 3 ?_
  refine dP 4 ?_
  apply Yc 21
  ·exact rfl
  ·intro hg4
   have hs5:=hg4;try simp only [dT] at hs5
   refine dFo 5 21 hg4 ?_
   refine dQo 6 21 [] hg4 rfl rfl rfl (YA rfl rfl Zw aPk rfl) ?_
   refine dVo 7 21 hg4 rfl rfl rfl (Qf rfl rfl Tryz.underlying9) ?_
   refine dPo 8 21 hg4 ?_
   refine dV 9 rfl (X2 rfl rfl hg4 rfl) ?_
   refine dQ 10 [] rfl (QE rfl Qdn rfl (fun w1 h1=>c60 w1 _ _)) ?_
   refine dFa 11 ?_
   refine dLd 12 [] ?_
   refine dV 13 rfl (Qf rfl rfl Tryz.underlying9) ?_
   refine dV 14 rfl (Zl rfl rfl rfl (by omega) (by omega)) ?_
   refine dP 15 ?_
   refine dP 16 ?_
   apply Yc 33
   ·exact rfl
   ·intro hg6
    have hs7:=hg6;try simp only [dT] at hs7
    refine dFo 17 33 hg6 ?_
    refine dQo 18 33 [] hg6 rfl rfl rfl (YA rfl rfl Zw aPk rfl) ?_
    refine dVo 19 33 hg6 rfl rfl rfl (Qf rfl rfl Tryz.underlying9) ?_
    refine dPo 20 33 hg6 ?_
    refine dPo 21 33 hg6 ?_
    try refine dWr ?_
    refine dPo 22 33 hg6 ?_
    try refine dWr ?_
    refine dVo 23 33 hg6 rfl rfl rfl (XD rfl rfl rfl (by omega) (by omega) (by omega)) ?_
    refine dPo 24 33 hg6 ?_
    try refine dWr ?_
    refine dPo 25 33 hg6 ?_
    refine dV 26 rfl (X2 rfl rfl hg6 rfl) ?_
    refine dQ 27 [] rfl (QE rfl Qdn rfl (fun w1 h1=>c60 w1 _ _)) ?_
    refine dH 28 rfl (Ql (cs:=[_,_]) rfl rfl Y3 Qcj rfl rfl rfl) (fun b8 _=>?_)
    refine dBa ?_
    refine dQ 29 [] rfl (QE rfl Qjh rfl (fun w1 h1=>f59 h1 aPk (by rfl) (by rfl) (by decide))) ?_
    refine dP 30 ?_
    refine dNi ?_
    exact QH (Xt [.int .i64 (bif decide ((x.ro.length : Int) ≤ 200000) then 0 else 8),.int .i64 (bif decide ((x.bm.length : Int) = (((x.n : Int) + 8 - 1) / 8 + 8 - 1) / 8 * 8) then 0 else 10)]) (QcW (x:=x) (by first | (simp only [decide_eq_true_eq];omega) | (simp;omega) | grind) (by first | (simp only [decide_eq_true_eq];omega) | (simp;omega) | grind)) aSx (fun w h=>h.ent aEt)
   intro hg9
   have hs10:=hg9;try simp only [dN] at hs10
   refine dOf 17 33 hg9 ?_
   refine dOf 18 33 hg9 ?_
   refine dOf 19 33 hg9 ?_
   refine dOf 20 33 hg9 ?_
   refine dOf 21 33 hg9 ?_
   refine dOf 22 33 hg9 ?_
   refine dOf 23 33 hg9 ?_
   refine dOf 24 33 hg9 ?_
   refine dOf 25 33 hg9 ?_
   refine dV 26 rfl (XM rfl rfl hg9 rfl) ?_
   refine dQ 27 [] rfl (QE rfl Qdn rfl (fun w1 h1=>c60 w1 _ _)) ?_
   refine dH 28 rfl (Ql (cs:=[_,_]) rfl rfl Y3 Qcj rfl rfl rfl) (fun b11 _=>?_)
   refine dBa ?_
   refine dQ 29 [] rfl (QE rfl Qjh rfl (fun w1 h1=>f59 h1 aPk (by rfl) (by rfl) (by decide))) ?_
   refine dP 30 ?_
   refine dNi ?_
   exact QH (Xt [.int .i64 (bif decide ((x.ro.length : Int) ≤ 200000) then 0 else 8),.int .i64 (bif false then 0 else 10)]) (QcW (x:=x) (by first | (simp only [decide_eq_true_eq];omega) | (simp;omega) | grind) (by first | (simp only [decide_eq_true_eq];omega) | (simp;omega) | grind)) aSx (fun w h=>h.ent aEt)
  intro hg12
  have hs13:=hg12;try simp only [dN] at hs13
  refine dOf 5 21 hg12 ?_
  refine dOf 6 21 hg12 ?_
  refine dOf 7 21 hg12 ?_
  refine dOf 8 21 hg12 ?_
  refine dV 9 rfl (XM rfl rfl hg12 rfl) ?_
  refine dQ 10 [] rfl (QE rfl Qdn rfl (fun w1 h1=>c60 w1 _ _)) ?_
  refine dFa 11 ?_
  refine dLd 12 [] ?_
  refine dV 13 rfl (Qf rfl rfl Tryz.underlying9) ?_
  refine dV 14 rfl (Zl rfl rfl rfl (by omega) (by omega)) ?_
  refine dP 15 ?_
  refine dP 16 ?_
  apply Yc 33
  ·exact rfl
  ·intro hg14
   have hs15:=hg14;try simp only [dT] at hs15
   refine dFo 17 33 hg14 ?_
   refine dQo 18 33 [] hg14 rfl rfl rfl (YA rfl rfl Zw aPk rfl) ?_
   refine dVo 19 33 hg14 rfl rfl rfl (Qf rfl rfl Tryz.underlying9) ?_
   refine dPo 20 33 hg14 ?_
   refine dPo 21 33 hg14 ?_
   try refine dWr ?_
   refine dPo 22 33 hg14 ?_
   try refine dWr ?_
   refine dVo 23 33 hg14 rfl rfl rfl (XD rfl rfl rfl (by omega) (by omega) (by omega)) ?_
   refine dPo 24 33 hg14 ?_
   try refine dWr ?_
   refine dPo 25 33 hg14 ?_
   refine dV 26 rfl (X2 rfl rfl hg14 rfl) ?_
   refine dQ 27 [] rfl (QE rfl Qdn rfl (fun w1 h1=>c60 w1 _ _)) ?_
   refine dH 28 rfl (Ql (cs:=[_,_]) rfl rfl Y3 Qcj rfl rfl rfl) (fun b16 _=>?_)
   refine dBa ?_
   refine dQ 29 [] rfl (QE rfl Qjh rfl (fun w1 h1=>f59 h1 aPk (by rfl) (by rfl) (by decide))) ?_
   refine dP 30 ?_
   refine dNi ?_
   exact QH (Xt [.int .i64 (bif false then 0 else 8),.int .i64 (bif decide ((x.bm.length : Int) = (((x.n : Int) + 8 - 1) / 8 + 8 - 1) / 8 * 8) then 0 else 10)]) (QcW (x:=x) (by first | (simp only [decide_eq_true_eq];omega) | (simp;omega) | grind) (by first | (simp only [decide_eq_true_eq];omega) | (simp;omega) | grind)) aSx (fun w h=>h.ent aEt)
  intro hg17
  have hs18:=hg17;try simp only [dN] at hs18
  refine dOf 17 33 hg17 ?_
  refine dOf 18 33 hg17 ?_
  refine dOf 19 33 hg17 ?_
  refine dOf 20 33 hg17 ?_
  refine dOf 21 33 hg17 ?_
  refine dOf 22 33 hg17 ?_
  refine dOf 23 33 hg17 ?_
  refine dOf 24 33 hg17 ?_
  refine dOf 25 33 hg17 ?_
  refine dV 26 rfl (XM rfl rfl hg17 rfl) ?_
  refine dQ 27 [] rfl (QE rfl Qdn rfl (fun w1 h1=>c60 w1 _ _)) ?_
  refine dH 28 rfl (Ql (cs:=[_,_]) rfl rfl Y3 Qcj rfl rfl rfl) (fun b19 _=>?_)
  refine dBa ?_
  refine dQ 29 [] rfl (QE rfl Qjh rfl (fun w1 h1=>f59 h1 aPk (by rfl) (by rfl) (by decide))) ?_
  refine dP 30 ?_
  refine dNi ?_
  exact QH (Xt [.int .i64 (bif false then 0 else 8),.int .i64 (bif false then 0 else 10)]) (QcW (x:=x) (by first | (simp only [decide_eq_true_eq];omega) | (simp;omega) | grind) (by first | (simp only [decide_eq_true_eq];omega) | (simp;omega) | grind)) aSx (fun w h=>h.ent aEt)
 intro e9 he9
 refine aU6 ?_
 refine sCd rfl (fun h20=>?_) fun h20=>?_
 ·have hR : ixE x = e9:=he9.2 h20
  refine aU7 ?_
  exact Qi (rs:=[.cell 2 108,.tmp 3]) rfl (.cell rfl Qcr aPk rfl (.tmp rfl (.nil))) (fun w' h'=>⟨((0,0,0),(none,0),[]),by rw [hR];rfl,(fun h9=>by rw [hR] at h9;exact absurd h9 (by assumption)),(Q2 27 69 h'.nil).ent aEt⟩)
 obtain ⟨hA,hBB⟩:=he9.1 h20
 refine aU6 ?_
 refine oCh rfl (fun w1 h1=>c28 w1 x.ro hr) (fun ⟨⟨ra,rc⟩,RL⟩ hRL=>?_)
 refine Qes ?_
 refine sCd rfl (fun h21=>?_) fun h21=>?_
 ·have hR:=Ql4 hA hBB h21
  refine aU7 ?_
  exact Qi (rs:=[.cell 2 108,.tmp 3]) rfl (.cell rfl Qcr aPk rfl (.tmp rfl (.nil))) (fun w' h'=>⟨(((Qa x.ro).1.co,(Qa x.ro).1.mo,(Qa x.ro).1.rm),(ra,rc),RL),by rw [hR];rfl,(fun h9=>by rw [hR] at h9;first | exact absurd h9 (by assumption) | cases h9),h'.ent aEt⟩)
 have hC : (Qa x.ro).2 = 0:=h21
 refine aU6 ?_
 refine o_p (Qf rfl rfl Tryz.underlying9) rfl ?_
 refine aT ?_
 refine aU3 ?_
 refine Qj (L':=[(1,_),(2,_),(3,_),(4,_),(5,_),(65,_),(66,_)]) aSx (fun _ h=>h) ?_
 refine Qt (α:=Nat) [3,8,66,67,68,69,70,71,72,73,74,75,76,77,78,79,80,81,82,83,84,85] (fun k=>[(66,.int .i64 (k : Int))]) (fun _=>HS w [] [.nodes 27 69 ra rc RL,.blk b3 108 7 [.string (bs x.ro),.string (bs x.al),.string (bs x.bm),.int .i64 (Qa x.ro).1.co,.int .i64 (Qa x.ro).1.mo,.int .i64 (Qa x.ro).1.rm,.slice ra RL.length rc],.blk b2 108 7 [.string (bs []),.string (bs []),.string (bs []),.int .i64 0,.int .i64 0,.int .i64 0,.slice none 0 0],.blk b1 23 3 [.string (bs x.ro),.string (bs x.al),.string (bs x.bm)]]) (fun k=>k ≤ 8 * x.bm.length ∧ ∀ j,j < k → x.n ≤ j → ZG x.bm j = false) (fun k=>8 * x.bm.length - k) 0 ⟨Nat.zero_le _,fun j h=>absurd h (Nat.not_lt_zero _)⟩ aSx (fun w h=>h.ent aEt) (fun k hkk=>?_)
 obtain ⟨hk1,hk2⟩:=hkk
 refine aU5 ?_
 refine sCd rfl (fun h22=>?_) fun h22=>?_
 ·have hk : k < 8 * x.bm.length:=by have hq:=h22;omega
  refine Qh8 ?_
  refine YS 11 72 83 rfl
   (fun hg23 _=>by
    refine aU7 ?_
    refine o_p (XD rfl rfl rfl (by omega) (by omega) (by omega)) rfl ?_
    refine aU ?_
    refine o_p (Q1 rfl rfl rfl Tryz.underlying9 (k / 8) (by omega) (by omega)) rfl ?_
    refine Qk (show _ = Value.int .u8 ((ub1 x.bm (k / 8) : Nat) : Int) from rfl) ?_
    refine aU3 ?_
    refine o_p (Zl rfl rfl rfl (by omega) (by omega)) rfl ?_
    refine aU ?_
    refine o_p (QcQ rfl rfl rfl (by omega) (k % 8) (by show min _ 8 = _;omega)) rfl ?_
    refine aU4 ?_
    exact oJt 11 83)
   (fun hg25 _=>by
    refine Qaj ?_
    exact oJf 11 83) ?_
  refine aU ?_
  refine sCd rfl (fun h27=>?_) fun h27=>?_
  ·have hR:=QkR hA hBB hC (Qi8 (x:=x) (j:=k) (by have hq:=h27;omega) hk (by rw [← Qf3];have hq:=h27;exact decide_eq_true hq.2))
   refine aU6 ?_
   exact Qi (rs:=[.cell 2 108,.tmp 3]) rfl (.cell rfl Qcr aPk rfl (.tmp rfl (.nil))) (fun w' h'=>⟨(((Qa x.ro).1.co,(Qa x.ro).1.mo,(Qa x.ro).1.rm),(ra,rc),RL),by rw [hR];rfl,(fun h9=>by rw [hR] at h9;cases h9),h'.ent aEt⟩)
  have hZ : x.n ≤ k → ZG x.bm k = false:=fun h9=>by rw [← Qf3];refine decide_eq_false fun h8=>?_;have hq:=h27;grind
  refine aT4 ?_
  refine aU2 ?_
  exact sBk (k + 1) (by omega) ⟨by omega,fun j hj hn=>(Nat.lt_or_ge j k).elim (fun h=>hk2 j h hn) (fun h=>by obtain rfl : j = k:=(by omega);exact hZ hn)⟩
 have hO:=QlV (x:=x) (fun j h1 h2=>hk2 j (by have hq:=h22;omega) h1)
 have hE:=Ql5 hA hBB hC hO
 refine Qo rfl ?_
 refine aU ?_
 refine QL [9] QZ ?_
 refine dLn 0 [[]] ?_
 refine dP 1 ?_
 refine dP 2 ?_
 refine dP 3 ?_
 apply Yc 89
 ·exact rfl
 ·intro hg28
  have hs29:=hg28;try simp only [dT] at hs29
  refine dOf 4 89 hg28 ?_
  refine dOf 5 89 hg28 ?_
  refine dOf 6 89 hg28 ?_
  refine dV 7 rfl (X2 rfl rfl hg28 rfl) ?_
  refine dQ 8 [[]] rfl (QE rfl Qdn rfl (fun w1 h1=>c60 w1 _ _)) ?_
  refine dSt 9 ?_ (hl:=(by simp only [Qg,List.length_set,List.length_cons,List.length_nil,List.length_map];omega))
  refine dTu [] ?_
  refine dP 10 ?_
  refine dNi ?_
  exact Qi (rs:=[.cell 2 108,.tmp 3]) rfl (.cell rfl Qcr aPk rfl (.tmp rfl (.nil))) (fun w' h'=>⟨(((Qa x.ro).1.co,(Qa x.ro).1.mo,(Qa x.ro).1.rm),(ra,rc),RL),(by first | (rw [QeI hE (v:=true) ⟨fun _=>.inl (by grind),fun _=>rfl⟩];rfl) | (rw [QeI hE (v:=YC x x.n) (Qh0 (by grind))];rfl) | (exfalso;grind)),(fun _=>by rw [hRL]),h'.ent aEt⟩)
 intro hg30
 have hs31:=hg30;try simp only [dN] at hs31
 refine dQo 4 89 [[8,6]] hg30 rfl rfl rfl (Qc8 rfl rfl Qcr aPk rfl) ?_
 refine dPo 5 89 hg30 ?_
 refine dQo 6 89 [[8]] hg30 rfl rfl rfl (QE rfl Qse rfl (fun w1 h1=>c61 w1 x (Qa x.ro).1.co (Qa x.ro).1.mo (Qa x.ro).1.rm ra RL.length rc x.n (by omega) (by omega))) ?_
 refine dV 7 rfl (XM rfl rfl hg30 rfl) ?_
 refine dQ 8 [[]] rfl (QE rfl Qdn rfl (fun w1 h1=>c60 w1 _ _)) ?_
 refine dSt 9 ?_ (hl:=(by simp only [Qg,List.length_set,List.length_cons,List.length_nil,List.length_map];omega))
 refine dTu [] ?_
 refine dP 10 ?_
 refine dNi ?_
 exact Qi (rs:=[.cell 2 108,.tmp 3]) rfl (.cell rfl Qcr aPk rfl (.tmp rfl (.nil))) (fun w' h'=>⟨(((Qa x.ro).1.co,(Qa x.ro).1.mo,(Qa x.ro).1.rm),(ra,rc),RL),(by first | (rw [QeI hE (v:=true) ⟨fun _=>.inl (by grind),fun _=>rfl⟩];rfl) | (rw [QeI hE (v:=YC x x.n) (Qh0 (by grind))];rfl) | (exfalso;grind)),(fun _=>by rw [hRL]),h'.ent aEt⟩)
def QmJ (x : Ixs) : Bool:=((decide ((x.al.length : Int) ≤ 10241) || (decide ((x.al.length : Int) > 61440) && decide ((x.al.length : Int) < 200000))) && decide ((x.ro.length : Int) ≤ 500)) && decide ((x.bm.length : Int) ≤ 40)
theorem Qrg {x : Ixs} (h : QmJ x = true) : x.al.length ≤ 200000 ∧ x.ro.length ≤ 500 ∧ x.bm.length ≤ 40:=by
  simp only [QmJ,Bool.and_eq_true,Bool.or_eq_true,decide_eq_true_eq] at h;omega
theorem c12 (w : World) (x : Ixs) : Calls Tryz.prog 12 #[.agg #[.string (bs x.ro),.string (bs x.al),.string (bs x.bm)]] w fun en w'=>en = .returned (.bool (QmJ x)) ∧ Below w.heap.size w w':=by
 refine eN1 Tryz.func12 Tryz.ntmps12 ?_
 refine aU2 ?_
 refine oBx fun b1 _=>?_
 refine aU6 ?_
 refine o_p (Qf rfl rfl Tryz.underlying9) rfl ?_
 refine aU2 ?_
 refine oOr 11 7 18 rfl
  (fun hg2 _=>by
   refine aU5 ?_
   refine o_p (Qf rfl rfl Tryz.underlying9) rfl ?_
   refine aU4 ?_
   refine YS 5 12 17 rfl
    (fun hg4 _=>by
     refine aU5 ?_
     refine o_p (Qf rfl rfl Tryz.underlying9) rfl ?_
     refine aU3 ?_
     exact oJt 5 17)
    (fun hg6 _=>by
     refine aU5 ?_
     exact oJf 5 17) ?_
   exact oJf 7 18)
  (fun hg8 _=>by
   refine Qaj ?_
   exact oJt 11 18) ?_
 refine aU ?_
 refine YS 5 19 24 rfl
  (fun hg10 _=>by
   refine aU5 ?_
   refine o_p (Qf rfl rfl Tryz.underlying9) rfl ?_
   refine aU2 ?_
   exact oJt 5 24)
  (fun hg12 _=>by
   refine aU4 ?_
   exact oJf 5 24) ?_
 refine aU ?_
 refine YS 5 25 30 rfl
  (fun hg14 _=>by
   refine aU5 ?_
   refine o_p (Qf rfl rfl Tryz.underlying9) rfl ?_
   refine aU2 ?_
   exact oJt 5 30)
  (fun hg16 _=>by
   refine aU4 ?_
   exact oJf 5 30) ?_
 refine aU2 ?_
 exact rT rfl rfl (fun w' h'=>⟨by rfl,h'.below⟩)
end Go.Proofs
namespace Gx
open Go Go.RowKit
section
variable {w0 w : World} {M : List Nat} {As As' : List HA} {a : Option Addr} {cap et nt' : Nat} {L : List LNd}
theorem HS.nodes_open (h : HS w0 M As w) (hp : QD As (.nodes et nt' a cap L) As') : HS w0 M (.own (.slice a L.length cap) nt' 3 L.length (L.flatMap LNd.vals) :: .star (L.map (Qdl et)) :: As') w:=HS.row_open (h.pick hp)
theorem HS.nodes_app {n : LNd} (h : HS w0 M (.ents et n.ea n.ec n.es :: .kids n.ca n.cc n.cs :: .star (L.map (Qdl et)) :: .own (.slice a (L.length + 1) cap) nt' 3 (L.length + 1) (L.flatMap LNd.vals ++ LNd.vals n) :: As) w) : HS w0 M (.nodes et nt' a cap (L ++ [n]) :: As) w:=by
 have h2 : HS w0 M (Qdl et n :: .star (L.map (Qdl et)) :: .own (.slice a (L.length + 1) cap) nt' 3 (L.length + 1) (L.flatMap LNd.vals ++ LNd.vals n) :: As) w:=HS.star_close (Bs:=[_,_]) h;have h3:=HS.sub_app h2;exact HS.row_shut (l:=L ++ [n]) (h3.perm (List.Perm.swap ..)) (by simp) (by simp [List.flatMap_append])
end
theorem QhD {x : Ixs} {i : Nat} (h : 1 ≤ i ∧ i * 512 ≤ x.al.length) : (x.blk i).length = 512:=QJ (by omega)
theorem Qid {x : Ixs} {i : Nat} (h : YC x i = false) : bkN x i = QqX:=by unfold bkN;rw [h];rfl
theorem QiH {x : Ixs} {i : Nat} (h : YC x i = false) : bkE x i = if zer (x.blk i) = true then 0 else 3:=by unfold bkE;rw [h];rfl
theorem QgP {x : Ixs} {i : Nat} (h : YC x i = true) : bkN x i = (Xv (x.blk i) i).n:=by unfold bkN;rw [h];rfl
theorem QdL {x : Ixs} {i : Nat} (h : YC x i = true) : bkE x i = (Xv (x.blk i) i).e:=by unfold bkE;rw [h];rfl
theorem QgM {x : Ixs} : ∀ (m f i : Nat),(∀ j,i ≤ j → j < i + m → bkE x j = 0) → m < f → ¬ bkE x (i + m) = 0 → QhF x f i = some (i + m)
 | 0,0,_,_,h,_=>absurd h (Nat.lt_irrefl _)
 | 0,f + 1,i,_,_,hb=>by grind [QhF]
 | m + 1,0,_,_,h,_=>absurd h (Nat.not_lt_zero _)
 | m + 1,f + 1,i,h,hf,hb=>by
  rw [QhF,if_pos (h i (Nat.le_refl _) (by omega)),QgM m f (i + 1) (fun j h1 h2=>h j (by omega) (by omega)) (by omega) (by rw [show i + 1 + m = i + (m + 1) by omega];exact hb)];congr 1;omega
theorem Qqg {x : Ixs} (h : ¬ ixE x = 0) : rdI x = ((noT,0),ixE x):=by unfold rdI;rw [if_neg h]
theorem QjO {x : Ixs} {k : Nat} (h : ixE x = 0) (hk : k < x.n) (h1 : ∀ j,j < k → bkE x (j + 1) = 0) (h2 : ¬ bkE x (k + 1) = 0) : rdI x = ((noT,((k + 1 : Nat) : Int)),bkE x (k + 1)):=by
 have e : QhF x x.n 1 = some (k + 1):=by
  have h9:=QgM (x:=x) k x.n 1 (fun j a b=>by
   obtain ⟨j,rfl⟩ : ∃ q,j = q + 1:=⟨j - 1,by omega⟩;exact h1 j (by omega)) hk (by rw [Nat.add_comm];exact h2)
  grind
 grind [rdI]
theorem QoL {x : Ixs} (h : ixE x = 0) (h1 : ∀ j,j < x.n → bkE x (j + 1) = 0) : rdI x = if (YX (Qb7 x)).2 = 0 then ((Qb7 x,0),0) else ((noT,(YX (Qb7 x)).1),(YX (Qb7 x)).2):=by
 have e : QhF x x.n 1 = none:=QgT fun j a b=>by
  obtain ⟨j,rfl⟩ : ∃ q,j = q + 1:=⟨j - 1,by omega⟩;exact h1 j (by omega)
 grind [rdI]
structure NdS (n : Nd) : Prop where
 es : n.es.length ≤ 255
 cs : n.cs.length ≤ 256
 ent : ∀ x ∈ n.es,x.key.length ≤ 1000000 ∧ x.val.length ≤ 1000000
theorem NdS.no : NdS QqX:=⟨Nat.zero_le _,Nat.zero_le _,fun x hx=>by cases hx⟩
theorem QhE {x : TEnt} (h : YB x 0 = true) : x.key.length ≤ 1000000 ∧ x.val.length ≤ 1000000:=by grind [YB]
theorem NdS.of (b : List UInt8) (num : Int) : NdS (Xv b num).n:=by
 by_cases h1 : b.length = 512
 ·by_cases h2 : 1 ≤ num ∧ num ≤ 120
  ·cases h3 : Xy b with
   | true=>rw [QhL h1 h2 h3];exact NdS.no
   | false=>
    cases h4 : rdB (QA b) with
    | none=>rw [QeE h1 h2 h3 h4];exact NdS.no
    | some q=>
     obtain ⟨m,last⟩:=q;have e:=QcZ h1 h2 h3 h4;obtain ⟨_,_,_,q4,q5,q6⟩:=QbZ (YK h1) h4;have hcl:=q6.cl;rw [e];split
     ·exact ⟨by show m.es.length ≤ _;omega,by show m.cs.length ≤ _;omega,fun x hx=>QhE (q6.es x hx)⟩
     ·exact NdS.no
  ·rw [QkF h1 h2];exact NdS.no
 ·rw [Qj5 h1];exact NdS.no
theorem NdS.bk (x : Ixs) (i : Nat) : NdS (bkN x i):=by grind [bkN,NdS.of,NdS.no]
theorem Qe9 {x : Ixs} (h : (Qa x.ro).2 = 0) (k : Nat) : ∀ n ∈ Xb x k,NdS n:=by
 obtain ⟨n0,l0,hr,_,_,hrt,hl,_⟩:=Y8 h;intro n hn;unfold Xb at hn;rw [List.mem_append,hrt] at hn;rcases hn with hn | hn
 ·have hn : n = n0:=by simpa using hn
  subst hn;obtain ⟨_,_,_,_,_,q6,q7,q8,_⟩:=QeN (by omega) hr;have:=XV x.ro 7;exact ⟨by omega,by omega,fun y hy=>QhE (q8 y hy)⟩
 grind [NdS.bk]
theorem QiJ {x : Ixs} (h : (Qa x.ro).2 = 0) {k : Nat} (hk : k ≤ 900) : Bd (Xb x k):=by
 obtain ⟨n0,l0,_,_,_,hrt,_⟩:=Y8 h;have hl:=Zb (x:=x) (by rw [hrt];rfl) k;exact ⟨by omega,fun i hi=>by have:=(Qe9 h k _ (QC hi)).es;omega,fun i hi=>by have:=(Qe9 h k _ (QC hi)).cs;omega⟩
theorem Qpl {x : Ixs} (h : (Qa x.ro).2 = 0) {k : Nat} {L : List LNd} (hL : pln L = Xb x k) : ∀ i,i < L.length → ∀ y ∈ (nth L i).es,y.key.length ≤ 1000000 ∧ y.val.length ≤ 1000000:=fun i hi y hy=>by
 have h1:=(Qe9 h k (nth (pln L) i) (by rw [← hL];exact QC (by rwa [Qr]))).ent y;rw [Yx hi] at h1;exact h1 hy
end Gx
namespace Go.Proofs
open Go Go.RowKit Gx
attribute [local irreducible] Go.Calls Gx.S Gx.O Gx.D Gx.OpP Gx.OpQ Gx.OpH
set_option maxRecDepth 20000
instance : TFn Tryz.prog 49:=⟨by kernel_rfl⟩
instance : TFn Tryz.prog 69:=⟨by kernel_rfl⟩
set_option maxHeartbeats 4000000 in
theorem c16 (w : World) (x : Ixs) (hl : x.al.length ≤ 900000) (hr : x.ro.length ≤ 1000000) (hb : x.bm.length ≤ 100000) : Calls Tryz.prog 16 #[.agg #[.string (bs x.ro),.string (bs x.al),.string (bs x.bm)]] w fun en w'=>∃ g : (Option Addr × Nat) × List LNd,en = .returned (.tuple #[.agg #[.int .i64 (rdI x).1.1.co,.int .i64 (rdI x).1.1.mo,.int .i64 (rdI x).1.1.rm,.slice g.1.1 g.2.length g.1.2],.int .i64 (rdI x).1.2,.int .i64 (rdI x).2]) ∧ pln g.2 = (rdI x).1.1.ns ∧ HS w [] [.nodes 27 69 g.1.1 g.1.2 g.2] w':=by
 have hn9 : x.n ≤ x.al.length:=Nat.div_le_self _ _
 have hn8 : x.n = x.al.length / 512:=rfl
 refine eN1 Tryz.func16 Tryz.ntmps16 ?_
 refine aU2 ?_
 refine oBx fun b1 _=>?_
 refine oAl (fun b2 _=>?_) YD
 refine aU5 ?_
 refine o_p (QF (cs:=[_,_,_,_]) rfl rfl Qdx YD rfl) rfl ?_
 refine oAl (fun b3 _=>?_) YD
 refine aU6 ?_
 refine oCq rfl (fun w1 h1=>c49 w1 x hl hr hb) ?_
 refine aU7 ?_
 refine sCd rfl (fun h4=>?_) fun h4=>?_
 ·have hR:=Qqg (x:=x) h4
  refine aU8 ?_
  exact Qi (rs:=[.cell 2 37,.tmp 3,.tmp 4]) rfl (.cell rfl Yz aPk rfl (.tmp rfl (.tmp rfl (.nil)))) (fun w' h'=>⟨((none,0),[]),by rw [hR];rfl,by rw [hR];rfl,(Q2 27 69 h'.nil).ent aEt⟩)
 have hE : ixE x = 0:=h4
 obtain ⟨hA,hB,hC,hO,hLs⟩:=QfS hE
 obtain ⟨n0,l0,_,_,_,hrt,_⟩:=Y8 hC
 have hL1 : (Qa x.ro).1.ns.length = 1:=by rw [hrt];rfl
 refine aU5 ?_
 refine oCh rfl (fun w1 h1=>c31 w1 x.ro hr) (fun ⟨⟨ra,rc⟩,RL⟩ hRL=>?_)
 refine aU3 ?_
 refine oAl (fun b5 _=>?_) YD
 refine aU9 ?_
 refine Qj (L':=[(1,_),(2,_),(3,_),(4,_),(5,_),(7,_),(9,_)]) aSx (fun _ h=>h) ?_
 refine Qt (α:=Nat × (Option Addr × Nat) × List LNd) [3,4,9,10,11,12,13,29,30,31,32,33,34,35,36,37,38,39,40,41,42,43,44,45,46,47,48,49,50,51,52,53,54,55,56,57,58,59,60,61,62,63,64,65,66,67,68,69,70,71,72] (fun x=>[(9,.int .i64 ((x.1 + 1 : Nat) : Int))]) (fun y=>HS w [] [.nodes 27 69 y.2.1.1 y.2.1.2 y.2.2,.blk b5 37 4 [.int .i64 (Qa x.ro).1.co,.int .i64 (Qa x.ro).1.mo,.int .i64 (Qa x.ro).1.rm,.slice y.2.1.1 y.2.2.length y.2.1.2],.blk b3 37 4 [.int .i64 0,.int .i64 0,.int .i64 0,.slice none 0 0],.blk b2 37 4 [.int .i64 0,.int .i64 0,.int .i64 0,.slice none 0 0],.blk b1 23 3 [.string (bs x.ro),.string (bs x.al),.string (bs x.bm)]]) (fun y=>y.1 ≤ x.n ∧ pln y.2.2 = Xb x y.1 ∧ ∀ j,j < y.1 → bkE x (j + 1) = 0) (fun y=>x.n - y.1) (0,(ra,rc),RL) ⟨Nat.zero_le _,by (try simp only []);rw [hRL];unfold Xb;simp,fun j h=>absurd h (Nat.not_lt_zero _)⟩ aSx (fun w h=>h.ent aEt) (fun ⟨k,⟨ga,gc⟩,L⟩ hkk=>?_)
 dsimp only
 simp only [] at hkk
 obtain ⟨hk1,hk2,hk3⟩:=hkk
 have hLl : L.length = k + 1:=by rw [← Qr,hk2,Zb hL1]
 refine aU5 ?_
 refine oCq rfl (fun w1 h1=>c66 w1 x (by omega)) ?_
 refine aU2 ?_
 refine sCd rfl (fun h6=>?_) fun h6=>?_
 ·have hk : k < x.n:=by have hq:=h6;omega
  have hb5:=QhD (x:=x) (i:=k + 1) (by omega)
  have hnm : YC x (k + 1) = ZG x.bm (k + 1 - 1):=by unfold YC;rw [decide_eq_true (by omega),Bool.true_and]
  refine aU8 ?_
  refine oCq rfl (fun w1 h1=>c67 w1 x (k + 1) (by omega) (by omega)) ?_
  refine aU2 ?_
  refine sCd rfl (fun h7=>?_) fun h7=>?_
  ·have hnf : YC x (k + 1) = false:=by rw [hnm];have hq:=h7;simpa using hq
   refine aU5 ?_
   refine oCq rfl (fun w1 h1=>c69 w1 x (k + 1) (by omega) (by omega)) ?_
   refine oCq rfl (fun w1 h1=>c53 w1 (x.blk (k + 1)) (by omega)) ?_
   refine aU2 ?_
   refine sCd rfl (fun h8=>?_) fun h8=>?_
   ·have hbe : bkE x (k + 1) = 3:=by rw [QiH hnf,if_neg];have hq:=h8;simpa using hq
    have hR:=QjO hE hk hk3 (by rw [hbe];decide)
    rw [hbe] at hR
    refine aU8 ?_
    exact Qi (rs:=[.cell 2 37,.tmp 3,.tmp 4]) rfl (.cell rfl Yz aPk rfl (.tmp rfl (.tmp rfl (.nil)))) (fun w' h'=>⟨((none,0),[]),by rw [hR];rfl,by rw [hR];rfl,(Q2 27 69 h'.nil).ent aEt⟩)
   have hbe : bkE x (k + 1) = 0:=by rw [QiH hnf,if_pos];have hq:=h8;simpa using hq
   refine aU4 ?_
   refine Ye (C':=HS w [] [.own (.slice ga L.length gc) 69 3 L.length (L.flatMap LNd.vals),.star (L.map (Qdl 27)),.blk b5 37 4 [.int .i64 (Qa x.ro).1.co,.int .i64 (Qa x.ro).1.mo,.int .i64 (Qa x.ro).1.rm,.slice ga L.length gc],.blk b3 37 4 [.int .i64 0,.int .i64 0,.int .i64 0,.slice none 0 0],.blk b2 37 4 [.int .i64 0,.int .i64 0,.int .i64 0,.slice none 0 0],.blk b1 23 3 [.string (bs x.ro),.string (bs x.al),.string (bs x.bm)]]) (fun w9 h=>(HS.nodes_open h aPk).ent aEt) ?_
   refine aU ?_
   refine o_p (QF (cs:=[_,_,_]) rfl rfl QiR XS rfl) rfl ?_
   refine o_h (Ql (cs:=[_,_,_]) rfl rfl Yn XS rfl rfl rfl) rfl (fun b9 _=>?_)
   refine o_h (Xx [_,_,_] rfl rfl rfl Yn Tryz.underlying35 XS rfl aPk (Xe aPk) rfl (by intro u hu;simp only [List.mem_cons,List.mem_nil_iff,or_false] at hu;rcases hu with rfl | rfl | rfl <;> rfl) (by omega) (by simp only [maxLen];omega)) rfl (fun b10 _=>?_)
   refine aU3 ?_
   refine Qo rfl ?_
   refine aT3 ?_
   refine Qk (show _ = Value.int .i64 ((k + 1 + 1 : Nat) : Int) from congrArg (Value.int .i64) (by omega)) ?_
   refine aU2 ?_
   exact QW (k + 1,(b10.1,b10.2),L ++ [⟨false,none,0,[],none,0,[]⟩]) (by (try simp only []);omega) ⟨by (try simp only []);omega,by (try simp only []);rw [QlW,hk2,Qfq,Qid hnf];rfl,fun j hj=>(Nat.lt_or_ge j k).elim (hk3 j) (fun h=>by obtain rfl : j = k:=(by omega);exact hbe)⟩ (by simp only [List.length_append,List.length_singleton];exact aSx) (fun w h=>by have h9:=((h.own_nil 3 1).own_nil 27 2);have h8:=HS.nodes_app (n:=⟨false,none,0,[],none,0,[]⟩) (L:=L) (et:=27) (nt':=69) (h9.ent (Bs:=[.ents 27 (⟨false,none,0,[],none,0,[]⟩ : LNd).ea (⟨false,none,0,[],none,0,[]⟩ : LNd).ec (⟨false,none,0,[],none,0,[]⟩ : LNd).es,.kids (⟨false,none,0,[],none,0,[]⟩ : LNd).ca (⟨false,none,0,[],none,0,[]⟩ : LNd).cc (⟨false,none,0,[],none,0,[]⟩ : LNd).cs,.star (L.map (Qdl 27)),.own (.slice b10.1 (L.length + 1) b10.2) 69 3 (L.length + 1) (L.flatMap LNd.vals ++ LNd.vals ⟨false,none,0,[],none,0,[]⟩),.blk b5 37 4 [.int .i64 (Qa x.ro).1.co,.int .i64 (Qa x.ro).1.mo,.int .i64 (Qa x.ro).1.rm,.slice b10.1 (L.length + 1) b10.2],.blk b3 37 4 [.int .i64 0,.int .i64 0,.int .i64 0,.slice none 0 0],.blk b2 37 4 [.int .i64 0,.int .i64 0,.int .i64 0,.slice none 0 0],.blk b1 23 3 [.string (bs x.ro),.string (bs x.al),.string (bs x.bm)]]) aEt);dsimp only;rw [List.length_append];exact h8.ent aEt)
  have hnf : YC x (k + 1) = true:=by rw [hnm];have hq:=h7;simpa using hq
  refine aU5 ?_
  refine oCq rfl (fun w1 h1=>c69 w1 x (k + 1) (by omega) (by omega)) ?_
  refine aU ?_
  refine oCh rfl (fun w1 h1=>c39 w1 (x.blk (k + 1)) ((k + 1 : Nat) : Int) (by omega)) (fun gn hgn=>?_)
  refine aU5 ?_
  refine oAl (fun b11 _=>?_) XS
  refine Qfe ?_
  refine sCd rfl (fun h12=>?_) fun h12=>?_
  ·have hbe:=QdL hnf
   have hR:=QjO hE hk hk3 (by rw [hbe];exact h12)
   rw [hbe] at hR
   refine aU9 ?_
   exact Qi (rs:=[.cell 2 37,.tmp 3,.tmp 4]) rfl (.cell rfl Yz aPk rfl (.tmp rfl (.tmp rfl (.nil)))) (fun w' h'=>⟨((none,0),[]),by rw [hR];rfl,by rw [hR];rfl,(Q2 27 69 h'.nil).ent aEt⟩)
  have hbe : bkE x (k + 1) = 0:=by rw [QdL hnf];exact h12
  refine aU3 ?_
  refine Ye (C':=HS w [] [.own (.slice ga L.length gc) 69 3 L.length (L.flatMap LNd.vals),.star (L.map (Qdl 27)),.ents 27 gn.ea gn.ec gn.es,.kids gn.ca gn.cc gn.cs,.blk b11 69 3 (LNd.vals gn),.blk b5 37 4 [.int .i64 (Qa x.ro).1.co,.int .i64 (Qa x.ro).1.mo,.int .i64 (Qa x.ro).1.rm,.slice ga L.length gc],.blk b3 37 4 [.int .i64 0,.int .i64 0,.int .i64 0,.slice none 0 0],.blk b2 37 4 [.int .i64 0,.int .i64 0,.int .i64 0,.slice none 0 0],.blk b1 23 3 [.string (bs x.ro),.string (bs x.al),.string (bs x.bm)]]) (fun w9 h=>(HS.nodes_open h aPk).ent aEt) ?_
  refine aU2 ?_
  refine o_h (Ql (cs:=[_,_,_]) rfl rfl Yn XS rfl rfl rfl) rfl (fun b13 _=>?_)
  refine o_h (Xx [_,_,_] rfl rfl rfl Yn Tryz.underlying35 XS rfl aPk (Xe aPk) rfl (by intro u hu;simp only [List.mem_cons,List.mem_nil_iff,or_false] at hu;rcases hu with rfl | rfl | rfl <;> rfl) (by omega) (by simp only [maxLen];omega)) rfl (fun b14 _=>?_)
  refine aU4 ?_
  refine Qj (L':=[(1,_),(2,_),(5,_),(7,_),(9,_)]) aSx (fun _ h=>h) ?_
  refine aT3 ?_
  refine Qk (show _ = Value.int .i64 ((k + 1 + 1 : Nat) : Int) from congrArg (Value.int .i64) (by omega)) ?_
  refine aU2 ?_
  exact QW (k + 1,(b14.1,b14.2),L ++ [gn]) (by (try simp only []);omega) ⟨by (try simp only []);omega,by (try simp only []);rw [QlW,hk2,Qfq,QgP hnf];(show _ ++ [gn.pl] = _);rw [hgn],fun j hj=>(Nat.lt_or_ge j k).elim (hk3 j) (fun h=>by obtain rfl : j = k:=(by omega);exact hbe)⟩ (by simp only [List.length_append,List.length_singleton];exact aSx) (fun w h=>by have h9:=h;have h8:=HS.nodes_app (n:=gn) (L:=L) (et:=27) (nt':=69) (h9.ent (Bs:=[.ents 27 (gn : LNd).ea (gn : LNd).ec (gn : LNd).es,.kids (gn : LNd).ca (gn : LNd).cc (gn : LNd).cs,.star (L.map (Qdl 27)),.own (.slice b14.1 (L.length + 1) b14.2) 69 3 (L.length + 1) (L.flatMap LNd.vals ++ LNd.vals gn),.blk b5 37 4 [.int .i64 (Qa x.ro).1.co,.int .i64 (Qa x.ro).1.mo,.int .i64 (Qa x.ro).1.rm,.slice b14.1 (L.length + 1) b14.2],.blk b3 37 4 [.int .i64 0,.int .i64 0,.int .i64 0,.slice none 0 0],.blk b2 37 4 [.int .i64 0,.int .i64 0,.int .i64 0,.slice none 0 0],.blk b1 23 3 [.string (bs x.ro),.string (bs x.al),.string (bs x.bm)]]) aEt);dsimp only;rw [List.length_append];exact h8.ent aEt)
 obtain rfl : k = x.n:=by have hq:=h6;omega
 have hall:=QoL hE hk3
 have hT : (⟨(Qa x.ro).1.co,(Qa x.ro).1.mo,(Qa x.ro).1.rm,pln L⟩ : Tre) = Qb7 x:=by rw [hk2];rfl
 refine Qo rfl ?_
 refine aU4 ?_
 refine oCq rfl (fun w1 h1=>c71 w1 _ _ _ ga gc L (HS.nt h1 aPk) (by rw [hk2];exact QiJ hC (by omega)) (fun i hi y hy=>(Qpl hC hk2 i hi y hy).1)) ?_
 rw [hT]
 refine Qfe ?_
 refine sCd rfl (fun h15=>?_) fun h15=>?_
 ·have hR : rdI x = ((noT,(YX (Qb7 x)).1),(YX (Qb7 x)).2):=by rw [hall,if_neg h15]
  refine aU9 ?_
  exact Qi (rs:=[.cell 2 37,.tmp 3,.tmp 4]) rfl (.cell rfl Yz aPk rfl (.tmp rfl (.tmp rfl (.nil)))) (fun w' h'=>⟨((none,0),[]),by rw [hR];rfl,by rw [hR];rfl,(Q2 27 69 h'.nil).ent aEt⟩)
 have hR : rdI x = ((Qb7 x,0),0):=by rw [hall,if_pos h15]
 refine aU8 ?_
 exact Qi (rs:=[.cell 2 37,.tmp 3,.tmp 4]) rfl (.cell rfl Yz aPk rfl (.tmp rfl (.tmp rfl (.nil)))) (fun w' h'=>⟨((ga,gc),L),by rw [hR];rfl,by rw [hR];exact hk2,h'.ent aEt⟩)
instance : TFn Tryz.prog 56:=⟨by kernel_rfl⟩
instance : TFn Tryz.prog 64:=⟨by kernel_rfl⟩
end Go.Proofs
namespace Gx
open Go Go.RowKit
section
variable {w0 w : World} {M : List Nat} {As As' : List HA} {a : Option Addr} {cap et nt' : Nat} {L : List LNd}
end
end Gx
namespace Go.Proofs
open Go Go.RowKit Gx
attribute [local irreducible] Go.Calls Gx.S Gx.O Gx.D Gx.OpP Gx.OpQ Gx.OpH
set_option maxRecDepth 20000
instance : TFn Tryz.prog 12:=⟨by kernel_rfl⟩
instance : TFn Tryz.prog 16:=⟨by kernel_rfl⟩
end Go.Proofs
namespace Gx
open Go Go.RowKit
def XY : TEnt:=⟨[],[]⟩
def QK (co : Int) (n : Nd) (key : List UInt8) : Nat:=(n.cs.getD (plc co n.es key) 0).toNat
def fbI (x : Ixs) (co : Int) (key : List UInt8) : Nat → Nd → List Nat → (TEnt × List Nat) × Int
 | 0,_,_=>((XY,[]),25)
 | f + 1,n,P=>
  if XL co n.es = true then
   if fnd co n.es key = true then ((nth n.es (plc co n.es key),P),0)
   else if n.cs.length = 0 then ((XY,[]),6)
   else if YC x (QK co n key) = true then
    if QK co n key ∈ P then ((XY,[]),25)
    else if (Xv (x.blk (QK co n key)) (QK co n key)).e = 0 then fbI x co key f (Xv (x.blk (QK co n key)) (QK co n key)).n (P ++ [QK co n key])
    else ((XY,[]),(Xv (x.blk (QK co n key)) (QK co n key)).e)
   else ((XY,[]),6)
  else ((XY,[]),3)
def Xz (x : Ixs) (key : List UInt8) : (TEnt × List Nat) × Int:=
 if ixE x = 0 then
  if QB (Qa x.ro).1.co key = true then fbI x (Qa x.ro).1.co key (x.n + 1) (nth (Qa x.ro).1.ns 0) []
  else ((XY,[]),3)
 else ((XY,[]),ixE x)
theorem QiD {x : Ixs} (h : (Qa x.ro).1.ns.length = 1) {i : Nat} (h1 : 1 ≤ i ∧ i ≤ x.n) : nth (Xb x x.n) i = bkN x i:=by
 apply Zr
 grind [Xb]
theorem QmY {x : Ixs} (h : (Qa x.ro).1.ns.length = 1) : nth (Xb x x.n) 0 = nth (Qa x.ro).1.ns 0:=by
 apply Zr
 grind [Xb,Z5]
theorem Qlj {x : Ixs} {co : Int} {key : List UInt8} (hr : (Qa x.ro).1.ns.length = 1) (hT : TOk co (Xb x x.n)) (hb : ∀ i,1 ≤ i → i ≤ x.n → bkE x i = 0) :
  ∀ (f i : Nat) (Q : List Nat),Way (Xb x x.n) (i :: Q) → Q.length + f = x.n + 1 →
   ((fbI x co key f (nth (Xb x x.n) i) (i :: Q).reverse.tail).2 = 0 ↔ (Y4 co (Xb x x.n) key f i).2.2 = true) ∧
   ((Y4 co (Xb x x.n) key f i).2.2 = true → (fbI x co key f (nth (Xb x x.n) i) (i :: Q).reverse.tail).1.2 = (i :: Q).reverse.tail ++ (Y4 co (Xb x x.n) key f i).1.tail)
 | 0,i,Q,hw,hf=>by
  have:=ZY hT (by rw [Zb hr];omega) hw
  grind [Zb]
 | f + 1,i,Q,hw,hf=>by
  have hl:=Zb hr x.n;have hi:=Qbz hT (by omega) hw i (List.mem_cons_self ..);have hk : XL co (nth (Xb x x.n) i).es = true:=List.all_eq_true.2 fun y hy=>QbA (hT.ents i hi y hy)
  by_cases h1 : fnd co (nth (Xb x x.n) i).es key = true
  ·grind [fbI,Y4]
  ·by_cases h2 : (nth (Xb x x.n) i).cs.length = 0
   ·grind [fbI,Y4]
   ·have hcl : (nth (Xb x x.n) i).cs.length = (nth (Xb x x.n) i).es.length + 1:=(hT.shape i hi).resolve_left h2;have hp:=Qd6 co key (nth (Xb x x.n) i).es;have hkid:=QdG hT hi (k:=plc co (nth (Xb x x.n) i).es key) (by omega);have hway:=Qb3 hw hi (k:=plc co (nth (Xb x x.n) i).es key) (by omega) (by omega);have hc : QK co (nth (Xb x x.n) i) key = ((nth (Xb x x.n) i).cs.getD (plc co (nth (Xb x x.n) i).es key) 0).toNat:=rfl;rw [← hc] at hkid hway;have hcr : 1 ≤ QK co (nth (Xb x x.n) i) key ∧ QK co (nth (Xb x x.n) i) key ≤ x.n:=by omega
    generalize hcc : QK co (nth (Xb x x.n) i) key = c at *
    have hnm : YC x c = true:=by
     cases hq : YC x c with
     | true=>rfl
     | false=>
      have h9:=hkid.2.2;rw [QiD hr hcr,Qid hq] at h9;cases h9
    have hnd:=Qd1 hT hway;have hin : ¬ c ∈ (i :: Q).reverse.tail:=fun h=>(List.nodup_cons.1 hnd).1 (List.mem_reverse.1 (List.mem_of_mem_tail h));have he : (Xv (x.blk c) c).e = 0:=by rw [← QdL hnm];exact hb c hcr.1 hcr.2
    have hn : (Xv (x.blk c) c).n = nth (Xb x x.n) c:=by rw [QiD hr hcr,QgP hnm]
    have hP : (i :: Q).reverse.tail ++ [c] = (c :: i :: Q).reverse.tail:=by grind
    have ih:=Qlj (key:=key) hr hT hb f c (i :: Q) hway (by rw [List.length_cons];omega);have hst : ¬ (fnd co (nth (Xb x x.n) i).es key = true ∨ (nth (Xb x x.n) i).cs.length = 0):=fun h=>h.elim h1 h2;rw [fbI,if_pos hk,if_neg h1,if_neg h2,hcc,if_pos hnm,if_neg hin,if_pos he,hn,hP,Y4,if_neg hst,← hc];refine ⟨ih.1,fun h=>?_⟩;simp only [List.tail_cons];rw [ih.2 h,← hP,List.append_assoc];congr 1;cases f <;> grind [Y4]
theorem QiI {x : Ixs} (h : (rdI x).2 = 0) : ixE x = 0 ∧ (rdI x).1.1 = Qb7 x ∧ (YX (Qb7 x)).2 = 0 ∧ (Qa x.ro).1.ns.length = 1 ∧ ∀ i,1 ≤ i → i ≤ x.n → bkE x i = 0:=by
 have h0 : ixE x = 0:=by grind [ixE,Qqg]
 have hr : (Qa x.ro).1.ns.length = 1:=by
  obtain ⟨n0,l0,_,_,_,hrt,_⟩:=Y8 (QfS h0).2.2.1;rw [hrt];rfl
 have hb : ∀ k,k ≤ x.n → ∀ j,j < k → bkE x (j + 1) = 0:=by
  intro k
  induction k with
  | zero=>exact fun _ j hj=>absurd hj (Nat.not_lt_zero _)
  | succ k ih=>
   intro hk j hj;rcases Nat.lt_or_ge j k with h1 | h1
   ·grind
   ·obtain rfl : j = k:=by omega
    by_cases h9 : bkE x (j + 1) = 0
    ·exact h9
    ·rw [QjO h0 (by omega) (ih (by omega)) h9] at h;exact absurd h h9
 have ha:=QoL h0 (hb x.n (Nat.le_refl _))
 by_cases h9 : (YX (Qb7 x)).2 = 0
 ·rw [if_pos h9] at ha;refine ⟨h0,by rw [ha],h9,hr,fun i h1 h2=>?_⟩;have:=hb x.n (Nat.le_refl _) (i - 1) (by omega)
  grind
 grind
theorem Qls {t : Tre} (h : (YX t).2 = 0) : TOk t.co t.ns:=QnJ (Qns h).2.2.2.2.1
theorem Qpc {x : Ixs} {key : List UInt8} (h : (rdI x).2 = 0) (hk : QB (rdI x).1.1.co key = true) : ((Xz x key).2 = 0 ↔ (Qv (rdI x).1.1.co (rdI x).1.1.ns key).2.2 = true) ∧ ((Qv (rdI x).1.1.co (rdI x).1.1.ns key).2.2 = true → (Xz x key).1.2 = (Qv (rdI x).1.1.co (rdI x).1.1.ns key).1.tail):=by
 obtain ⟨h0,ht,he,hr,hb⟩:=QiI h;rw [ht] at hk ⊢;have hT:=Qls he;have h1:=Qlj (key:=key) hr hT hb (x.n + 1) 0 [] rfl (by simp);rw [QmY hr] at h1
 grind [Xz,Qv,QB,Qa,Qb7,Zb]
structure NdF (n : Nd) : Prop where
 sm : NdS n
 cl : n.cs.length = 0 ∨ n.cs.length = n.es.length + 1
 cs : ∀ c ∈ n.cs,1 ≤ c ∧ c ≤ 120
theorem NdF.of {b : List UInt8} {num : Int} (h : (Xv b num).e = 0) : NdF (Xv b num).n:=by
 have key : ∃ n last,rdB (QA b) = some (n,last) ∧ b.length = 512 ∧ (Xv b num).n = n:=by grind [Xv,ndE]
 obtain ⟨n,last,h4,h1,e⟩:=key;have q6:=(QbZ (YK h1) h4).2.2.2.2.2;exact ⟨NdS.of b num,by rw [e];exact q6.cl,by rw [e];exact q6.cs⟩
theorem NdF.root {s : List UInt8} (h : (Qa s).2 = 0) : NdF (nth (Qa s).1.ns 0) ∧ XL (Qa s).1.co (nth (Qa s).1.ns 0).es = true:=by
 obtain ⟨n,last,hr,_,hk,e,hl,_⟩:=Y8 h;obtain ⟨_,_,_,_,_,h6,h7,h8,h9⟩:=QeN (by omega) hr;have hb:=XV s 7;rw [e];refine ⟨⟨⟨by show n.es.length ≤ _;omega,by show n.cs.length ≤ _;omega,fun x hx=>QhE (h8 x hx)⟩,by show n.cs.length = 0 ∨ n.cs.length = n.es.length + 1;omega,h9⟩,QbK fun i hi=>?_⟩;have h1:=Qbo.1 hk i hi;unfold Qas at h1;rw [Bool.and_eq_true] at h1;exact h1.1
theorem NdF.kid {n : Nd} (h : NdF n) (hc : ¬ n.cs.length = 0) (co : Int) (key : List UInt8) : plc co n.es key < n.cs.length ∧ ((QK co n key : Nat) : Int) = n.cs.getD (plc co n.es key) 0 ∧ 1 ≤ QK co n key ∧ QK co n key ≤ 120:=by
 have h1:=h.cl.resolve_left hc;have h2:=Qd6 co key n.es;have h3 : plc co n.es key < n.cs.length:=by omega
 have h4 : n.cs.getD (plc co n.es key) 0 ∈ n.cs:=by grind
 have h5:=h.cs _ h4
 grind [QK]
theorem Qpn {co : Int} {es : List TEnt} {key : List UInt8} {m : Nat} (h : m < es.length) : plc co (es.drop m) key = if Xm co (nth es m).key key < 0 then plc co (es.drop (m + 1)) key + 1 else 0:=by
 rw [List.drop_eq_getElem_cons h,plc,show es[m] = nth es m from (Zr (List.getElem?_eq_getElem h)).symm]
section
variable {x : Ixs} {co : Int} {key : List UInt8} {f : Nat} {n : Nd} {P : List Nat}
theorem Qpa (h : XL co n.es = false) : fbI x co key (f + 1) n P = ((XY,[]),3):=by rw [fbI,if_neg (by rw [h];decide)]
theorem Qod (h : XL co n.es = true) (h1 : fnd co n.es key = true) : fbI x co key (f + 1) n P = ((nth n.es (plc co n.es key),P),0):=by rw [fbI,if_pos h,if_pos h1]
theorem QkI (h : XL co n.es = true) (h1 : ¬ fnd co n.es key = true) (h2 : n.cs.length = 0) : fbI x co key (f + 1) n P = ((XY,[]),6):=by rw [fbI,if_pos h,if_neg h1,if_pos h2]
theorem QsS (h : XL co n.es = true) (h1 : ¬ fnd co n.es key = true) (h2 : ¬ n.cs.length = 0) (h3 : ¬ YC x (QK co n key) = true) : fbI x co key (f + 1) n P = ((XY,[]),6):=by rw [fbI,if_pos h,if_neg h1,if_neg h2,if_neg h3]
theorem Qru (h : XL co n.es = true) (h1 : ¬ fnd co n.es key = true) (h2 : ¬ n.cs.length = 0) (h3 : YC x (QK co n key) = true) (h4 : QK co n key ∈ P) : fbI x co key (f + 1) n P = ((XY,[]),25):=by rw [fbI,if_pos h,if_neg h1,if_neg h2,if_pos h3,if_pos h4]
theorem Qob (h : XL co n.es = true) (h1 : ¬ fnd co n.es key = true) (h2 : ¬ n.cs.length = 0) (h3 : YC x (QK co n key) = true) (h4 : ¬ QK co n key ∈ P) (h5 : ¬ (Xv (x.blk (QK co n key)) (QK co n key)).e = 0) : fbI x co key (f + 1) n P = ((XY,[]),(Xv (x.blk (QK co n key)) (QK co n key)).e):=by rw [fbI,if_pos h,if_neg h1,if_neg h2,if_pos h3,if_neg h4,if_neg h5]
theorem Qlt (h : XL co n.es = true) (h1 : ¬ fnd co n.es key = true) (h2 : ¬ n.cs.length = 0) (h3 : YC x (QK co n key) = true) (h4 : ¬ QK co n key ∈ P) (h5 : (Xv (x.blk (QK co n key)) (QK co n key)).e = 0) : fbI x co key (f + 1) n P = fbI x co key f (Xv (x.blk (QK co n key)) (QK co n key)).n (P ++ [QK co n key]):=by rw [fbI,if_pos h,if_neg h1,if_neg h2,if_pos h3,if_neg h4,if_pos h5]
theorem QtZ (h : XL co n.es = true) (h1 : ¬ fnd co n.es key = true) (h2 : ¬ n.cs.length = 0) {e : Int} (he : e = if YC x (QK co n key) = true then if QK co n key ∈ P then 25 else 0 else 6) (h0 : ¬ e = 0) : fbI x co key (f + 1) n P = ((XY,[]),e):=by grind [fbI]
end
theorem Qky {x : Ixs} {c : Nat} (h : YC x c = true) : 1 ≤ c ∧ c ≤ x.n ∧ c * 512 ≤ x.al.length:=by
 unfold YC at h;rw [Bool.and_eq_true] at h;have h1:=of_decide_eq_true h.1;have h2 : x.n = x.al.length / 512:=rfl;omega
theorem QqW {x : Ixs} {c : Nat} (h : YC x c = true) : ZG x.bm (c - 1) = true:=by
 unfold YC at h;rw [Bool.and_eq_true] at h;exact h.2
theorem Qs1 {x : Ixs} {c : Nat} (h1 : 1 ≤ c) (h2 : c ≤ x.n) (h : ZG x.bm (c - 1) = true) : YC x c = true:=by
 unfold YC;rw [h,decide_eq_true ⟨h1,h2⟩];rfl
theorem QdO {n f : Nat} {P : List Nat} (hd : P.Nodup) (hr : ∀ i ∈ P,1 ≤ i ∧ i ≤ n) (h : P.length + f = n + 1) : ∃ g,f = g + 1:=by
 have h1:=QfA (n + 1) (0 :: P) (List.nodup_cons.2 ⟨fun h0=>by have:=hr 0 h0;omega,hd⟩) (fun i hi=>by
  rcases List.mem_cons.1 hi with rfl | hi
  ·omega
  ·have:=hr i hi;omega)
 rw [List.length_cons] at h1;exact ⟨f - 1,by omega⟩
theorem Qhl {co : Int} {es : List TEnt} {key : List UInt8} (h : fnd co es key = true) : plc co es key < es.length:=by grind [fnd]
theorem Qcw {P : List Nat} {c : Nat} (h : P.Nodup) (hc : ¬ c ∈ P) : (P ++ [c]).Nodup:=by grind
section
variable {w0 w : World} {M : List Nat} {As As' : List HA} {et nt' cap g : Nat} {x : LNd}
theorem Qgj (h : HS w0 M As w) (hp : QD As (.nodes et nt' (some ⟨g,0,none⟩) cap [x]) As') : HS w0 M (.blk g nt' (cap * 3) (LNd.vals x) :: .ents et x.ea x.ec x.es :: .kids x.ca x.cc x.cs :: As') w:=by
 have h1:=HS.nodes_open h hp;have h2:=HS.own_at h1 .here;have h3 : HS w0 M (.star [Qdl et x] :: .blk g nt' (cap * 3) (LNd.vals x ++ []) :: As') w:=h2.perm (List.Perm.swap ..);rw [List.append_nil] at h3;have h4 : HS w0 M ([.ents et x.ea x.ec x.es,.kids x.ca x.cc x.cs] ++ (.blk g nt' (cap * 3) (LNd.vals x) :: As')) w:=HS.star_open (HS.star_open h3);exact h4.perm (List.perm_middle (l₁:=[_,_]))
end
theorem Qo9 (x : Ixs) (co : Int) (key : List UInt8) : ∀ (f : Nat) (n : Nd) (P : List Nat),(fbI x co key f n P).1.2.length ≤ P.length + f
 | 0,n,P=>by simp [fbI]
 | f + 1,n,P=>by
  have h:=Qo9 x co key f (Xv (x.blk (QK co n key)) (QK co n key)).n (P ++ [QK co n key]);rw [List.length_append,List.length_singleton] at h;rw [fbI]
  (repeat' split) <;> (try simp only [List.length_nil]) <;> omega
theorem Qrd (x : Ixs) (key : List UInt8) : (Xz x key).1.2.length ≤ x.n + 1:=by
 unfold Xz;have h:=Qo9 x (Qa x.ro).1.co key (x.n + 1) (nth (Qa x.ro).1.ns 0) [];rw [List.length_nil] at h
 (repeat' split) <;> (try simp only [List.length_nil]) <;> omega
end Gx
namespace Go.Proofs
open Go Go.RowKit Gx
attribute [local irreducible] Go.Calls Gx.S Gx.O Gx.D Gx.OpP Gx.OpQ Gx.OpH
set_option maxRecDepth 20000
theorem QoB : Xl Tryz.prog 57 = true:=by kernel_rfl
theorem Qkl {co : Int} {a key : List UInt8} (hco : Qp co = 0) (hk : QB co key = true) : Qbg co a key = Xq co a:=by
  unfold Qbg Xq;rw [if_pos hco,if_pos hk];split <;> simp_all
theorem QuQ {c : Nat} {P : List Nat} : ((c : Int) ∈ iN P) ↔ c ∈ P:=by
  simp only [iN,List.mem_map]
  grind
theorem c62P (w : World) (a : Option Addr) (cap : Nat) (P : List Nat) (c : Nat) (hs : Rw inV 1 w [] a (iN P)) (hl : P.length ≤ 100000) : Calls Tryz.prog 62 #[.slice a P.length cap,.int .i64 (c : Int)] w fun en w'=>en = .returned (.bool (decide (c ∈ P))) ∧ Below w.heap.size w w':=by
  have h:=c62 w a cap (iN P) (c : Int) hs (by rw [Qa4];exact hl);rw [Qa4,show decide ((c : Int) ∈ iN P) = decide (c ∈ P) from decide_eq_decide.2 QuQ] at h;exact h
theorem Qd4 {u v : Bool} : Xt [.int .i64 (bif u then 0 else 6),.int .i64 (bif !v then 0 else 25)] = if u = true then if v = true then 25 else 0 else 6:=by
  cases u <;> cases v <;> rfl
theorem c57 (w : World) (b7 b3 : Nat) (co : Int) (a key : List UInt8) (hb : Rd w [] b7 3 (.int .i64 co)) (hk : Rd w [] b3 0 (.string (bs key))) (ha : a.length ≤ 1000000) (hkl : key.length ≤ 1000000) : Calls Tryz.prog 57 #[.string (bs a),.pointer (some ⟨b7,0,none⟩),.pointer (some ⟨b3,0,none⟩)] w fun en w'=>en = .returned (.tuple #[.int .i64 (if Qbg co a key = 0 then Xm co a key else 0),.int .i64 (Qbg co a key)]) ∧ Below w.heap.size w w':=by
 refine eN3 Tryz.func57 Tryz.ntmps57 ?_
 refine aU9 ?_
 refine o_q (Qe rfl rfl Za (hb)) rfl ?_
 refine aU ?_
 refine o_q (Qe rfl rfl Zw (hk)) rfl ?_
 refine oCq rfl (fun w1 h1=>c58 w1 co a key ha hkl) ?_
 refine aU5 ?_
 exact Qi (rs:=[.tmp 4,.tmp 5]) rfl (.tmp rfl (.tmp rfl (.nil))) (fun w' h'=>⟨by rfl,h'.below⟩)
set_option maxHeartbeats 4000000 in
theorem c13 (w : World) (x : Ixs) (key : List UInt8) (hl : x.al.length ≤ 900000) (hr : x.ro.length ≤ 1000000) (hb : x.bm.length ≤ 100000) (hkl : key.length ≤ 1000000) : Calls Tryz.prog 13 #[.agg #[.string (bs x.ro),.string (bs x.al),.string (bs x.bm)],.string (bs key)] w fun en w'=>∃ g : Option Addr × Nat,en = .returned (.tuple #[.agg #[.string (bs (Xz x key).1.1.key),.string (bs (Xz x key).1.1.val)],.slice g.1 (Xz x key).1.2.length g.2,.int .i64 (Xz x key).2]) ∧ True ∧ HS w [] [.own (.slice g.1 ((Xz x key).1.2).length g.2) 3 1 ((Xz x key).1.2).length (((Xz x key).1.2).map fun i : Nat=>Value.int .i64 (i : Int))] w':=by
 have hn9 : x.n ≤ x.al.length:=Nat.div_le_self _ _
 have hn8 : x.n = x.al.length / 512:=rfl
 refine eN2 Tryz.func13 Tryz.ntmps13 ?_
 refine aU2 ?_
 refine oBx fun b1 _=>?_
 refine oBx fun b2 _=>?_
 refine oAl (fun b3 _=>?_) Yb
 refine aU6 ?_
 refine oCh rfl (fun w1 h1=>c56 w1 x hl hr hb) (fun ⟨⟨c1,m1,r1⟩,⟨ra,rc⟩,RL⟩ hRL=>?_)
 refine aU3 ?_
 refine oAl (fun b4 _=>?_) Qg7
 refine aU9 ?_
 refine sCd rfl (fun h5=>?_) fun h5=>?_
 ·have hR : Xz x key = ((XY,[]),ixE x):=by unfold Xz;rw [if_neg h5]
  refine aU2 ?_
  refine o_p (QF (cs:=[_,_]) rfl rfl Qdk Yb rfl) rfl ?_
  refine aU5 ?_
  exact Qi (rs:=[.cell 4 27,.tmp 5,.tmp 6]) rfl (.cell rfl YF aPk rfl (.tmp rfl (.tmp rfl (.nil)))) (fun w' h'=>⟨(none,0),by rw [hR];rfl,trivial,by rw [hR];exact (h'.nil.own_nil 3 1).ent aEt⟩)
 have hE : ixE x = 0:=h5
 have hRT:=hRL hE
 dsimp only at hRT
 obtain rfl : c1 = (Qa x.ro).1.co:=congrArg Tre.co hRT
 obtain rfl : m1 = (Qa x.ro).1.mo:=congrArg Tre.mo hRT
 obtain rfl : r1 = (Qa x.ro).1.rm:=congrArg Tre.rm hRT
 have hRn : pln RL = (Qa x.ro).1.ns:=congrArg Tre.ns hRT
 obtain ⟨hA,hB,hC,hO,hLs⟩:=QfS hE
 obtain ⟨n0,l0,_,_,_,hrt,_,_,hco,_⟩:=Y8 hC
 have hco : Qp (Qa x.ro).1.co = 0:=by rw [hrt];exact hco
 have hb8 : x.n ≤ 8 * x.bm.length:=by have:=ZC ((x.n + 7) / 8);omega
 obtain ⟨hrf,hrk⟩:=NdF.root hC
 have hns : (Qa x.ro).1.ns = [n0]:=by rw [hrt]
 rw [hns] at hRn hrf hrk
 obtain ⟨x9,hx9,hxp⟩:=Qkt hRn
 subst hx9
 refine QaN (fun w9 h=>HS.nodes_some (L:=[x9]) (Nat.succ_pos _) h aPk) fun hna=>?_
 obtain ⟨g9,rfl,hna1,hna2⟩:=hna
 refine QhV (fun w9 h=>(show HS w [] (.blk g9 69 (rc * 3) [.bool x9.us,.slice x9.ea x9.es.length x9.ec,.slice x9.ca x9.cs.length x9.cc] :: .ents 27 x9.ea x9.ec x9.es :: .kids x9.ca x9.cc x9.cs :: _) w9 from Qgj h aPk)) ?_
 refine Qfe ?_
 refine o_q (Z9 rfl rfl QoB rfl (fun w1 h1=>c57 w1 b4 b2 (Qa x.ro).1.co key key (h1.rd_blk (Mc:=[]) aPk rfl (by simp)) (h1.rd_blk (Mc:=[]) aPk rfl (by simp)) hkl hkl)) rfl ?_
 refine Qfe ?_
 refine sCd rfl (fun h6=>?_) fun h6=>?_
 ·have hR : Xz x key = ((XY,[]),3):=by have hq:=h6;unfold Xz;rw [if_pos hE,if_neg];intro h9;exact hq (by rw [Qkl hco h9];unfold Xq;rw [if_pos h9])
  have hR3 : Qbg (Qa x.ro).1.co key key = 3:=by have hq:=h6;unfold Qbg at hq ⊢;unfold Xq at hq ⊢;grind
  refine aU2 ?_
  refine o_p (QF (cs:=[_,_]) rfl rfl Qdk Yb rfl) rfl ?_
  refine aU5 ?_
  exact Qi (rs:=[.cell 4 27,.tmp 5,.tmp 6]) rfl (.cell rfl YF aPk rfl (.tmp rfl (.tmp rfl (.nil)))) (fun w' h'=>⟨(none,0),by rw [hR];simp only [Xj,hR3];rfl,trivial,by rw [hR];exact (h'.nil.own_nil 3 1).ent aEt⟩)
 have hke : QB (Qa x.ro).1.co key = true:=by have hq:=h6;unfold Qbg at hq;unfold Xq at hq;grind
 have hF0 : Xz x key = fbI x (Qa x.ro).1.co key (x.n + 1) x9.pl []:=by unfold Xz;rw [if_pos hE,if_pos hke,hns,hxp];rfl
 refine Qaj ?_
 refine Qk (show _ = Value.slice (some ⟨g9,0,none⟩) 1 rc from rfl) ?_
 refine o_p (Qc rfl rfl rfl Yn 0 rfl (by omega) rfl) rfl ?_
 refine aU ?_
 refine oAl (fun b7 _=>?_) XS
 refine aU3 ?_
 refine Qj (L':=[(4,_),(5,_),(6,_),(7,_),(9,_),(12,_),(13,_)]) aSx (fun _ h=>h) ?_
 refine Qt (α:=Nat × (Option Addr × Nat) × List Nat × LNd × Nat) [5,6,12,13,14,15,16,17,18,19,20,21,22,23,49,50,51,52,53,54,55,56,57,58,59,60,61,62,63,64,65,66,67,68,69,70,71,72,73,74,75,76,77,78,79,80,81,82,83,84,85,86,87,88,89,90,91,92,93,94,95,96,97,98,99,100,101,102,103,104,105,106,107,108,109,110,111,112,113,114,115,116,117,118,119,120,121,122,123,124,125,126,127,128,129,130,131,132,133,134,135,136,137,138,139,140,141,142,143,144] (fun y=>[(13,.pointer (some ⟨y.1,0,none⟩)),(12,.slice y.2.1.1 y.2.2.1.length y.2.1.2)]) (fun y=>HS w [] [.blk y.1 69 3 (LNd.vals y.2.2.2.1),.ents 27 (y.2.2.2.1).ea (y.2.2.2.1).ec (y.2.2.2.1).es,.kids (y.2.2.2.1).ca (y.2.2.2.1).cc (y.2.2.2.1).cs,.own (.slice y.2.1.1 (y.2.2.1).length y.2.1.2) 3 1 (y.2.2.1).length ((y.2.2.1).map fun i : Nat=>Value.int .i64 (i : Int)),.blk b4 108 7 [.string (bs x.ro),.string (bs x.al),.string (bs x.bm),.int .i64 (Qa x.ro).1.co,.int .i64 (Qa x.ro).1.mo,.int .i64 (Qa x.ro).1.rm,.slice (some ⟨g9,0,none⟩) 1 rc],.blk b2 9 1 [.string (bs key)],.blk b3 27 2 [.string (bs []),.string (bs [])]]) (fun y=>NdF y.2.2.2.1.pl ∧ y.2.2.1.length + y.2.2.2.2 = x.n + 1 ∧ y.2.2.1.Nodup ∧ (∀ i ∈ y.2.2.1,1 ≤ i ∧ i ≤ x.n) ∧ Xz x key = fbI x (Qa x.ro).1.co key y.2.2.2.2 y.2.2.2.1.pl y.2.2.1) (fun y=>y.2.2.2.2) (b7,(none,0),[],x9,x.n + 1) ⟨by rw [hxp];exact hrf,by (try simp only []);rw [List.length_nil];omega,List.nodup_nil,fun i hi=>(List.not_mem_nil hi).elim,hF0⟩ aSx (fun w h=>(h.own_nil 3 1).ent aEt) (fun ⟨nb,⟨pa,pc⟩,P,gn,f⟩ hyy=>?_)
 dsimp only
 obtain ⟨hgn,hPf,hPd,hPr,hfb⟩:=hyy
 simp only [] at hgn hPf hPd hPr hfb
 obtain ⟨f,rfl⟩:=QdO hPd hPr hPf
 have hes9 : gn.es.length ≤ 255:=hgn.sm.es
 have hcs9 : gn.cs.length ≤ 256:=hgn.sm.cs
 have hpel : gn.pl.es.length = gn.es.length:=rfl
 have hpcl : gn.pl.cs.length = gn.cs.length:=rfl
 refine QaN (p:=0 < gn.es.length → gn.ea = some ⟨ab gn.ea,ao gn.ea,none⟩) (fun w9 h h0=>Rw.some (HS.rw_own (l:=gn.es) ev2 h aPk rfl) h0) fun hsE=>?_
 refine QaN (p:=0 < gn.cs.length → gn.ca = some ⟨ab gn.ca,ao gn.ca,none⟩) (fun w9 h h0=>Rw.some (HS.rw_own (l:=gn.cs) iv1 h aPk rfl) h0) fun hsC=>?_
 refine aT16 ?_
 refine aU3 ?_
 refine Qt (α:=Nat) [5,6,14,15,16,17,56,57,58,59,60,61,62,63,64,65,66,67,68,69,70,71,72,73,74,75,76] (fun m=>[(15,.int .i64 ((m : Int) - 1)),(14,.int .i64 (((m + plc (Qa x.ro).1.co (gn.es.drop m) key) : Nat) : Int))]) (fun _=>HS w [] [.blk nb 69 3 (LNd.vals gn),.ents 27 (gn).ea (gn).ec (gn).es,.kids (gn).ca (gn).cc (gn).cs,.own (.slice pa (P).length pc) 3 1 (P).length ((P).map fun i : Nat=>Value.int .i64 (i : Int)),.blk b4 108 7 [.string (bs x.ro),.string (bs x.al),.string (bs x.bm),.int .i64 (Qa x.ro).1.co,.int .i64 (Qa x.ro).1.mo,.int .i64 (Qa x.ro).1.rm,.slice (some ⟨g9,0,none⟩) 1 rc],.blk b2 9 1 [.string (bs key)],.blk b3 27 2 [.string (bs []),.string (bs [])]]) (fun m=>m ≤ gn.es.length ∧ ∀ i,m ≤ i → i < gn.es.length → QB (Qa x.ro).1.co (nth gn.es i).key = true) (fun m=>m) gn.es.length ⟨Nat.le_refl _,fun i h1 h2=>absurd h2 (by omega)⟩ (by rw [List.drop_length];exact aSx) (fun w h=>h.ent aEt) (fun m hmm=>?_)
 obtain ⟨hm1,hm2⟩:=hmm
 refine aU6 ?_
 refine sCd rfl (fun h8=>?_) fun h8=>?_
 ·have hm : 0 < m:=by have hq:=h8;omega
  have hce : Qbg (Qa x.ro).1.co (nth gn.es (m - 1)).key key = Xq (Qa x.ro).1.co (nth gn.es (m - 1)).key:=Qkl hco hke
  have hpd:=Qpn (co:=(Qa x.ro).1.co) (key:=key) (m:=m - 1) (es:=gn.es) (by omega)
  rw [Nat.sub_add_cancel hm] at hpd
  refine aU9 ?_
  refine o_p (Qc rfl rfl rfl Q7 (m - 1) (by omega) (by omega) (hsE (by omega))) rfl ?_
  refine aU ?_
  refine o_q (Xi rfl rfl Zw (fun w h=>(HS.rw_own (l:=gn.es) ev2 h aPk rfl).rdj 0 (i:=m - 1) (by omega) rfl)) rfl ?_
  refine o_q (Z9 rfl rfl QoB rfl (fun w1 h1=>c57 w1 b4 b2 (Qa x.ro).1.co (nth gn.es (m - 1)).key key (h1.rd_blk (Mc:=[]) aPk rfl (by simp)) (h1.rd_blk (Mc:=[]) aPk rfl (by simp)) (hgn.sm.ent _ (QC (by omega))).1 hkl)) rfl ?_
  refine Qes ?_
  refine sCd rfl (fun h9=>?_) fun h9=>?_
  ·have hkn : XL (Qa x.ro).1.co gn.pl.es = false:=Qh5 (k:=m - 1) (es:=gn.pl.es) (by omega) (by have hq:=h9;rw [hce] at hq;unfold Xq at hq;(show QB _ (nth gn.es (m - 1)).key = false);grind)
   have hR : Xz x key = ((XY,[]),3):=by rw [hfb];exact Qpa hkn
   refine aU ?_
   refine Qj (L':=[(4,_),(7,_),(9,_),(12,_),(13,_),(14,_),(15,_),(16,_),(49,_),(50,_),(51,_),(52,_),(53,_),(54,_),(55,_)]) aSx (fun _ h=>h) ?_
   refine aU ?_
   refine o_p (QF (cs:=[_,_]) rfl rfl Qdk Yb rfl) rfl ?_
   refine aU4 ?_
   exact Qi (rs:=[.cell 4 27,.tmp 5,.tmp 6]) rfl (.cell rfl YF aPk rfl (.tmp rfl (.tmp rfl (.nil)))) (fun w' h'=>⟨(none,0),by rw [hR];rfl,trivial,by rw [hR];exact (h'.nil.own_nil 3 1).ent aEt⟩)
  have hky : QB (Qa x.ro).1.co (nth gn.es (m - 1)).key = true:=by have hq:=h9;rw [hce] at hq;unfold Xq at hq;grind
  have hz9 : Qbg (Qa x.ro).1.co (nth gn.es (m - 1)).key key = 0:=h9
  refine aU2 ?_
  refine Qj (L':=[(4,_),(7,_),(9,_),(12,_),(13,_),(14,_),(15,_),(16,_),(49,_),(50,_),(51,_),(52,_),(53,_),(54,_),(55,_)]) aSx (fun _ h=>h) ?_
  refine aU4 ?_
  refine sCd rfl (fun h10=>?_) fun h10=>?_
  ·have hq4 : ¬ Xm (Qa x.ro).1.co (nth gn.es (m - 1)).key key < 0:=by have hq:=h10;rw [if_pos hz9] at hq;omega
   rw [if_neg hq4] at hpd
   refine aT8 ?_
   refine aU2 ?_
   exact sBk (m - 1) (by omega) ⟨by omega,fun i h1 h2=>(Nat.lt_or_ge i m).elim (fun h9=>by obtain rfl : i = m - 1:=(by omega);exact hky) (fun h9=>hm2 i h9 h2)⟩ (by rw [hpd,show ((m - 1 + 0 : Nat) : Int) = (m : Int) - 1 by omega,show ((m - 1 : Nat) : Int) = (m : Int) - 1 by omega];exact aSx)
  have hq4 : Xm (Qa x.ro).1.co (nth gn.es (m - 1)).key key < 0:=by have hq:=h10;rw [if_pos hz9] at hq;omega
  rw [if_pos hq4] at hpd
  refine aT5 ?_
  refine aU2 ?_
  exact sBk (m - 1) (by omega) ⟨by omega,fun i h1 h2=>(Nat.lt_or_ge i m).elim (fun h9=>by obtain rfl : i = m - 1:=(by omega);exact hky) (fun h9=>hm2 i h9 h2)⟩ (by rw [hpd,show m - 1 + (plc (Qa x.ro).1.co (gn.es.drop m) key + 1) = m + plc (Qa x.ro).1.co (gn.es.drop m) key by omega];rw [show ((m - 1 : Nat) : Int) = (m : Int) - 1 by omega];exact aSx)
 obtain rfl : m = 0:=by have hq:=h8;omega
 have hkk : XL (Qa x.ro).1.co gn.pl.es = true:=QbK fun i hi=>hm2 i (Nat.zero_le _) hi
 rw [Nat.zero_add,List.drop_zero]
 refine Qo rfl ?_
 refine aU9 ?_
 refine Qfl (α:=Unit) [5,6,18,19,82,83,84,85,86,87,88,89,90,91,92,93,94,95,96,97,98,99,100] (fun _=>[]) (fun _=>¬ fnd (Qa x.ro).1.co gn.pl.es key = true) ?_ ?_
 ·skip
  refine sCd rfl (fun h11=>?_) fun h11=>?_
  ·have hpl5 : plc (Qa x.ro).1.co gn.es key < gn.es.length:=by have hq:=h11;omega
   have hz5 : Qbg (Qa x.ro).1.co (nth gn.es (plc (Qa x.ro).1.co gn.es key)).key key = 0:=by rw [Qkl hco hke];exact QoR.2 (hm2 _ (Nat.zero_le _) hpl5)
   refine aU6 ?_
   refine o_p (Qc rfl rfl rfl Q7 (plc (Qa x.ro).1.co gn.es key) (by omega) (by omega) (hsE (by omega))) rfl ?_
   refine aU ?_
   refine o_q (Xi rfl rfl Zw (fun w h=>(HS.rw_own (l:=gn.es) ev2 h aPk rfl).rdj 0 (i:=plc (Qa x.ro).1.co gn.es key) (by omega) rfl)) rfl ?_
   refine o_q (Z9 rfl rfl QoB rfl (fun w1 h1=>c57 w1 b4 b2 (Qa x.ro).1.co (nth gn.es (plc (Qa x.ro).1.co gn.es key)).key key (h1.rd_blk (Mc:=[]) aPk rfl (by simp)) (h1.rd_blk (Mc:=[]) aPk rfl (by simp)) (hgn.sm.ent _ (QC (by omega))).1 hkl)) rfl ?_
   refine aU7 ?_
   refine Qj (L':=[(4,_),(7,_),(9,_),(12,_),(13,_),(14,_),(15,_),(18,_),(49,_),(50,_),(51,_),(52,_),(53,_),(54,_),(55,_),(56,_),(57,_),(77,_),(78,_),(79,_),(80,_),(81,_)]) aSx (fun _ h=>h) ?_
   refine aU4 ?_
   refine sCd rfl (fun h12=>?_) fun h12=>?_
   ·have hfn : fnd (Qa x.ro).1.co gn.pl.es key = true:=by have hq:=h12;rw [if_pos hz5] at hq;(show (decide (plc (Qa x.ro).1.co gn.es key < gn.es.length) && decide (Xm (Qa x.ro).1.co (nth gn.es (plc (Qa x.ro).1.co gn.es key)).key key = 0)) = true);rw [decide_eq_true hpl5,decide_eq_true hq];rfl
    have hR : Xz x key = ((nth gn.es (plc (Qa x.ro).1.co gn.es key),P),0):=by rw [hfb];exact Qod hkk hfn
    refine aU5 ?_
    refine o_p (Qc rfl rfl rfl Q7 (plc (Qa x.ro).1.co gn.es key) (by omega) (by omega) (hsE (by omega))) rfl ?_
    refine o_q (QeY _ rfl rfl YF rfl (fun w h=>Rw.rd (HS.rw_own (l:=gn.es) ev2 h aPk rfl) (i:=plc (Qa x.ro).1.co gn.es key) (by omega))) rfl ?_
    refine aU5 ?_
    exact Qi (rs:=[.cell 4 27,.tmp 5,.tmp 6]) rfl (.cell rfl YF aPk rfl (.tmp rfl (.tmp rfl (.nil)))) (fun w' h'=>⟨(pa,pc),by rw [hR];rfl,trivial,by rw [hR];exact h'.ent aEt⟩)
   refine aU ?_
   exact QH () (by have hq:=h12;rw [if_pos hz5] at hq;(show ¬ (decide (plc (Qa x.ro).1.co gn.es key < gn.es.length) && decide (Xm (Qa x.ro).1.co (nth gn.es (plc (Qa x.ro).1.co gn.es key)).key key = 0)) = true);rw [decide_eq_false (p:=Xm (Qa x.ro).1.co (nth gn.es (plc (Qa x.ro).1.co gn.es key)).key key = 0) hq];simp) aSx (fun w h=>h.ent aEt)
  have hpl5 : ¬ plc (Qa x.ro).1.co gn.es key < gn.es.length:=by have hq:=h11;omega
  refine aU ?_
  exact QH () (fun h9=>hpl5 (Qhl h9)) aSx (fun w h=>h.ent aEt)
 intro _ hnf
 refine aU8 ?_
 refine sCd rfl (fun h13=>?_) fun h13=>?_
 ·have hR : Xz x key = ((XY,[]),6):=by rw [hfb];exact QkI hkk hnf (by have hq:=h13;(show gn.cs.length = 0);omega)
  refine aU2 ?_
  refine o_p (QF (cs:=[_,_]) rfl rfl Qdk Yb rfl) rfl ?_
  refine aU4 ?_
  exact Qi (rs:=[.cell 4 27,.tmp 5,.tmp 6]) rfl (.cell rfl YF aPk rfl (.tmp rfl (.tmp rfl (.nil)))) (fun w' h'=>⟨(none,0),by rw [hR];rfl,trivial,by rw [hR];exact (h'.nil.own_nil 3 1).ent aEt⟩)
 have hncs : ¬ gn.pl.cs.length = 0:=by have hq:=h13;(show ¬ gn.cs.length = 0);omega
 obtain ⟨hkd1,hkd2,hkd3,hkd4⟩:=hgn.kid hncs (Qa x.ro).1.co key
 have hkd1 : plc (Qa x.ro).1.co gn.es key < gn.cs.length:=hkd1
 have hkd2 : (((QK (Qa x.ro).1.co gn.pl key) : Nat) : Int) = gn.cs.getD (plc (Qa x.ro).1.co gn.es key) 0:=hkd2
 refine aU6 ?_
 refine o_p (Qc rfl rfl rfl QN (plc (Qa x.ro).1.co gn.es key) (by omega) (by omega) (hsC (by omega))) rfl ?_
 refine o_q (Xi rfl rfl Za (fun w h=>(HS.rw_own (l:=gn.cs) iv1 h aPk rfl).rdj 0 (i:=plc (Qa x.ro).1.co gn.es key) (by omega) rfl)) rfl ?_
 refine aU ?_
 refine Qk (show _ = Value.int .i64 (((QK (Qa x.ro).1.co gn.pl key) : Nat) : Int) from by rw [hkd2];rfl) ?_
 refine aU3 ?_
 refine Qj (L':=[(4,_),(7,_),(9,_),(12,_),(13,_),(14,_),(15,_),(20,_),(49,_),(50,_),(51,_),(52,_),(53,_),(54,_),(55,_)]) aSx (fun _ h=>h) ?_
 refine aU3 ?_
 refine oCq rfl (fun w1 h1=>c61 w1 x (Qa x.ro).1.co (Qa x.ro).1.mo (Qa x.ro).1.rm (some ⟨g9,0,none⟩) 1 rc (QK (Qa x.ro).1.co gn.pl key) (by omega) hb8) ?_
 refine oCq rfl (fun w1 h1=>c60 w1 _ _) ?_
 refine aU2 ?_
 refine oCq rfl (fun w1 h1=>c62P w1 pa pc P (QK (Qa x.ro).1.co gn.pl key) (HS.pown_row (P:=P) h1 aPk) (by omega)) ?_
 refine aU ?_
 refine oCq rfl (fun w1 h1=>c60 w1 _ _) ?_
 refine o_h (Ql (cs:=[_,_]) rfl rfl Y3 Qcj rfl rfl rfl) rfl (fun b14 _=>?_)
 refine oCq rfl (fun w1 h1=>f59 h1 aPk (by rfl) (by rfl) (by decide)) ?_
 refine aU7 ?_
 refine sCd rfl (fun h15=>?_) fun h15=>?_
 ·have hR:=QtZ (x:=x) (f:=f) (P:=P) hkk hnf hncs rfl (by have hq:=h15;rw [Qd4] at hq;simpa using hq)
  rw [← hfb] at hR
  have hR3 : Xt [.int .i64 (bif YC x (QK (Qa x.ro).1.co gn.pl key) then 0 else 6),.int .i64 (bif !decide ((QK (Qa x.ro).1.co gn.pl key) ∈ P) then 0 else 25)] = (Xz x key).2:=by rw [hR,Qd4];simp
  refine aU2 ?_
  refine o_p (QF (cs:=[_,_]) rfl rfl Qdk Yb rfl) rfl ?_
  refine aU5 ?_
  exact Qi (rs:=[.cell 4 27,.tmp 5,.tmp 6]) rfl (.cell rfl YF aPk rfl (.tmp rfl (.tmp rfl (.nil)))) (fun w' h'=>⟨(none,0),by simp only [Xj];rw [hR3,hR];rfl,trivial,by rw [hR];exact (h'.nil.own_nil 3 1).ent aEt⟩)
 have hnm9 : YC x (QK (Qa x.ro).1.co gn.pl key) = true ∧ ¬ (QK (Qa x.ro).1.co gn.pl key) ∈ P:=by have hq:=h15;rw [Qd4] at hq;grind
 obtain ⟨hnm9,hin9⟩:=hnm9
 obtain ⟨hb1,hb2,hb3⟩:=Qky hnm9
 have hbl9 : 1 ≤ (QK (Qa x.ro).1.co gn.pl key) ∧ (QK (Qa x.ro).1.co gn.pl key) * 512 ≤ x.al.length:=⟨hb1,hb3⟩
 have hb5:=QhD hbl9
 refine aU5 ?_
 refine oCq rfl (fun w1 h1=>c64 w1 x (Qa x.ro).1.co (Qa x.ro).1.mo (Qa x.ro).1.rm (some ⟨g9,0,none⟩) 1 rc (QK (Qa x.ro).1.co gn.pl key) (by omega) hbl9) ?_
 refine aU ?_
 refine oCh rfl (fun w1 h1=>c63 w1 (x.blk (QK (Qa x.ro).1.co gn.pl key)) (((QK (Qa x.ro).1.co gn.pl key) : Nat) : Int) (by omega)) (fun g2 hg2=>?_)
 refine aU3 ?_
 refine oAl (fun b16 _=>?_) QbF
 refine aU5 ?_
 refine Qj (L':=[(4,_),(7,_),(9,_),(12,_),(13,_),(14,_),(15,_),(20,_),(22,_),(23,_),(49,_),(50,_),(51,_),(52,_),(53,_),(54,_),(55,_)]) aSx (fun _ h=>h) ?_
 refine aU4 ?_
 refine sCd rfl (fun h17=>?_) fun h17=>?_
 ·have hR : Xz x key = ((XY,[]),(Xv (x.blk (QK (Qa x.ro).1.co gn.pl key)) (QK (Qa x.ro).1.co gn.pl key)).e):=by rw [hfb];exact Qob hkk hnf hncs hnm9 hin9 h17
  refine aU2 ?_
  refine o_p (QF (cs:=[_,_]) rfl rfl Qdk Yb rfl) rfl ?_
  refine aU5 ?_
  exact Qi (rs:=[.cell 4 27,.tmp 5,.tmp 6]) rfl (.cell rfl YF aPk rfl (.tmp rfl (.tmp rfl (.nil)))) (fun w' h'=>⟨(none,0),by rw [hR];rfl,trivial,by rw [hR];exact (h'.nil.own_nil 3 1).ent aEt⟩)
 have he9 : (Xv (x.blk (QK (Qa x.ro).1.co gn.pl key)) (QK (Qa x.ro).1.co gn.pl key)).e = 0:=h17
 have hfn9:=Qlt (f:=f) hkk hnf hncs hnm9 hin9 he9
 rw [← hfb] at hfn9
 have hg3 : NdF g2.pl:=by rw [hg2];exact NdF.of he9
 refine aU ?_
 refine QeJ [.blk b16 118 5 [.bool g2.us,.slice g2.ea g2.es.length g2.ec,.slice g2.ca g2.cs.length g2.cc,.int .i64 (Xv (x.blk (QK (Qa x.ro).1.co gn.pl key)) (QK (Qa x.ro).1.co gn.pl key)).lsn,.int .i64 (Xv (x.blk (QK (Qa x.ro).1.co gn.pl key)) (QK (Qa x.ro).1.co gn.pl key)).usn]] [6] QZ ?_
 refine dFa 0 ?_
 refine dLn 1 [[]] ?_
 refine dP 2 ?_
 refine dP 3 ?_
 refine dH 4 rfl (Ql (cs:=[_]) rfl rfl QN Qbp rfl rfl rfl) (fun b18 _=>?_)
 refine dH 5 rfl (Xx [_] rfl rfl rfl QN Tryz.underlying28 Qbp rfl aPk (Xe aPk) rfl (by intro u hu;simp only [List.mem_cons,List.mem_nil_iff,or_false] at hu;subst hu;rfl) (by omega) (by simp only [maxLen];omega)) (fun b19 _=>?_)
 refine Qqz 6 rfl (Z6 rfl rfl rfl Yd rfl aPt (by show 0 + 3 ≤ 3;omega) rfl) (by kernel_rfl) (fun w h=>h.ent aEt) (fun _ _=>?_)
 refine dTu [] ?_
 refine dP 7 ?_
 refine dNi ?_
 refine aU6 ?_
 refine oAl (fun b20 _=>?_) XS
 refine aU2 ?_
 exact QW (b20,(b19.1,b19.2),P ++ [(QK (Qa x.ro).1.co gn.pl key)],g2,f) (by (try simp only []);omega) ⟨hg3,by (try simp only []);rw [List.length_append,List.length_singleton];omega,Qcw hPd hin9,fun i hi=>by rcases List.mem_append.1 hi with h9 | h9;exact hPr i h9;obtain rfl:=List.mem_singleton.1 h9;exact ⟨hb1,hb2⟩,by (try simp only []);rw [hg2];exact hfn9⟩ (by simp only [List.length_append (bs:=[(QK (Qa x.ro).1.co gn.pl key)]),List.length_singleton];exact aSx) (fun w h=>by have h2:=h;simp only [List.length_append (bs:=[(QK (Qa x.ro).1.co gn.pl key)]),List.length_singleton,List.map_append (l₂:=[(QK (Qa x.ro).1.co gn.pl key)]),List.map_cons,List.map_nil];exact h2.ent aEt)
instance : TFn Tryz.prog 68:=⟨by kernel_rfl⟩
theorem c68 (w : World) (a : Option Addr) (cap : Nat) (P : List Nat) (c : Nat) (hs : Rw inV 1 w [] a (iN P)) (hm : P.length ≤ 1000000) : Calls Tryz.prog 68 #[.slice a P.length cap,.int .i64 (c : Int)] w fun en w'=>en = .returned (.bool (decide (c ∈ P))) ∧ Below w.heap.size w w':=by
 refine eN2 Tryz.func68 Tryz.ntmps68 ?_
 refine Qaj ?_
 refine Qt (α:=Nat) [4,5,6,7,8,9,10,11,12,13,14,15,16,17] (fun k=>[(5,.int .i64 (k : Int))]) (fun _=>HS w [] []) (fun k=>k ≤ P.length ∧ ∀ j,j < k → ¬ nth P j = c) (fun k=>P.length - k) 0 ⟨Nat.zero_le _,fun j h=>absurd h (Nat.not_lt_zero j)⟩ aSx (fun w h=>h.ent aEt) (fun k hk=>?_)
 obtain ⟨hk1,hk2⟩:=hk
 have hiN:=Qa4 P
 refine aU8 ?_
 refine sCd rfl (fun h1=>?_) fun h1=>?_
 ·have hkl : k < P.length:=by omega
  have hki:=Qn1 hkl
  refine aU7 ?_
  refine o_p (Qc rfl rfl rfl QN (k) (by omega) (by omega) (Rw.some hs (by omega))) rfl ?_
  refine o_q (Qe rfl rfl Za ((hs.rdj (i:=k) 0 (by omega) (show _ = some (Value.int .i64 ((nth P k : Nat) : Int)) from by rw [QtQ hkl];rfl)))) rfl ?_
  refine aU3 ?_
  refine sCd rfl (fun h2=>?_) fun h2=>?_
  ·have heq : nth P k = c:=by have hq:=h2;omega
   refine aU4 ?_
   exact rT rfl rfl (fun w' h'=>⟨by rw [show decide (c ∈ P) = true from decide_eq_true (heq ▸ QC hkl)];rfl,h'.below⟩)
  have hne : ¬ nth P k = c:=by have hq:=h2;omega
  refine aT5 ?_
  refine aU2 ?_
  exact sBk (k + 1) (by omega) ⟨by omega,fun j hj=>(Nat.lt_succ_iff_lt_or_eq.1 hj).elim (hk2 j) fun e=>by subst e;exact hne⟩
 obtain rfl : k = P.length:=by omega
 refine Qo rfl ?_
 refine aU4 ?_
 exact rT rfl rfl (fun w' h'=>⟨by rw [show decide (c ∈ P) = false from decide_eq_false fun hm9=>by obtain ⟨j,hj,e⟩:=List.getElem_of_mem hm9;exact hk2 j hj (by rw [Zr (List.getElem?_eq_getElem hj)];exact e)];rfl,h'.below⟩)
theorem c17c (w : World) (co : Int) (s : List UInt8) (hco : Qp co = 0) (hm : s.length ≤ 1000000) : Calls Tryz.prog 17 #[.int .i64 co,.string (bs s)] w fun en w'=>en = .returned (.int .i64 (Xq co s)) ∧ Below w.heap.size w w':=by
  obtain ⟨j,rfl,hj⟩:=QcI hco;exact c17 w j s hj hm
theorem c65c (w : World) (co : Int) (a b : List UInt8) (hco : Qp co = 0) (hka : QB co a = true) (hkb : QB co b = true) (ha : a.length ≤ 1000000) (hb : b.length ≤ 1000000) : Calls Tryz.prog 65 #[.int .i64 co,.string (bs a),.string (bs b)] w fun en w'=>en = .returned (.int .i64 (Xm co a b)) ∧ Below w.heap.size w w':=by
  obtain ⟨j,rfl,hj⟩:=QcI hco;exact c65 w j a b hj hka hkb ha hb
theorem c70c (w : World) (co : Int) (n : LNd) (hco : Qp co = 0) (hes : Rw TEnt.vals 2 w [] n.ea n.es) (hl : n.es.length ≤ 100000) (hkl : ∀ x ∈ n.es,x.key.length ≤ 1000000) : Calls Tryz.prog 70 #[.int .i64 co,.agg #[.bool n.us,.slice n.ea n.es.length n.ec,.slice n.ca n.cs.length n.cc]] w fun en w'=>en = .returned (.bool (XL co n.es)) ∧ Below w.heap.size w w':=by
  obtain ⟨j,rfl,hj⟩:=QcI hco;exact c70 w j n hj hes hl hkl
set_option maxHeartbeats 4000000 in
theorem c14 (w : World) (x : Ixs) (key : List UInt8) (hl : x.al.length ≤ 900000) (hr : x.ro.length ≤ 1000000) (hb : x.bm.length ≤ 100000) (hkl : key.length ≤ 1000000) : Calls Tryz.prog 14 #[.agg #[.string (bs x.ro),.string (bs x.al),.string (bs x.bm)],.string (bs key)] w fun en w'=>∃ g : Option Addr × Nat,en = .returned (.tuple #[.agg #[.string (bs (Xz x key).1.1.key),.string (bs (Xz x key).1.1.val)],.slice g.1 (Xz x key).1.2.length g.2,.int .i64 (Xz x key).2]) ∧ True ∧ HS w [] [.own (.slice g.1 ((Xz x key).1.2).length g.2) 3 1 ((Xz x key).1.2).length (((Xz x key).1.2).map fun i : Nat=>Value.int .i64 (i : Int))] w':=by
 have hn9 : x.n ≤ x.al.length:=Nat.div_le_self _ _
 have hn8 : x.n = x.al.length / 512:=rfl
 refine eN2 Tryz.func14 Tryz.ntmps14 ?_
 refine aU2 ?_
 refine oBx fun b1 _=>?_
 refine oAl (fun b2 _=>?_) Yb
 refine aU5 ?_
 refine o_p (QF (cs:=[_,_]) rfl rfl Qdk Yb rfl) rfl ?_
 refine oAl (fun b3 _=>?_) Yb
 refine aU6 ?_
 refine oCq rfl (fun w1 h1=>c49 w1 x hl hr hb) ?_
 refine aU7 ?_
 refine sCd rfl (fun h4=>?_) fun h4=>?_
 ·have hR : Xz x key = ((XY,[]),ixE x):=by unfold Xz;rw [if_neg h4]
  refine aU8 ?_
  exact Qi (rs:=[.cell 4 27,.tmp 5,.tmp 6]) rfl (.cell rfl YF aPk rfl (.tmp rfl (.tmp rfl (.nil)))) (fun w' h'=>⟨(none,0),by rw [hR];rfl,trivial,by rw [hR];exact (h'.nil.own_nil 3 1).ent aEt⟩)
 have hE : ixE x = 0:=h4
 obtain ⟨hA,hB,hC,hO,hLs⟩:=QfS hE
 obtain ⟨n0,l0,_,_,_,hrt,_,_,hco,_⟩:=Y8 hC
 have hco : Qp (Qa x.ro).1.co = 0:=by rw [hrt];exact hco
 obtain ⟨hrf,hrk⟩:=NdF.root hC
 have hns : (Qa x.ro).1.ns = [n0]:=by rw [hrt]
 rw [hns] at hrf hrk
 refine aU5 ?_
 refine oCh rfl (fun w1 h1=>c31 w1 x.ro hr) (fun ⟨⟨ra,rc⟩,RL⟩ hRn=>?_)
 refine aU3 ?_
 refine oAl (fun b5 _=>?_) YD
 refine aU9 ?_
 refine oCq rfl (fun w1 h1=>c17c w1 (Qa x.ro).1.co key hco hkl) ?_
 refine aU7 ?_
 refine sCd rfl (fun h6=>?_) fun h6=>?_
 ·have hR : Xz x key = ((XY,[]),3):=by have hq:=h6;unfold Xz;rw [if_pos hE,if_neg];intro h9;exact hq (by unfold Xq;rw [if_pos h9])
  have hR3 : Xq (Qa x.ro).1.co key = 3:=by have hq:=h6;unfold Xq at hq ⊢;grind
  refine aU8 ?_
  exact Qi (rs:=[.cell 4 27,.tmp 5,.tmp 6]) rfl (.cell rfl YF aPk rfl (.tmp rfl (.tmp rfl (.nil)))) (fun w' h'=>⟨(none,0),by rw [hR];simp only [Xj,hR3];rfl,trivial,by rw [hR];exact (h'.nil.own_nil 3 1).ent aEt⟩)
 rw [hns] at hRn
 obtain ⟨x9,hx9,hxp⟩:=Qkt hRn
 subst hx9
 refine QaN (fun w9 h=>HS.nodes_some (L:=[x9]) (Nat.succ_pos _) h aPk) fun hna=>?_
 obtain ⟨g9,rfl,hna1,hna2⟩:=hna
 refine QhV (fun w9 h=>(show HS w [] (.blk g9 69 (rc * 3) [.bool x9.us,.slice x9.ea x9.es.length x9.ec,.slice x9.ca x9.cs.length x9.cc] :: .ents 27 x9.ea x9.ec x9.es :: .kids x9.ca x9.cc x9.cs :: _) w9 from Qgj h aPk)) ?_
 have hke : QB (Qa x.ro).1.co key = true:=by have hq:=h6;unfold Xq at hq;grind
 have hF0 : Xz x key = fbI x (Qa x.ro).1.co key (x.n + 1) x9.pl []:=by unfold Xz;rw [if_pos hE,if_pos hke,hns,hxp];rfl
 refine aU5 ?_
 refine Qk (show _ = Value.slice (some ⟨g9,0,none⟩) 1 rc from rfl) ?_
 refine o_p (Qc rfl rfl rfl Yn 0 rfl (by omega) rfl) rfl ?_
 refine aU ?_
 refine oAl (fun b7 _=>?_) XS
 refine aU3 ?_
 refine Qj (L':=[(1,_),(2,_),(4,_),(5,_),(6,_),(7,_),(9,_),(12,_)]) aSx (fun _ h=>h) ?_
 refine aU4 ?_
 refine Qt (α:=(Option Addr × Nat) × List Nat × LNd × Nat) [5,6,13,14,15,16,17,18,19,45,46,47,48,49,50,51,52,53,54,55,56,57,58,59,60,61,62,63,64,65,66,67,68,69,70,71,72,73,74,75,76,77,78,79,80,81,82,83,84,85,86,87,88,89,90,91,92,93,94,95,96,97,98,99,100,101,102,103,104,105,106,107,108,109,110,111,112,113,114,115,116,117,118,119,120,121,122,123,124,125,126,127,128,129,130,131,132,133,134,135,136,137,138] (fun y=>[(13,.slice y.1.1 y.2.1.length y.1.2)]) (fun y=>HS w [] [.blk b7 69 3 (LNd.vals y.2.2.1),.ents 27 (y.2.2.1).ea (y.2.2.1).ec (y.2.2.1).es,.kids (y.2.2.1).ca (y.2.2.1).cc (y.2.2.1).cs,.own (.slice y.1.1 (y.2.1).length y.1.2) 3 1 (y.2.1).length ((y.2.1).map fun i : Nat=>Value.int .i64 (i : Int)),.blk b1 23 3 [.string (bs x.ro),.string (bs x.al),.string (bs x.bm)],.blk b5 37 4 [.int .i64 (Qa x.ro).1.co,.int .i64 (Qa x.ro).1.mo,.int .i64 (Qa x.ro).1.rm,.slice (some ⟨g9,0,none⟩) 1 rc],.blk b3 27 2 [.string (bs []),.string (bs [])],.blk b2 27 2 [.string (bs []),.string (bs [])]]) (fun y=>NdF y.2.2.1.pl ∧ y.2.1.length + y.2.2.2 = x.n + 1 ∧ y.2.1.Nodup ∧ (∀ i ∈ y.2.1,1 ≤ i ∧ i ≤ x.n) ∧ Xz x key = fbI x (Qa x.ro).1.co key y.2.2.2 y.2.2.1.pl y.2.1 ∧ XL (Qa x.ro).1.co y.2.2.1.pl.es = true) (fun y=>y.2.2.2) ((none,0),[],x9,x.n + 1) ⟨by rw [hxp];exact hrf,by (try simp only []);rw [List.length_nil];omega,List.nodup_nil,fun i hi=>(List.not_mem_nil hi).elim,hF0,by (try simp only []);rw [hxp];exact hrk⟩ aSx (fun w h=>(h.own_nil 3 1).ent aEt) (fun ⟨⟨pa,pc⟩,P,gn,f⟩ hyy=>?_)
 dsimp only
 obtain ⟨hgn,hPf,hPd,hPr,hfb,hkk⟩:=hyy
 simp only [] at hgn hPf hPd hPr hfb hkk
 obtain ⟨f,rfl⟩:=QdO hPd hPr hPf
 have hes9 : gn.es.length ≤ 255:=hgn.sm.es
 have hcs9 : gn.cs.length ≤ 256:=hgn.sm.cs
 have hpel : gn.pl.es.length = gn.es.length:=rfl
 have hpcl : gn.pl.cs.length = gn.cs.length:=rfl
 refine QaN (p:=0 < gn.es.length → gn.ea = some ⟨ab gn.ea,ao gn.ea,none⟩) (fun w9 h h0=>Rw.some (HS.rw_own (l:=gn.es) ev2 h aPk rfl) h0) fun hsE=>?_
 refine QaN (p:=0 < gn.cs.length → gn.ca = some ⟨ab gn.ca,ao gn.ca,none⟩) (fun w9 h h0=>Rw.some (HS.rw_own (l:=gn.cs) iv1 h aPk rfl) h0) fun hsC=>?_
 refine aU7 ?_
 refine Qt (α:=Nat) [14,45,46,47,48,49,50,51,52,53,54,55,56,57,58,59,60,61,62,63,64] (fun k=>[(14,.int .i64 (k : Int))]) (fun _=>HS w [] [.blk b7 69 3 (LNd.vals gn),.ents 27 (gn).ea (gn).ec (gn).es,.kids (gn).ca (gn).cc (gn).cs,.own (.slice pa (P).length pc) 3 1 (P).length ((P).map fun i : Nat=>Value.int .i64 (i : Int)),.blk b1 23 3 [.string (bs x.ro),.string (bs x.al),.string (bs x.bm)],.blk b5 37 4 [.int .i64 (Qa x.ro).1.co,.int .i64 (Qa x.ro).1.mo,.int .i64 (Qa x.ro).1.rm,.slice (some ⟨g9,0,none⟩) 1 rc],.blk b3 27 2 [.string (bs []),.string (bs [])],.blk b2 27 2 [.string (bs []),.string (bs [])]]) (fun k=>k ≤ gn.es.length ∧ ∀ q,q < k → Xm (Qa x.ro).1.co (nth gn.es q).key key < 0) (fun k=>gn.es.length - k) 0 ⟨Nat.zero_le _,fun j h=>absurd h (Nat.not_lt_zero j)⟩ aSx (fun w h=>h.ent aEt) (fun k hx0=>?_)
 obtain ⟨hk1,hk3⟩:=hx0
 refine aU2 ?_
 refine Qa2 (α:=Bool) [45,46,47,48,49,50,51,52,53,54,55,56,57,58,59,60,61,62] (fun u=>[(62,.bool u)]) (fun _=>HS w [] [.blk b7 69 3 (LNd.vals gn),.ents 27 (gn).ea (gn).ec (gn).es,.kids (gn).ca (gn).cc (gn).cs,.own (.slice pa (P).length pc) 3 1 (P).length ((P).map fun i : Nat=>Value.int .i64 (i : Int)),.blk b1 23 3 [.string (bs x.ro),.string (bs x.al),.string (bs x.bm)],.blk b5 37 4 [.int .i64 (Qa x.ro).1.co,.int .i64 (Qa x.ro).1.mo,.int .i64 (Qa x.ro).1.rm,.slice (some ⟨g9,0,none⟩) 1 rc],.blk b3 27 2 [.string (bs []),.string (bs [])],.blk b2 27 2 [.string (bs []),.string (bs [])]]) (fun u=>u = true ↔ (k < gn.es.length ∧ Xm (Qa x.ro).1.co (nth gn.es k).key key < 0)) ?_ ?_
 ·skip
  refine QL [] QZ ?_
  refine dP 0 ?_
  refine dFa 1 ?_
  refine dLd 2 [] ?_
  refine dV 3 rfl (Xk rfl rfl Tryz.underlying67) ?_
  refine dP 4 ?_
  refine dP 5 ?_
  apply Yc 50
  ·exact rfl
  ·intro hg8
   have hs9:=hg8;try simp only [dT] at hs9
   refine dFo 6 50 hg8 ?_
   refine dQo 7 50 [] hg8 rfl rfl rfl (YA rfl rfl Za aPk rfl) ?_
   refine dFo 8 50 hg8 ?_
   refine dQo 9 50 [] hg8 rfl rfl rfl (YA rfl rfl Qij aPk rfl) ?_
   refine dPo 10 50 hg8 ?_
   refine dVo 11 50 hg8 rfl rfl rfl (Qc rfl rfl rfl Q7 (k) (by omega) (by omega) (hsE (by omega))) ?_
   refine dFo 12 50 hg8 ?_
   refine dQo 13 50 [] hg8 rfl rfl rfl (Xi rfl rfl Zw (fun w h=>(HS.rw_own (l:=gn.es) ev2 h aPk rfl).rdj 0 (i:=k) (by omega) rfl)) ?_
   refine dPo 14 50 hg8 ?_
   refine dQo 15 50 [] hg8 rfl rfl rfl (QE rfl Qc3 rfl (fun w1 h1=>c65c w1 (Qa x.ro).1.co (nth gn.es k).key key hco (Qbm hkk (show k < gn.pl.es.length by (show k < gn.es.length);omega)) hke (hgn.sm.ent _ (QC (by (show k < gn.es.length);omega))).1 hkl)) ?_
   refine dPo 16 50 hg8 ?_
   refine dV 17 rfl (X2 rfl rfl hg8 rfl) ?_
   refine dNi ?_
   exact QH (decide (Xm (Qa x.ro).1.co (nth gn.es k).key key < 0)) (by rw [decide_eq_true_eq];omega) aSx (fun w h=>h.ent aEt)
  intro hg10
  have hs11:=hg10;try simp only [dN] at hs11
  refine dOf 6 50 hg10 ?_
  refine dOf 7 50 hg10 ?_
  refine dOf 8 50 hg10 ?_
  refine dOf 9 50 hg10 ?_
  refine dOf 10 50 hg10 ?_
  refine dOf 11 50 hg10 ?_
  refine dOf 12 50 hg10 ?_
  refine dOf 13 50 hg10 ?_
  refine dOf 14 50 hg10 ?_
  refine dOf 15 50 hg10 ?_
  refine dOf 16 50 hg10 ?_
  refine dV 17 rfl (XM rfl rfl hg10 rfl) ?_
  refine dNi ?_
  exact QH false (by constructor <;> intro h9 <;> first | (cases h9;done) | omega) aSx (fun w h=>h.ent aEt)
 intro x9b hx
 refine sCd rfl (fun h12=>?_) fun h12=>?_
 ·obtain ⟨hk5,hk6⟩:=hx.1 (by assumption)
  refine aT5 ?_
  refine aU3 ?_
  exact sBk (k + 1) (by omega) ⟨by omega,fun q hq=>(Nat.lt_or_ge q k).elim (hk3 q) (fun h9=>by obtain rfl : q = k:=(by omega);exact hk6)⟩
 have hno : ¬ (k < gn.es.length ∧ Xm (Qa x.ro).1.co (nth gn.es k).key key < 0):=fun h9=>by have h8:=hx.2 h9;simp_all
 have hpk : plc (Qa x.ro).1.co gn.es key = k:=QnQ hk1 hk3 hno
 refine Qo rfl ?_
 refine aU2 ?_
 refine Qa2 (α:=Bool) [65,66,67,68,69,70,71,72,73,74,75,76,77,78,79,80,81,82] (fun u=>[(82,.bool u)]) (fun _=>HS w [] [.blk b7 69 3 (LNd.vals gn),.ents 27 (gn).ea (gn).ec (gn).es,.kids (gn).ca (gn).cc (gn).cs,.own (.slice pa (P).length pc) 3 1 (P).length ((P).map fun i : Nat=>Value.int .i64 (i : Int)),.blk b1 23 3 [.string (bs x.ro),.string (bs x.al),.string (bs x.bm)],.blk b5 37 4 [.int .i64 (Qa x.ro).1.co,.int .i64 (Qa x.ro).1.mo,.int .i64 (Qa x.ro).1.rm,.slice (some ⟨g9,0,none⟩) 1 rc],.blk b3 27 2 [.string (bs []),.string (bs [])],.blk b2 27 2 [.string (bs []),.string (bs [])]]) (fun u=>u = true ↔ fnd (Qa x.ro).1.co gn.pl.es key = true) ?_ ?_
 ·skip
  refine QL [] QZ ?_
  refine dP 0 ?_
  refine dFa 1 ?_
  refine dLd 2 [] ?_
  refine dV 3 rfl (Xk rfl rfl Tryz.underlying67) ?_
  refine dP 4 ?_
  refine dP 5 ?_
  apply Yc 70
  ·exact rfl
  ·intro hg13
   have hs14:=hg13;try simp only [dT] at hs14
   refine dFo 6 70 hg13 ?_
   refine dQo 7 70 [] hg13 rfl rfl rfl (YA rfl rfl Za aPk rfl) ?_
   refine dFo 8 70 hg13 ?_
   refine dQo 9 70 [] hg13 rfl rfl rfl (YA rfl rfl Qij aPk rfl) ?_
   refine dPo 10 70 hg13 ?_
   refine dVo 11 70 hg13 rfl rfl rfl (Qc rfl rfl rfl Q7 (k) (by omega) (by omega) (hsE (by omega))) ?_
   refine dFo 12 70 hg13 ?_
   refine dQo 13 70 [] hg13 rfl rfl rfl (Xi rfl rfl Zw (fun w h=>(HS.rw_own (l:=gn.es) ev2 h aPk rfl).rdj 0 (i:=k) (by omega) rfl)) ?_
   refine dPo 14 70 hg13 ?_
   refine dQo 15 70 [] hg13 rfl rfl rfl (QE rfl Qc3 rfl (fun w1 h1=>c65c w1 (Qa x.ro).1.co (nth gn.es k).key key hco (Qbm hkk (show k < gn.pl.es.length by (show k < gn.es.length);omega)) hke (hgn.sm.ent _ (QC (by (show k < gn.es.length);omega))).1 hkl)) ?_
   refine dPo 16 70 hg13 ?_
   refine dV 17 rfl (X2 rfl rfl hg13 rfl) ?_
   refine dNi ?_
   exact QH (decide (Xm (Qa x.ro).1.co (nth gn.es k).key key = 0)) (by show _ ↔ (decide (plc (Qa x.ro).1.co gn.es key < gn.es.length) && decide (Xm (Qa x.ro).1.co (nth gn.es (plc (Qa x.ro).1.co gn.es key)).key key = 0)) = true;rw [hpk,decide_eq_true (show k < gn.es.length by omega),Bool.true_and]) aSx (fun w h=>h.ent aEt)
  intro hg15
  have hs16:=hg15;try simp only [dN] at hs16
  refine dOf 6 70 hg15 ?_
  refine dOf 7 70 hg15 ?_
  refine dOf 8 70 hg15 ?_
  refine dOf 9 70 hg15 ?_
  refine dOf 10 70 hg15 ?_
  refine dOf 11 70 hg15 ?_
  refine dOf 12 70 hg15 ?_
  refine dOf 13 70 hg15 ?_
  refine dOf 14 70 hg15 ?_
  refine dOf 15 70 hg15 ?_
  refine dOf 16 70 hg15 ?_
  refine dV 17 rfl (XM rfl rfl hg15 rfl) ?_
  refine dNi ?_
  exact QH false (by constructor <;> intro h9 <;> first | (cases h9;done) | (have h8:=Qhl h9;simp only [LNd.pl] at h8;omega)) aSx (fun w h=>h.ent aEt)
 intro x9b hx
 refine sCd rfl (fun h17=>?_) fun h17=>?_
 ·have hfn : fnd (Qa x.ro).1.co gn.pl.es key = true:=hx.1 (by assumption)
  have hkl9:=Qhl hfn
  simp only [LNd.pl] at hkl9
  have hR : Xz x key = ((nth gn.es k,P),0):=by rw [hfb,← hpk];exact Qod hkk hfn
  refine aU5 ?_
  refine o_p (Qc rfl rfl rfl Q7 (k) (by omega) (by omega) (hsE (by omega))) rfl ?_
  refine o_q (QeY _ rfl rfl YF rfl (fun w h=>Rw.rd (HS.rw_own (l:=gn.es) ev2 h aPk rfl) (i:=k) (by omega))) rfl ?_
  refine aU5 ?_
  exact Qi (rs:=[.cell 4 27,.tmp 5,.tmp 6]) rfl (.cell rfl YF aPk rfl (.tmp rfl (.tmp rfl (.nil)))) (fun w' h'=>⟨(pa,pc),by rw [hR];rfl,trivial,by rw [hR];exact h'.ent aEt⟩)
 have hnf : ¬ fnd (Qa x.ro).1.co gn.pl.es key = true:=fun h9=>by have h8:=hx.2 h9;simp_all
 refine aU9 ?_
 refine sCd rfl (fun h18=>?_) fun h18=>?_
 ·have hR : Xz x key = ((XY,[]),6):=by rw [hfb];exact QkI hkk hnf (by have hq:=h18;(show gn.cs.length = 0);omega)
  refine aU7 ?_
  exact Qi (rs:=[.cell 4 27,.tmp 5,.tmp 6]) rfl (.cell rfl YF aPk rfl (.tmp rfl (.tmp rfl (.nil)))) (fun w' h'=>⟨(none,0),by rw [hR];rfl,trivial,by rw [hR];exact (h'.nil.own_nil 3 1).ent aEt⟩)
 have hncs : ¬ gn.pl.cs.length = 0:=by have hq:=h18;(show ¬ gn.cs.length = 0);omega
 obtain ⟨hkd1,hkd2,hkd3,hkd4⟩:=hgn.kid hncs (Qa x.ro).1.co key
 have hkd1 : plc (Qa x.ro).1.co gn.es key < gn.cs.length:=hkd1
 have hkd2 : (((QK (Qa x.ro).1.co gn.pl key) : Nat) : Int) = gn.cs.getD (plc (Qa x.ro).1.co gn.es key) 0:=hkd2
 refine aU6 ?_
 refine o_p (Qc rfl rfl rfl QN (plc (Qa x.ro).1.co gn.es key) (by omega) (by omega) (hsC (by omega))) rfl ?_
 refine o_q (Xi rfl rfl Za (fun w h=>(HS.rw_own (l:=gn.cs) iv1 h aPk rfl).rdj 0 (i:=plc (Qa x.ro).1.co gn.es key) (by omega) rfl)) rfl ?_
 refine aU ?_
 refine Qk (show _ = Value.int .i64 (((QK (Qa x.ro).1.co gn.pl key) : Nat) : Int) from by rw [hkd2];rfl) ?_
 refine aU6 ?_
 refine oCq rfl (fun w1 h1=>c66 w1 x (by omega)) ?_
 refine aU2 ?_
 refine oOr 5 103 108 rfl
  (fun hg19 _=>by
   refine aU5 ?_
   refine oCq rfl (fun w1 h1=>c67 w1 x (QK (Qa x.ro).1.co gn.pl key) (by omega) (by omega)) ?_
   refine aU2 ?_
   exact oJf 5 108)
  (fun hg21 _=>by
   refine aU4 ?_
   exact oJt 5 108) ?_
 refine aU ?_
 refine sCd rfl (fun h23=>?_) fun h23=>?_
 ·have hR : Xz x key = ((XY,[]),6):=by rw [hfb];exact QsS hkk hnf hncs (fun h9=>by have hq:=h23;obtain ⟨h1,h2,h3⟩:=Qky h9;have h4:=QqW h9;rcases hq with hq | hq;omega;rw [h4] at hq;cases hq)
  refine aU7 ?_
  exact Qi (rs:=[.cell 4 27,.tmp 5,.tmp 6]) rfl (.cell rfl YF aPk rfl (.tmp rfl (.tmp rfl (.nil)))) (fun w' h'=>⟨(none,0),by rw [hR];rfl,trivial,by rw [hR];exact (h'.nil.own_nil 3 1).ent aEt⟩)
 have hnm9 : YC x (QK (Qa x.ro).1.co gn.pl key) = true:=by have hq:=h23;exact Qs1 (by omega) (by omega) (by grind)
 obtain ⟨hb1,hb2,hb3⟩:=Qky hnm9
 have hbl9 : 1 ≤ (QK (Qa x.ro).1.co gn.pl key) ∧ (QK (Qa x.ro).1.co gn.pl key) * 512 ≤ x.al.length:=⟨hb1,hb3⟩
 have hb5:=QhD hbl9
 refine aU6 ?_
 refine oCq rfl (fun w1 h1=>c68 w1 pa pc P (QK (Qa x.ro).1.co gn.pl key) (HS.pown_row (P:=P) h1 aPk) (by omega)) ?_
 refine aU ?_
 refine sCd rfl (fun h24=>?_) fun h24=>?_
 ·have hR : Xz x key = ((XY,[]),25):=by rw [hfb];exact Qru hkk hnf hncs hnm9 h24
  refine aU7 ?_
  exact Qi (rs:=[.cell 4 27,.tmp 5,.tmp 6]) rfl (.cell rfl YF aPk rfl (.tmp rfl (.tmp rfl (.nil)))) (fun w' h'=>⟨(none,0),by rw [hR];rfl,trivial,by rw [hR];exact (h'.nil.own_nil 3 1).ent aEt⟩)
 have hin9 : ¬ (QK (Qa x.ro).1.co gn.pl key) ∈ P:=h24
 refine aU5 ?_
 refine oCq rfl (fun w1 h1=>c69 w1 x (QK (Qa x.ro).1.co gn.pl key) (by omega) hbl9) ?_
 refine aU ?_
 refine oCh rfl (fun w1 h1=>c39 w1 (x.blk (QK (Qa x.ro).1.co gn.pl key)) (((QK (Qa x.ro).1.co gn.pl key) : Nat) : Int) (by omega)) (fun g2 hg2=>?_)
 refine aU5 ?_
 refine oAl (fun b25 _=>?_) XS
 refine aU7 ?_
 refine Qj (L':=[(1,_),(2,_),(4,_),(7,_),(9,_),(12,_),(13,_),(14,_),(15,_),(16,_),(19,_)]) aSx (fun _ h=>h) ?_
 refine aU4 ?_
 refine sCd rfl (fun h26=>?_) fun h26=>?_
 ·have hR : Xz x key = ((XY,[]),(Xv (x.blk (QK (Qa x.ro).1.co gn.pl key)) (QK (Qa x.ro).1.co gn.pl key)).e):=by rw [hfb];exact Qob hkk hnf hncs hnm9 hin9 h26
  refine aU8 ?_
  exact Qi (rs:=[.cell 4 27,.tmp 5,.tmp 6]) rfl (.cell rfl YF aPk rfl (.tmp rfl (.tmp rfl (.nil)))) (fun w' h'=>⟨(none,0),by rw [hR];rfl,trivial,by rw [hR];exact (h'.nil.own_nil 3 1).ent aEt⟩)
 have he9 : (Xv (x.blk (QK (Qa x.ro).1.co gn.pl key)) (QK (Qa x.ro).1.co gn.pl key)).e = 0:=h26
 have hfn9:=Qlt (f:=f) hkk hnf hncs hnm9 hin9 he9
 rw [← hfb] at hfn9
 have hg3 : NdF g2.pl:=by rw [hg2];exact NdF.of he9
 refine aU7 ?_
 refine oCq rfl (fun w1 h1=>c70c w1 (Qa x.ro).1.co g2 hco (h1.rw_own ev2 aPk rfl) (by have:=hg3.sm.es;(show g2.pl.es.length ≤ 100000);omega) (fun y hy=>(hg3.sm.ent y hy).1)) ?_
 refine aU2 ?_
 refine sCd rfl (fun h27=>?_) fun h27=>?_
 ·have hkn : XL (Qa x.ro).1.co g2.pl.es = false:=by have hq:=h27;(show XL (Qa x.ro).1.co g2.es = false);simpa using hq
  have hPl9 : (P ++ [(QK (Qa x.ro).1.co gn.pl key)]).length + f = x.n + 1:=by rw [List.length_append,List.length_singleton];omega
  obtain ⟨f9,hf9⟩:=QdO (Qcw hPd hin9) (fun i hi=>by rcases List.mem_append.1 hi with h9 | h9;exact hPr i h9;obtain rfl:=List.mem_singleton.1 h9;exact ⟨hb1,hb2⟩) hPl9
  have hR : Xz x key = ((XY,[]),3):=by rw [hfn9,← hg2,hf9];exact Qpa hkn
  refine aU7 ?_
  exact Qi (rs:=[.cell 4 27,.tmp 5,.tmp 6]) rfl (.cell rfl YF aPk rfl (.tmp rfl (.tmp rfl (.nil)))) (fun w' h'=>⟨(none,0),by rw [hR];rfl,trivial,by rw [hR];exact (h'.nil.own_nil 3 1).ent aEt⟩)
 have hkk2 : XL (Qa x.ro).1.co g2.pl.es = true:=by have hq:=h27;(show XL (Qa x.ro).1.co g2.es = true);simpa using hq
 refine aU ?_
 refine QeJ [.blk b25 69 3 [.bool g2.us,.slice g2.ea g2.es.length g2.ec,.slice g2.ca g2.cs.length g2.cc]] [5] QZ ?_
 refine dLn 0 [[]] ?_
 refine dP 1 ?_
 refine dP 2 ?_
 refine dH 3 rfl (Ql (cs:=[_]) rfl rfl QN Qbp rfl rfl rfl) (fun b28 _=>?_)
 refine dH 4 rfl (Xx [_] rfl rfl rfl QN Tryz.underlying28 Qbp rfl aPk (Xe aPk) rfl (by intro u hu;simp only [List.mem_cons,List.mem_nil_iff,or_false] at hu;subst hu;rfl) (by omega) (by simp only [maxLen];omega)) (fun b29 _=>?_)
 refine Qqz 5 rfl (Z6 rfl rfl rfl Yd rfl aPt (by show 0 + 3 ≤ 3;omega) rfl) (by kernel_rfl) (fun w h=>h.ent aEt) (fun _ _=>?_)
 refine dTu [] ?_
 refine dP 6 ?_
 refine dNi ?_
 refine aU ?_
 exact QW ((b29.1,b29.2),P ++ [(QK (Qa x.ro).1.co gn.pl key)],g2,f) (by (try simp only []);omega) ⟨hg3,by (try simp only []);rw [List.length_append,List.length_singleton];omega,Qcw hPd hin9,fun i hi=>by rcases List.mem_append.1 hi with h9 | h9;exact hPr i h9;obtain rfl:=List.mem_singleton.1 h9;exact ⟨hb1,hb2⟩,by (try simp only []);rw [hg2];exact hfn9,hkk2⟩ (by simp only [List.length_append (bs:=[(QK (Qa x.ro).1.co gn.pl key)]),List.length_singleton];exact aSx) (fun w h=>by have h2:=h;simp only [List.length_append (bs:=[(QK (Qa x.ro).1.co gn.pl key)]),List.length_singleton,List.map_append (l₂:=[(QK (Qa x.ro).1.co gn.pl key)]),List.map_cons,List.map_nil];exact h2.ent aEt)
instance : TFn Tryz.prog 13:=⟨by kernel_rfl⟩
instance : TFn Tryz.prog 14:=⟨by kernel_rfl⟩
instance : TFn Tryz.prog 18:=⟨by kernel_rfl⟩
theorem QuF {P Q : List Nat} : iN P = iN Q ↔ P = Q:=by
  constructor
  · intro h;apply List.ext_getElem?;intro j;have h1:=congrArg (fun l : List Int=>(l[j]?).map Int.toNat) h
    simpa [iN,Function.comp_def] using h1
  · exact fun h=>by rw [h]
theorem c15P (w : World) (a b : Option Addr) (c d : Nat) (P Q : List Nat) (hs : Rw inV 1 w [] a (iN P)) (ht : Rw inV 1 w [] b (iN Q)) (hl : P.length ≤ 100000) (hm : Q.length ≤ 100000) : Calls Tryz.prog 15 #[.slice a P.length c,.slice b Q.length d] w fun en w'=>en = .returned (.bool (decide (P = Q))) ∧ Below w.heap.size w w':=by
  have h:=c15 w a b c d (iN P) (iN Q) hs ht (by rw [Qa4];exact hl) (by rw [Qa4];exact hm);rw [Qa4,Qa4,show decide (iN P = iN Q) = decide (P = Q) from decide_eq_decide.2 QuF] at h;exact h
theorem c15T (w : World) (a b : Option Addr) (c d : Nat) (P Q : List Nat) (hs : Rw inV 1 w [] a (iN P)) (ht : Rw inV 1 w [] b (iN Q)) (hl : P.length ≤ 100000) (hm : Q.length ≤ 100000) (hd : Q.length ≤ d) : Calls Tryz.prog 15 #[.slice a P.length c,.slice (XC b d 1 1) (Q.length - 1) (d - 1)] w fun en w'=>en = .returned (.bool (decide (P = Q.tail))) ∧ Below w.heap.size w w':=by
  have h9 : Rw inV 1 w [] (XC b d 1 1) (iN Q.tail):=by
    have h8:=Rw.cut (cap:=d) (i:=1) ht (by rw [Qa4];exact hd)
    rwa [show (iN Q).drop 1 = iN Q.tail from by rw [iN,← List.map_drop,List.drop_one]] at h8
  have h:=c15P w a (XC b d 1 1) c (d - 1) P Q.tail hs h9 hl (by rw [List.length_tail];omega)
  rwa [List.length_tail] at h
theorem fin3 {i d e : Bool} (h1 : d = i) (h2 : i = true → e = true) : ((i == d) && (!i || e)) = true:=by
  subst h1;cases d <;> simp_all
theorem c18c (w : World) (co : Int) (mo rm : Int) (a : Option Addr) (cap : Nat) (L : List LNd) (ns : List Nd) (key : List UInt8) (hL : pln L = ns) (hco : Qp co = 0) (h0 : 0 < L.length) (hB : Bd ns) (hT : TOk co ns) (hs : Nt w [] a L) (hk : QB co key = true) (hkl : key.length ≤ 1000000) : Calls Tryz.prog 18 #[.agg #[.int .i64 co,.int .i64 mo,.int .i64 rm,.slice a L.length cap],.string (bs key)] w fun en w'=>∃ g : Option Addr × Nat,en = .returned (.tuple #[.slice g.1 (Qv co ns key).1.length g.2,.bool (Qv co ns key).2.2]) ∧ True ∧ HS w [] [.own (.slice g.1 ((Qv co ns key).1).length g.2) 3 1 ((Qv co ns key).1).length (((Qv co ns key).1).map fun i : Nat=>Value.int .i64 (i : Int))] w':=by
  subst hL;obtain ⟨j,rfl,hj⟩:=QcI hco;exact c18 w j mo rm a cap L key hj h0 hB hT hs hk hkl
set_option maxHeartbeats 4000000 in
theorem c3a (w : World) (x : Ixs) (key : List UInt8) (hfx : QmJ x = true) (hk44 : key.length ≤ 44) : Calls Tryz.prog 3 #[.agg #[.string (bs x.ro),.string (bs x.al),.string (bs x.bm)],.string (bs key)] w fun en w'=>en = .returned (.bool true) ∧ Below w.heap.size w w':=by
 obtain ⟨hx1,hx2,hx3⟩:=Qrg hfx
 have hkl : key.length ≤ 1000000:=by omega
 have hn8 : x.n = x.al.length / 512:=rfl
 have hfl : (Xz x key).1.2.length ≤ 100000:=Nat.le_trans (Qrd x key) (by omega)
 refine eN2 Tryz.func3 Tryz.ntmps3 ?_
 refine aU2 ?_
 refine oBx fun b1 _=>?_
 refine aU5 ?_
 refine oCq rfl (fun w1 h1=>c11 w1) ?_
 refine aU2 ?_
 refine sCd rfl (fun h2=>?_) fun h2=>?_
 ·exfalso;simp at h2
 refine aU5 ?_
 refine oCq rfl (fun w1 h1=>c12 w1 x) ?_
 refine aU2 ?_
 refine oOr 4 21 25 rfl
  (fun hg3 _=>by
   refine aU3 ?_
   refine o_p (Qf rfl rfl Tryz.underlying9) rfl ?_
   refine aU2 ?_
   exact oJf 4 25)
  (fun hg5 _=>by
   refine aU3 ?_
   exact oJt 4 25) ?_
 refine aU ?_
 refine sCd rfl (fun h7=>?_) fun h7=>?_
 ·exfalso;have hq:=h7;simp [hfx] at hq;omega
 refine aU5 ?_
 refine oCh rfl (fun w1 h1=>c13 w1 x key (by omega) (by omega) (by omega) hkl) (fun ⟨fa,fc⟩ _=>?_)
 refine aU4 ?_
 refine oAl (fun b8 _=>?_) Yb
 refine aU8 ?_
 refine oCh rfl (fun w1 h1=>c14 w1 x key (by omega) (by omega) (by omega) hkl) (fun ⟨ga,gc⟩ _=>?_)
 refine aU4 ?_
 refine oAl (fun b9 _=>?_) Yb
 refine aU6 ?_
 refine Qj (L':=[(1,_),(2,_),(4,_),(5,_),(6,_),(7,_),(8,_),(9,_),(10,_)]) aSx (fun _ h=>h) ?_
 refine aU5 ?_
 refine oOr 4 43 47 rfl
  (fun hg10 _=>by
   refine aU5 ?_
   refine o_p (Qgt rfl rfl rfl Quo (by rfl) (by rfl) (by rfl)) rfl ?_
   exact oJf 4 47)
  (fun hg12 _=>by
   refine aU3 ?_
   exact oJt 4 47) ?_
 refine aU ?_
 refine oOr 5 48 53 rfl
  (fun hg14 _=>by
   refine aU5 ?_
   refine oCq rfl (fun w1 h1=>c15P w1 fa ga fc gc (Xz x key).1.2 (Xz x key).1.2 (HS.pown_row (P:=(Xz x key).1.2) h1 aPk) (HS.pown_row (P:=(Xz x key).1.2) h1 aPk) hfl hfl) ?_
   refine aU2 ?_
   exact oJf 5 53)
  (fun hg16 _=>by
   refine aU4 ?_
   exact oJt 5 53) ?_
 refine aU ?_
 refine sCd rfl (fun h18=>?_) fun h18=>?_
 ·exfalso;have hq:=h18;simp at hq
 refine aU4 ?_
 refine oCh rfl (fun w1 h1=>c16 w1 x (by omega) (by omega) (by omega)) (fun ⟨⟨ra,rc⟩,RL⟩ hRL=>?_)
 refine aU4 ?_
 refine oAl (fun b19 _=>?_) YD
 refine Qaj ?_
 refine sCd rfl (fun h20=>?_) fun h20=>?_
 ·refine aU4 ?_
  exact rT rfl rfl (fun w' h'=>⟨by rfl,h'.below⟩)
 have hr0 : (rdI x).2 = 0:=h20
 obtain ⟨h0,ht,he,hr1,hbb⟩:=QiI hr0
 obtain ⟨hA,hB,hC,_⟩:=QfS h0
 have hTk : TOk (rdI x).1.1.co (rdI x).1.1.ns:=by rw [ht];exact Qls he
 have hBd : Bd (rdI x).1.1.ns:=by rw [ht];exact QiJ hC (by omega)
 have hco : Qp (rdI x).1.1.co = 0:=by rw [ht];exact (Qns he).1
 have hnl : (rdI x).1.1.ns.length = x.n + 1:=by rw [ht];exact Zb hr1 _
 have hl0 : 0 < RL.length:=by rw [← Qr,hRL];omega
 refine aU7 ?_
 refine oCq rfl (fun w1 h1=>c17c w1 (rdI x).1.1.co key hco hkl) ?_
 refine aU2 ?_
 refine sCd rfl (fun h21=>?_) fun h21=>?_
 ·refine aU ?_
  refine Qj (L':=[(1,_),(4,_),(6,_),(7,_),(11,_)]) aSx (fun _ h=>h) ?_
  refine aU3 ?_
  exact rT rfl rfl (fun w' h'=>⟨by rfl,h'.below⟩)
 have hkk : QB (rdI x).1.1.co key = true:=by have hq:=h21;unfold Xq at hq;grind
 obtain ⟨hp0,hp00,_⟩:=Qpf hTk (by omega) key
 obtain ⟨hp1,hp2⟩:=Qpc hr0 hkk
 refine aU2 ?_
 refine Qj (L':=[(1,_),(4,_),(6,_),(7,_),(11,_)]) aSx (fun _ h=>h) ?_
 refine aU3 ?_
 refine oCh rfl (fun w1 h1=>c18c w1 (rdI x).1.1.co (rdI x).1.1.mo (rdI x).1.1.rm ra rc RL (rdI x).1.1.ns key hRL hco hl0 hBd hTk (HS.nt h1 aPk) hkk hkl) (fun ⟨pa,pc⟩ _=>?_)
 refine aU2 ?_
 refine QkC (fun w9 h=>HS.own_facts (a:=pa) (n':=(Qv (rdI x).1.1.co (rdI x).1.1.ns key).1.length) aPk h) fun hpf=>?_
 have hpc:=hpf.2.1
 refine aU9 ?_
 refine o_p (QfJ rfl rfl rfl Tryz.underlying4) rfl ?_
 refine aU ?_
 refine YS 9 77 86 rfl
  (fun hg22 _=>by
   refine aU6 ?_
   refine oOr 5 80 85 rfl
    (fun hg24 _=>by
     refine aU5 ?_
     refine o_p (Qs _ _ 1 (Qv (rdI x).1.1.co (rdI x).1.1.ns key).1.length rfl rfl QN ⟨_,_,rfl,rfl⟩ rfl (by omega) (by omega)) rfl ?_
     refine aU ?_
     refine oCq rfl (fun w1 h1=>c15T w1 fa pa fc pc (Xz x key).1.2 (Qv (rdI x).1.1.co (rdI x).1.1.ns key).1 (HS.pown_row (P:=(Xz x key).1.2) h1 aPk) (HS.pown_row (P:=(Qv (rdI x).1.1.co (rdI x).1.1.ns key).1) h1 aPk) hfl (by omega) hpc) ?_
     refine aU ?_
     exact oJf 5 85)
    (fun hg26 _=>by
     refine aU5 ?_
     exact oJt 5 85) ?_
   exact oJt 5 86)
  (fun hg28 _=>by
   refine aU8 ?_
   exact oJf 9 86) ?_
 refine aU2 ?_
 exact rT rfl rfl (fun w' h'=>⟨by simp only [Xj];rw [fin3 (Bool.eq_iff_iff.2 (by rw [decide_eq_true_eq];exact hp1)) (fun h9=>decide_eq_true (hp2 h9))],h'.below⟩)
theorem c3z (w : World) (x : Ixs) (key : List UInt8) (hz : ¬ (QmJ x = true ∧ key.length ≤ 44)) : Calls Tryz.prog 3 #[.agg #[.string (bs x.ro),.string (bs x.al),.string (bs x.bm)],.string (bs key)] w fun en w'=>en = .returned (.bool true) ∧ Below w.heap.size w w':=by
 refine eN2 Tryz.func3 Tryz.ntmps3 ?_
 refine aU2 ?_
 refine oBx fun b1 _=>?_
 refine aU5 ?_
 refine oCq rfl (fun w1 h1=>c11 w1) ?_
 refine aU2 ?_
 refine sCd rfl (fun h2=>?_) fun h2=>?_
 ·exfalso;simp at h2
 refine aU5 ?_
 refine oCq rfl (fun w1 h1=>c12 w1 x) ?_
 refine aU2 ?_
 refine oOr 4 21 25 rfl
  (fun hg3 _=>by
   refine aU3 ?_
   refine o_p (Qf rfl rfl Tryz.underlying9) rfl ?_
   refine aU2 ?_
   exact oJf 4 25)
  (fun hg5 _=>by
   refine aU3 ?_
   exact oJt 4 25) ?_
 refine aU ?_
 refine sCd rfl (fun h7=>?_) fun h7=>?_
 ·refine aU4 ?_
  exact rT rfl rfl (fun w' h'=>⟨by rfl,h'.below⟩)
 exfalso;have hq:=h7;exact hz ⟨hq.1,by have:=hq.2;omega⟩
theorem c3 (w : World) (x : Ixs) (key : List UInt8) : Calls Tryz.prog 3 #[.agg #[.string (bs x.ro),.string (bs x.al),.string (bs x.bm)],.string (bs key)] w fun en w'=>en = .returned (.bool true) ∧ Below w.heap.size w w':=by
  by_cases hz : (QmJ x = true ∧ key.length ≤ 44)
  · exact c3a w x key hz.1 hz.2
  · exact c3z w x key hz
end Go.Proofs
