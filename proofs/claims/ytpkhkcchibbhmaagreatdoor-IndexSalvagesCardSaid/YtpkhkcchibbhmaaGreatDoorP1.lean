/- Contracts of the program's functions, proved by walking them with the rules of the Gx texts; without conditions beyond those that each contract names. -/
import Derived.WalkKit
import Derived.Deep.Draws
import Derived.TacticsIn
import Derived.OrdersIn
import Derived.RangeFuncLeaves
import Derived.Lib.Strings
import Derived.Laws.BytesArg
import Derived.Laws.IdiomStrings
import Derived.Deep.Quiet
import Derived.ProofKit
import Derived.OpenShut
import Derived.Laws.StructEq
import Derived.ChangeKeysEq
import Derived.Laws.Externs
import Derived.Lib.Overlaps
import Derived.Carry
import Derived.Laws.Small
import Derived.Lib.Bytealg
import Derived.Lib.Builder
import Derived.Laws.Pointers
import Derived.RangeFuncRecord
import Derived.Test.YtpkhkcchibbhmaaGreatDoorProg
import Derived.KernelRfl
import Derived.SizedLaws
import Derived.ChangeSame
import Derived.Handed
import Derived.Test.YtpkhkcchibbhmaaGreatDoorTie
import Derived.Test.YtpkhkcchibbhmaaGreatDoorCards
import Derived.SevenTiedAt
import Derived.LaidMore
import Derived.Lay
import Derived.Stop.Joined
import Derived.Test.YtpkhkcchibbhmaaGreatDoorP0
set_option linter.unusedSimpArgs false
set_option maxHeartbeats 1000000
set_option linter.unusedVariables false
set_option linter.unusedSectionVars false
set_option linter.unnecessarySimpa false
namespace Gx
open Go Go.RowKit
section
variable {S : Type} (st : S → Vis → S) (er : S → Vis → Int × Int)
def QrE : S → List Vis → (Int × Int) × S
 | s,[]=>((0,0),s)
 | s,v :: vs=>if (er s v).2 = 0 then QrE (st s v) vs else (er s v,st s v)
end
def kidV (ns : List Nd) (v : Vis) (k : Nat) : Vis:=⟨((nth ns v.i).cs.getD k 0).toNat,v.d + 1,loK (nth ns v.i).es k v.lo,hiK (nth ns v.i).es k v.hi⟩
def visK (ns : List Nd) (f : Nat) (v : Vis) (k : Nat) : List Vis:=v :: (List.range k).flatMap fun k=>vis ns f (kidV ns v k)
def QtB (co : Int) (ns : List Nd) (key : List UInt8) : Nat → Nat → List Nat × Nat × Bool
 | 0,_=>([],0,false)
 | f + 1,i=>if fnd co (nth ns i).es key = true ∨ (nth ns i).cs.length = 0 then ([i],plc co (nth ns i).es key,fnd co (nth ns i).es key)
   else (i :: (QtB co ns key f ((nth ns i).cs.getD (plc co (nth ns i).es key) 0).toNat).1,(QtB co ns key f ((nth ns i).cs.getD (plc co (nth ns i).es key) 0).toNat).2)
def QY (co : Int) (ns : List Nd) (key : List UInt8) : List Nat × Nat × Bool:=QtB co ns key ns.length 0
structure Bd (ns : List Nd) : Prop where
 len : ns.length ≤ 1000
 es : ∀ i,i < ns.length → (nth ns i).es.length ≤ 1000
 cs : ∀ i,i < ns.length → (nth ns i).cs.length ≤ 1000
def QqL (w : World) (M : List Nat) (p : Option Addr) (o : Option (List UInt8)) : Prop:=match o with
 | none=>p = none
 | some k=>∃ b off,p = some ⟨b,off,none⟩ ∧ Rd w M b off (.string (bs k))
theorem Qiz {As Cs Ds : List HA} (h : Qa5 As Cs Ds) : ∀ b ∈ fps Cs,b ∈ fps As:=fun b hb=>by
 obtain ⟨A,hA,hb⟩:=List.mem_flatMap.1 hb;exact List.mem_flatMap.2 ⟨A,(List.Perm.mem_iff h).2 (List.mem_append_left _ hA),hb⟩
theorem HS.rd_blkF {w0 w : World} {M : List Nat} {As Cs Ds Es : List HA} {b i t tot : Nat} {cs : List Value} {v : Value} (h : HS w0 M As w) (hp : Qa5 As Cs Ds) (hp2 : QD Ds (.blk b t tot cs) Es) (hv : cs[i]? = some v) : Rd w (fps Cs) b i v:=by
 have h1 : HS w0 M (Cs ++ Ds) w:=h.perm hp;refine ⟨(h1.ok _ (List.mem_append_right _ hp2.mem) |> QO.lt),fun hb=>?_,QO.cell (h1.ok _ (List.mem_append_right _ hp2.mem)) hv⟩;obtain ⟨A,hA,hb⟩:=List.mem_flatMap.1 hb;exact (List.pairwise_append.1 h1.sep).2.2 A hA _ hp2.mem b hb (List.mem_singleton.2 rfl)
section
variable (t : Tre) (i : Nat)
def nE1 : Int:=if ((nth t.ns i).es.length : Int) ≤ Qsw t.mo t.rm i then if (nth t.ns i).cs.length = 0 ∨ (nth t.ns i).cs.length = (nth t.ns i).es.length + 1 then 0 else 10 else 16
def nE2 : Int:=if nE1 t i = 0 then QnQ t.co (nth t.ns i).es else nE1 t i
def nE3 (seen : List Int) : Int × List Int:=if nE2 t i = 0 then QiR t.ns (nth t.ns i).cs seen else (nE2 t i,seen)
def nE4 (seen : List Int) : Int:=if (nE3 t i seen).1 = 0 then Qsp t.co (nth t.ns i).es else (nE3 t i seen).1
end
def Qo6 (ns : List Nd) (c : Int) : Prop:=(1 ≤ c ∧ c ≤ (ns.length : Int) - 1) ∧ (nth ns c.toNat).us = true
instance (ns : List Nd) (c : Int) : Decidable (Qo6 ns c):=inferInstanceAs (Decidable (_ ∧ _))
def kidE1 (ns : List Nd) (c : Int) (seen : List Int) : Int:=if Qo6 ns c then if c ∈ seen then 23 else 0 else 6
def kidS1 (ns : List Nd) (c : Int) (seen : List Int) : List Int:=if Qo6 ns c then c :: seen else seen
def Qdf (cs : List Int) (n : Int) : List Bool:=cs.map fun c=>decide (n = c)
theorem Qbn (cs : List Int) (n : Int) : (Qdf cs n).length = cs.length:=by simp [Qdf]
theorem Qif {cs : List Int} {n : Int} {k : Nat} (h : k < cs.length) : (Qdf cs n).getD k false = decide (n = cs.getD k 0):=by grind [Qdf,QeE]
theorem Qpn (cs : List Int) (n : Int) : (Qdf cs n).any id = decide (n ∈ cs):=by
 unfold Qdf;rw [List.any_map]
 grind
def gapB (t : Tre) (v : Vis) : Bool:=decide (0 < v.i) && (decide (((nth t.ns v.i).es.length : Int) < t.mo / 2) || ((decide ((nth t.ns 0).es.length = 0) && decide ((v.i : Int) ∈ (nth t.ns 0).cs)) && decide (((nth t.ns v.i).es.length : Int) ≤ t.rm)))
def outB (t : Tre) (v : Vis) (x : TEnt) : Bool:=(v.lo.any fun b=>decide (0 ≤ Xo t.co b x.key)) || (v.hi.any fun b=>decide (0 ≤ Xo t.co x.key b))
def QsB (t : Tre) (v : Vis) : Bool:=(nth t.ns v.i).es.any (outB t v)
def erV (t : Tre) (s : Int) (v : Vis) : Int × Int:=((v.i : Int),if gapB t v = true then 14 else if QsB t v = true then 9 else if (nth t.ns v.i).cs.length = 0 then (if (if s = 0 then v.d else s) = v.d then 0 else 22) else 0)
def stV (t : Tre) (s : Int) (v : Vis) : Int:=if gapB t v = true then s else if QsB t v = true then s else if (nth t.ns v.i).cs.length = 0 then (if s = 0 then v.d else s) else s
def marV (s : List Bool) (v : Vis) : List Bool:=s.set v.i true
def KOk (co : Int) (o : Option (List UInt8)) : Prop:=∀ k,o = some k → Qz co k = true ∧ k.length ≤ 1000000
def shapE (t : Tre) : Int × Int:=match QuU t.ns ((QrP t.ns).map Vis.i) t.ns.length 0 with
 | some i=>((i : Int),21)
 | none=>QnK t (Qnu t.ns t.ns.length 0) (QrP t.ns)
def lenE12 (n : Nat) : Int:=if 0 < n then if n ≤ 120 then 0 else 8 else 10
end Gx
namespace Gx
open Go Go.RowKit
section
variable {P : Program} {o : Oper} {L : Qb} {w0 : World} {M : List Nat} {As As' : List HA}
def Qrz (P : Program) (t te : TypeId) : Prop:=P.underlying t = some (.pointer te) ∧ ∃ j,P.info? te = some j ∧ j.size ≠ 0
theorem QqI {t te : TypeId} {n : Nat} {b : Bool} (h : P.underlying t = some (.pointer te)) (h2 : tsz P te = some (n,b)) (hn : n ≠ 0) : Qrz P t te:=by
 refine ⟨h,?_⟩
 grind [tsz,hi]
theorem ptee {t te : TypeId} (h : P.underlying t = some (.pointer te)) : P.underlying t = some (.pointer (P.pointee t)):=by
 rw [h];simp [Program.pointee,h]
theorem Qgz {t t' te : TypeId} {x y : Operand} {p : Option Addr} (ho : o.op = .binOp .eql t x y t') (hx : ev L x = some (.pointer p)) (hy : ev L y = some (.pointer none)) (ht : Qrz P t te) : OpP P o L (.bool p.isNone):=by
 intro ρ w hρ;have hg : (eqGuard .eql t x y (.pointer p) (.pointer none)).run P w = .ok () w:=by unfold eqGuard;simp
 simp only [execOp,ho,hρ _ _ hx,hρ _ _ hy,Sem.run_bind,hg,run_eql_pointer_nil w t p (ptee ht.1),Result.andThen_ok,Sem.run_pure]
theorem Qjh {t t' te : TypeId} {x y : Operand} {p : Option Addr} (ho : o.op = .binOp .neq t x y t') (hx : ev L x = some (.pointer p)) (hy : ev L y = some (.pointer none)) (ht : Qrz P t te) : OpP P o L (.bool p.isSome):=by
 intro ρ w hρ;have hg : (eqGuard .neq t x y (.pointer p) (.pointer none)).run P w = .ok () w:=by unfold eqGuard;simp
 have h:=run_neq_pointer_nil w t p (ptee ht.1);simp only [execOp,ho,hρ _ _ hx,hρ _ _ hy,Sem.run_bind,hg,h,Result.andThen_ok,Sem.run_pure];cases p <;> rfl
end
end Gx
namespace Gx
open Go Go.RowKit
section
variable {P : Program} {o : Oper} {L : Qb} {w0 : World} {M : List Nat} {As As' : List HA}
end
theorem Rw.cut {α : Type} [Inhabited α] {vals : α → List Value} {sz : Nat} {w : World} {M : List Nat} {a : Option Addr} {l : List α} (h : Rw vals sz w M a l) {cap i : Nat} (hc : l.length ≤ cap) : Rw vals sz w M (Xy a cap i sz) (l.drop i):=
 ⟨fun hn=>by
  rw [List.length_drop] at hn;obtain ⟨b,o,rfl,h2⟩:=h.at_ (by omega);refine ⟨b,o + i * sz,?_,fun j hj=>?_⟩
  ·unfold Xy;rw [if_neg (by omega)];simp [Xm]
  ·rw [List.length_drop] at hj;have e : nth (l.drop i) j = nth l (i + j):=QdC (by rw [List.getElem?_drop];exact Ya (by omega));have h3:=h2 (i + j) (by omega);simp only [e];refine ⟨h3.1,fun q v hv=>?_⟩;have h4:=h3.2 q v hv;rw [show o + (i + j) * sz + q = o + i * sz + j * sz + q by rw [Nat.add_mul];omega] at h4;exact h4⟩
section
variable {w0 w : World} {M : List Nat} {As As' As'' : List HA} {gn cap et nt' : Nat} {a : Option Addr} {L : List LNd}
end
def usN (ns : List Nd) (i : Nat) (us : Bool) : List Nd:=ns.set i { nth ns i with us:=us }
def esN (ns : List Nd) (i : Nat) (es : List TEnt) : List Nd:=ns.set i { nth ns i with es:=es }
def csN (ns : List Nd) (i : Nat) (cs : List Int) : List Nd:=ns.set i { nth ns i with cs:=cs }
def Qko (ns : List Nd) : Nat:=ixB (ns.map fun n=>!n.us)
def QaF (ns : List Nd) : Nat × List Nd:=if Qko ns < ns.length then (Qko ns,usN ns (Qko ns) true) else (ns.length,ns ++ [⟨true,[],[]⟩])
def ZD (i : Int) : List Nd → Nat → Nat × Nat
 | [],_=>(0,0)
 | n :: ns,p=>if ixB (Qdf n.cs i) < n.cs.length then (p,ixB (Qdf n.cs i)) else ZD i ns (p + 1)
def ZV (mo : Int) : Nat:=((mo + 1) / 2).toNat
def YZ (mo : Int) (ns : List Nd) (i : Nat) : List Nd:=
 if (nth (QaF ns).2 i).cs.length = 0 then esN (esN (QaF ns).2 (QaF ns).1 ((nth (QaF ns).2 i).es.drop (ZV mo + 1))) i ((nth (QaF ns).2 i).es.take (ZV mo))
 else csN (csN (esN (esN (QaF ns).2 (QaF ns).1 ((nth (QaF ns).2 i).es.drop (ZV mo + 1))) i ((nth (QaF ns).2 i).es.take (ZV mo))) (QaF ns).1 ((nth (QaF ns).2 i).cs.drop (ZV mo + 1))) i ((nth (QaF ns).2 i).cs.take (ZV mo + 1))
def addP (ns : List Nd) (p k : Nat) (up : TEnt) (own : Nat) : List Nd:=csN (esN ns p (XB (nth ns p).es k up)) p (XB (nth ns p).cs (k + 1) (own : Int))
def splN (mo : Int) (ns : List Nd) (i : Nat) : List Nd:=addP (YZ mo ns i) (ZD (i : Int) (YZ mo ns i) 0).1 (ZD (i : Int) (YZ mo ns i) 0).2 (nth (nth (QaF ns).2 i).es (ZV mo)) (QaF ns).1
structure SplOk (mo : Int) (ns : List Nd) (i : Nat) : Prop where
 mo0 : 0 ≤ mo ∧ mo ≤ 1000
 bd : Bd ns
 lt : i < ns.length
 us : (nth ns i).us = true
 es : ZV mo < (nth ns i).es.length
 cs : (nth ns i).cs.length = 0 ∨ ZV mo + 1 ≤ (nth ns i).cs.length
 par : (ZD (i : Int) (YZ mo ns i) 0).1 < (YZ mo ns i).length
 parE : (ZD (i : Int) (YZ mo ns i) 0).2 ≤ (nth (YZ mo ns i) (ZD (i : Int) (YZ mo ns i) 0).1).es.length
 parC : (ZD (i : Int) (YZ mo ns i) 0).2 + 1 ≤ (nth (YZ mo ns i) (ZD (i : Int) (YZ mo ns i) 0).1).cs.length
def Qdn (ns : List Nd) : Nat × List Nd:=((QaF ns).1,csN (esN (csN (esN (QaF ns).2 (QaF ns).1 (nth ns 0).es) (QaF ns).1 (nth ns 0).cs) 0 []) 0 [((QaF ns).1 : Int)])
def QuM (mo : Int) (ns : List Nd) (i : Nat) : List Nd:=if 0 < i ∧ mo < ((nth ns i).es.length : Int) then splN mo ns i else ns
def QgY (mo : Int) (ns : List Nd) (P : List Nat) : List Nd:=P.foldl (QuM mo) ns
def Qnc (mo rm : Int) (ns : List Nd) : List Nd:=if rm < ((nth ns 0).es.length : Int) then if mo < ((nth (Qdn ns).2 (Qdn ns).1).es.length : Int) then splN mo (Qdn ns).2 (Qdn ns).1 else (Qdn ns).2 else ns
def grwN (mo rm : Int) (ns : List Nd) (P : List Nat) : List Nd:=Qnc mo rm (QgY mo ns P)
def insN (co mo rm : Int) (ns : List Nd) (x : TEnt) : List Nd:=
 let p:=QY co ns x.key
 let leaf:=nth p.1 (p.1.length - 1)
 grwN mo rm (esN ns leaf (XB (nth ns leaf).es p.2.1 x)) p.1.reverse
abbrev LNd.noE (n : LNd) : LNd:={ n with ea:=none,ec:=0,es:=[] }
abbrev LNd.noC (n : LNd) : LNd:={ n with ca:=none,cc:=0,cs:=[] }
abbrev ownE (et : Nat) (n : LNd) : HA:=.own (.slice n.ea n.es.length n.ec) et 2 n.es.length (n.es.flatMap TEnt.vals)
abbrev ownC (n : LNd) : HA:=.own (.slice n.ca n.cs.length n.cc) 3 1 n.cs.length (n.cs.flatMap inV)
section
variable {w0 w : World} {M : List Nat} {As As' As'' : List HA} {et : Nat} {L : List LNd} {i : Nat}
end
structure NdSet (L L' : List LNd) (i : Nat) (x : LNd) : Prop where
 lt : i < L.length
 eq : L' = L.set i x
section
variable {w0 w : World} {M : List Nat} {As A1 A2 A3 : List HA} {et : Nat} {L : List LNd} {i gn cap nt' : Nat}
end
theorem Zx {α : Type} {l : List α} {i : Nat} {x : α} (h : i ≤ l.length) : (XB l i x).length = l.length + 1:=by grind [XB]
def Sm (m : Nat) (ns : List Nd) : Prop:=∀ k,(nth ns k).es.length ≤ m ∧ (nth ns k).cs.length ≤ m
structure SpOk (mo : Int) (ns : List Nd) (i : Nat) : Prop where
 mo0 : 0 ≤ mo ∧ mo ≤ 1000
 len : ns.length ≤ 900
 sm : Sm 900 ns
 lt : i < ns.length
 us : (nth ns i).us = true
 es : ZV mo < (nth ns i).es.length
 cs : (nth ns i).cs.length = 0 ∨ ZV mo + 1 ≤ (nth ns i).cs.length
 par : (ZD (i : Int) (YZ mo ns i) 0).1 < (YZ mo ns i).length
 parE : (ZD (i : Int) (YZ mo ns i) 0).2 ≤ (nth (YZ mo ns i) (ZD (i : Int) (YZ mo ns i) 0).1).es.length
 parC : (ZD (i : Int) (YZ mo ns i) 0).2 + 1 ≤ (nth (YZ mo ns i) (ZD (i : Int) (YZ mo ns i) 0).1).cs.length
abbrev LNd.non (n : LNd) : LNd:=⟨n.us,none,0,[],none,0,[]⟩
section
variable {w0 w : World} {M : List Nat} {As A1 A2 A3 : List HA} {et : Nat} {L : List LNd} {i j gn cap nt' : Nat}
end
end Gx
namespace Gx
open Go Go.RowKit
def HA.obj (b : Nat) (o : Obj) : HA:=⟨[b],fun w=>w.heap[b]? = some o,fun w w' h hk=>(h b (List.mem_singleton.2 rfl)).trans hk⟩
section
variable {w0 w : World} {M : List Nat} {As As' : List HA}
theorem HS.allocObj (h : HS w0 M As w) (o : Obj) : HS w0 M (.obj w.heap.size o :: As) (w.alloc o):=h.alloc o _ rfl (World.alloc_heap_new w o)
theorem HS.obj_get {b : Nat} {o : Obj} (h : HS w0 M As w) (hp : QD As (.obj b o) As') : w.heap[b]? = some o:=h.ok _ hp.mem
theorem HS.putObj {b : Nat} {o : Obj} (h : HS w0 M As w) (hp : QD As (.obj b o) As') (o' : Obj) : HS w0 M (.obj b o' :: As') (w.putObj b o'):=by
 have h1:=h.pick hp;have hb : w.heap[b]? = some o:=h1.head;have hlt : b < w.heap.size:=(Array.getElem?_eq_some_iff.1 hb).1;refine h1.swap (fun _ hx=>hx) rfl rfl rfl (by simp [World.putObj]) (fun c hc=>World.putObj_heap_other (fun e=>hc (by subst e;exact List.mem_singleton.2 rfl))) (World.putObj_heap_same hlt)
end
def Qhl (P : Program) (l : Nat) (args : Array Value) (w : World) (R : Ending → World → Prop) : Prop:=
 ∃ f tmps assign body,(Instr.yield l args).run P w = .ok (.round l f tmps assign body) w ∧ RoundIn Fence.wide 0 P l f tmps assign body w R
section
variable {P : Program} {o : Oper} {L : Qb}
theorem Qrb {C : World → Prop} {G : Type} {V : G → Value} {F : G → Prop} {C' : G → World → Prop} {x : Operand} {args : Array Operand} {vs : List Value} {ts : Array TypeId} {l : Nat} (ho : o.op = .call { callee:=.value x,args:=args,argTypes:=ts }) (hx : ev L x = some (.func (.yield l) #[] #[]))
  (ha : evs L args.toList = some vs) (hy : ∀ w,C w → Qhl P l vs.toArray w fun e w'=>∃ g,e = .returned (V g) ∧ F g ∧ C' g w') : OpH P o L C V F C':=by
 intro ρ w hρ hw;obtain ⟨f,tmps,assign,body,hr,hR⟩:=hy w hw;have e1 : args.map ρ = vs.toArray:=by rw [← QcF hρ ha,← List.map_toArray]
 unfold execOp;simp only [ho,resolve,Sem.run_bind,hρ _ _ hx,Deferred.ofValue,e1,Sem.run_pure,Result.andThen_ok,invoke,Array.empty_append,hr];exact RoundIn.mono hR fun e w' ⟨g,he,hf,hc⟩=>⟨V g,he,g,rfl,hf,hc⟩
end
def rdy (fid : FuncId) (tmps : Array Value) (ps : Array Tmp) (assign body : Code) (D : Nat) : Loop:={ state:=.ready,pending:=none,fn:=fid,tmps:=tmps,params:=ps,assign:=assign,body:=body,defers:=D }
section
variable {X : Ctx} {k : List KI} {L : Qb} {w0 : World} {M : List Nat} {As As' : List HA}
theorem Qib {C : World → Prop} {l : Nat} (hrd : X.rd = some l) (h : ∀ w,C w → ∃ r,w.heap[l]? = some (.loop r) ∧ X.R (.returned (.bool true)) (w.putObj l (.loop { r with state:=.ready,pending:=none }))) : S X [] L C:=by
 intro a w ha hw;show (match X.rd with | none=>bodyPostM X.F 0 X.P X.fn X.R .normal a w | some l=>roundPost X.P l X.R .normal a w);rw [hrd];obtain ⟨r,h1,h2⟩:=h w hw;exact ⟨_,_,run_endRound none h1,h2⟩
theorem Qoc {l D : Nat} {fid : FuncId} {tmps : Array Value} {ps : Array Tmp} {assign body : Code} (hrd : X.rd = some l) (hp : QD As (.obj l (.loop { rdy fid tmps ps assign body D with state:=.busy })) As') (h : ∀ w,HS w0 M (.obj l (.loop (rdy fid tmps ps assign body D)) :: As') w → X.R (.returned (.bool true)) w) : S X [] L (HS w0 M As):=
 Qib hrd fun w hw=>⟨_,hw.obj_get hp,h _ (hw.putObj hp _)⟩
theorem Qen (d : List Nat) : ∀ k,post { X with df:=d } k = post X k
 | []=>by funext e a w;rfl
 | Sum.inl c :: k=>by funext e a w;cases e <;> simp only [post,Qen d k]
 | Sum.inr (Sum.inl id) :: k=>by funext e a w;cases e <;> simp only [post,Qen d k]
 | Sum.inr (Sum.inr J) :: k=>by funext e a w;cases e <;> simp only [post,Qen d k]
theorem QqO {g : Operand} {ps : Array Tmp} {assign body : Code} {gf : FuncId} {lb : Array Value} {G : Type} {Bs : G → List HA} (hrd : X.rd = none) (hdf : X.df = []) (hg : ev L g = some (.func (.func gf) #[] lb)) (hfn : QM X.P gf = true)
  (hit : ∀ (fid : FuncId) (D l : Nat) (a : Act) (w1 : World) (ob : Obj),ob = .loop (rdy fid a.tmps ps assign body D) → FR X.n [] L a → HS w0 M (.obj l ob :: .obj D (.deferred (some [])) :: As) w1 →
   Calls X.P gf (#[.func (.yield l) #[] #[]] ++ lb) w1 fun e w2=>(∃ v,e = .returned v) ∧ ∃ x,HS w0 M (.obj l ob :: .obj D (.deferred (some [])) :: Bs x) w2)
  (next : ∀ D x,S { X with df:=[D] } k L (HS w0 M (.obj D (.deferred (some [])) :: Bs x))) : S X (.c (.rangeFunc g ps assign body) :: k) L (HS w0 M As):=by
 intro a w ha hw;have ha0 : FR X.n [] L a:=by rw [← hdf];exact ha
 refine wpIn_rangeFunc (F:=X.F) (n:=0) fun fid _=>?_;have hro : X.F.round = none:=hrd;rw [hro];have hw1:=(hw.allocObj (.deferred (some []))).allocObj (.loop (rdy fid a.tmps ps assign body w.heap.size));rw [World.size_alloc] at hw1;have hen:=run_enterLoop_outer (P:=X.P) (w:=w) fid a.tmps ps assign body;obtain ⟨W1,hW1⟩ : ∃ W1,(w.alloc (.deferred (some []))).alloc (.loop (rdy fid a.tmps ps assign body w.heap.size)) = W1:=⟨_,rfl⟩;rw [hW1] at hw1;rw [show (Loop.mk .ready none fid a.tmps ps assign body w.heap.size) = rdy fid a.tmps ps assign body w.heap.size from rfl,hW1] at hen
 refine ⟨w.heap.size + 1,[{ target:=.collected w.heap.size,args:=#[] }],W1,{ target:=.fn (.func gf) lb,args:=#[.func (.yield (w.heap.size + 1)) #[] #[]] },W1,gf,
  #[.func (.yield (w.heap.size + 1)) #[] #[]] ++ lb,W1,hen,?_,fun _ _=>trivial,?_,fun h=>(by cases h),?_⟩
 ·simp only [resolve,ha.evl hg];simp [go_sem]
 ·simp [invoke,go_sem,QcG hfn]
 ·refine CallsIn.mono (X.callsIn (hit fid _ _ a _ _ rfl ha0 hw1)) fun e w2 he=>?_;obtain ⟨⟨v,rfl⟩,x,hx⟩:=he;refine ⟨none,_,run_endLoop (hx.obj_get .here) (by simp [rdy]),?_⟩;have h3:=next w.heap.size x { a with defers:=[{ target:=.collected w.heap.size,args:=#[] }] ++ a.defers } _ ⟨by show _ ++ a.defers = _;rw [ha0.defers];rfl,ha0.size,ha0.slot⟩ (hx.putObj .here (.loop { rdy fid a.tmps ps assign body w.heap.size with state:=.exhausted })).tail
  rw [Qen] at h3;exact h3
end
end Gx
namespace Gx
open Go Go.RowKit
theorem QhB {X : Ctx} {k : List KI} {L : Qb} {C : World → Prop} {α : Type} {c : Code} (md : List Nat) (Lm : α → Qb) (I : α → Prop) (h1 : S X (.c c :: .join (AtI X.n X.df (fun x=>Lm x ++ Qb4 md L) (fun _=>C) I) :: k) L C) (h2 : ∀ x,I x → S X k (Lm x ++ Qb4 md L) C) : S X (.c c :: k) L C:=
 Zq md Lm (fun _=>C) I h1 h2
end Gx
namespace Gx
open Go Go.RowKit
def HA.pure (p : Prop) : HA:=⟨[],fun _=>p,fun _ _ _ h=>h⟩
section
variable {w0 w : World} {M : List Nat} {As As' : List HA} {p : Prop}
theorem QtR {X : Ctx} {L : Qb} {D : Nat} (hr : X.fn.results = #[]) (hp : QD As (.obj D (.deferred (some []))) As') (h : ∀ w,HS w0 M As' w → X.R (.returned (.tuple #[])) w) (hrd : X.rd = none:=by rfl) (hdf : X.df = [D]:=by rfl) : S X [] L (HS w0 M As):=by
 intro a w ha hw;show (match X.rd with | none=>bodyPostM X.F 0 X.P X.fn X.R .normal a w | some l=>roundPost X.P l X.R .normal a w);rw [hrd];show LeavesInM X.F 0 X.P X.fn a.tmps X.R a.defers .returning w;rw [ha.defers,hdf];have h1:=(hw.putObj hp (.deferred none)).tail;exact ⟨by simp,.inl ⟨D,_,rfl,run_takeDeferred (hw.obj_get hp),.tuple #[],results_none hr _ _ _,h _ h1⟩⟩
end
end Gx
namespace Gx
open Go Go.RowKit
abbrev iN (P : List Nat) : List Int:=P.map fun i : Nat=>(i : Int)
theorem Qfk (P : List Nat) : (iN P).length = P.length:=by simp
def Qow (mo : Int) : List Nd → List Nat → Prop
 | _,[]=>True
 | ns,i :: P=>(i < ns.length ∧ (0 < i → mo < ((nth ns i).es.length : Int) → SpOk mo ns i)) ∧ Qow mo (QuM mo ns i) P
structure RootOk (mo rm : Int) (ns : List Nd) : Prop where
 lt : 0 < ns.length
 len : ns.length ≤ 900
 us : (nth ns 0).us = true
 spl : rm < ((nth ns 0).es.length : Int) → mo < ((nth (Qdn ns).2 (Qdn ns).1).es.length : Int) → SpOk mo (Qdn ns).2 (Qdn ns).1
def QdY (co : Int) (ns : List Nd) (key : List UInt8) : Nat:=nth (QY co ns key).1 ((QY co ns key).1.length - 1)
def QnX (co : Int) (ns : List Nd) (x : TEnt) : List Nd:=esN ns (QdY co ns x.key) (XB (nth ns (QdY co ns x.key)).es (QY co ns x.key).2.1 x)
def Qms (co mo rm : Int) (ns : List Nd) (x : TEnt) : List Nd:=if (QY co ns x.key).2.2 = true then ns else grwN mo rm (QnX co ns x) (QY co ns x.key).1.reverse
def insE (co mo rm : Int) (ns : List Nd) (x : TEnt) : Int:=if (QY co ns x.key).2.2 = true then 5 else if (Qms co mo rm ns x).length ≤ 120 then 0 else 16
structure InsOk (co mo rm : Int) (ns : List Nd) (x : TEnt) : Prop where
 ne : 0 < (QY co ns x.key).1.length
 len : (QY co ns x.key).1.length ≤ 900
 lf : QdY co ns x.key < ns.length
 es : (nth ns (QdY co ns x.key)).es.length ≤ 900
 pl : (QY co ns x.key).2.1 ≤ (nth ns (QdY co ns x.key)).es.length
 grw : Qow mo (QnX co ns x) (QY co ns x.key).1.reverse
 root : RootOk mo rm (QgY mo (QnX co ns x) (QY co ns x.key).1.reverse)
section
variable {w0 w : World} {M : List Nat} {As As' : List HA} {a : Option Addr} {cap : Nat} {P : List Nat}
theorem HS.kids_some {l : List Int} (hn : 0 < l.length) (h : HS w0 M As w) (hp : QD As (.kids a cap l) As') : ∃ g,a = some ⟨g,0,none⟩:=by
 obtain ⟨g,e,_⟩:=HS.own_blk hn hp h;exact ⟨g,e⟩
end
section
variable {w0 w : World} {M : List Nat} {As A1 A2 A3 : List HA} {et : Nat} {L : List LNd} {i t gn cap nt' : Nat} {y : LNd}
end
section
variable {w0 w : World} {M : List Nat} {As A1 A2 A3 : List HA} {et : Nat} {L : List LNd} {i gn cap nt' : Nat}
end
def givF (ns : List Nd) (p k f t : Nat) : List Nd:=
 let P:=nth ns p;let F:=nth ns f;let T:=nth ns t
 let n:=esN (esN (esN ns t (XB T.es 0 (nth P.es k))) p (P.es.set k (nth F.es (F.es.length - 1)))) f (F.es.take (F.es.length - 1))
 if F.cs.length = 0 then n else csN (csN n t (XB T.cs 0 (F.cs.getD (F.cs.length - 1) 0))) f (F.cs.take (F.cs.length - 1))
def givB (ns : List Nd) (p k f t : Nat) : List Nd:=
 let P:=nth ns p;let F:=nth ns f;let T:=nth ns t
 let n:=esN (esN (esN ns t (T.es ++ [nth P.es k])) p (P.es.set k (nth F.es 0))) f (QeY F.es 0)
 if F.cs.length = 0 then n else csN (csN n t (T.cs ++ [F.cs.getD 0 0])) f (QeY F.cs 0)
structure GivOk (ns : List Nd) (p k f t : Nat) : Prop where
 pl : p < ns.length
 fl : f < ns.length
 tl : t < ns.length
 pf : p ≠ f
 pt : p ≠ t
 ft : f ≠ t
 ke : k < (nth ns p).es.length
 kc : k + 1 < (nth ns p).cs.length
 fe : 0 < (nth ns f).es.length
 len : ns.length ≤ 900
 sm : Sm 900 ns
abbrev LNd.gone : LNd:=⟨false,none,0,[],none,0,[]⟩
section
variable {w0 w : World} {M : List Nat} {As A1 A2 A3 : List HA} {et : Nat} {L : List LNd} {i j gn cap nt' : Nat}
end
def mrgN (ns : List Nd) (p k t f : Nat) : List Nd:=
 (csN (esN (csN (esN ns t ((nth ns t).es ++ nth (nth ns p).es k :: (nth ns f).es)) t ((nth ns t).cs ++ (nth ns f).cs)) p (QeY (nth ns p).es k)) p (QeY (nth ns p).cs (k + 1))).set f ⟨false,[],[]⟩
structure MrgOk (ns : List Nd) (p k f t : Nat) : Prop where
 pl : p < ns.length
 fl : f < ns.length
 tl : t < ns.length
 pf : p ≠ f
 pt : p ≠ t
 ft : f ≠ t
 ke : k < (nth ns p).es.length
 kc : k + 1 < (nth ns p).cs.length
 len : ns.length ≤ 900
 sm : Sm 900 ns
def kdN (ns : List Nd) (p k : Nat) : Nat:=((nth ns p).cs.getD k 0).toNat
def QsI (mo : Int) (ns : List Nd) (p : Nat) (x : Int) : Bool:=(decide (0 ≤ x) && decide (x ≤ ((nth ns p).cs.length : Int) - 1)) && decide (mo / 2 < ((nth ns (kdN ns p x.toNat)).es.length : Int))
def filP (mo : Int) (ns : List Nd) (p k : Nat) : List Nd:=
 if QsI mo ns p ((k : Int) - 1) = true then givF ns p (k - 1) (kdN ns p (k - 1)) (kdN ns p k)
 else if QsI mo ns p ((k : Int) + 1) = true then givB ns p k (kdN ns p (k + 1)) (kdN ns p k)
 else if 0 < k then mrgN ns p (k - 1) (kdN ns p (k - 1)) (kdN ns p k)
 else if 1 < (nth ns p).cs.length then mrgN ns p k (kdN ns p k) (kdN ns p (k + 1))
 else ns
def filN (mo : Int) (ns : List Nd) (i : Nat) : List Nd:=filP mo ns (ZD (i : Int) ns 0).1 (ZD (i : Int) ns 0).2
structure FilOk (mo : Int) (ns : List Nd) (p k : Nat) : Prop where
 mo0 : 0 ≤ mo ∧ mo ≤ 1000
 pl : p < ns.length
 kl : k < (nth ns p).cs.length
 sh : (nth ns p).cs.length = (nth ns p).es.length + 1
 kid : ∀ x,x < (nth ns p).cs.length → 0 ≤ (nth ns p).cs.getD x 0 ∧ kdN ns p x < ns.length ∧ p ≠ kdN ns p x
 dis : ∀ x y,x < (nth ns p).cs.length → y < (nth ns p).cs.length → x ≠ y → kdN ns p x ≠ kdN ns p y
 len : ns.length ≤ 900
 sm : Sm 900 ns
section
variable {mo : Int} {ns : List Nd} {p k : Nat}
end
def tln (ns : List Nd) : Nat → Nat
 | 0=>0
 | n + 1=>if (nth ns n).us = true then n + 1 else tln ns n
def trmN (ns : List Nd) : List Nd:=ns.take (tln ns ns.length)
section
variable {w0 w : World} {M : List Nat} {As As' : List HA} {et : Nat} {L : List LNd}
end
def rgtN (ns : List Nd) : Nat → Nat → List Nat
 | 0,i=>[i]
 | f + 1,i=>if (nth ns i).cs.length = 0 then [i] else i :: rgtN ns f (kdN ns i ((nth ns i).cs.length - 1))
def Qsg (ns : List Nd) : Nat → Nat → Prop
 | 0,_=>False
 | f + 1,i=>i < ns.length ∧ ((nth ns i).cs.length = 0 ∨ (0 ≤ (nth ns i).cs.getD ((nth ns i).cs.length - 1) 0 ∧ Qsg ns f (kdN ns i ((nth ns i).cs.length - 1))))
def QR (P : List Nat) : Nat:=nth P (P.length - 1)
def Zy (ns : List Nd) (P : List Nat) (at' : Nat) : List Nat:=if (nth ns (QR P)).cs.length = 0 then P else P ++ rgtN ns ns.length (kdN ns (QR P) at')
def Qs5 (ns : List Nd) (P : List Nat) (at' : Nat) : Nat:=if (nth ns (QR P)).cs.length = 0 then at' else (nth ns (QR (Zy ns P at'))).es.length - 1
def QmL (ns : List Nd) (P : List Nat) (at' : Nat) : List Nd:=if (nth ns (QR P)).cs.length = 0 then ns else esN ns (QR P) ((nth ns (QR P)).es.set at' (nth (nth ns (QR (Zy ns P at'))).es ((nth ns (QR (Zy ns P at'))).es.length - 1)))
def QoT (ns : List Nd) (P : List Nat) (at' : Nat) : List Nd:=esN (QmL ns P at') (QR (Zy ns P at')) (QeY (nth (QmL ns P at') (QR (Zy ns P at'))).es (Qs5 ns P at'))
def Quf (mo : Int) (ns : List Nd) (i : Nat) : List Nd:=if 0 < i ∧ ((nth ns i).es.length : Int) < mo / 2 then filN mo ns i else ns
def Qun (mo : Int) (ns : List Nd) (P : List Nat) : List Nd:=P.foldl (Quf mo) ns
def rotN (rm : Int) (ns : List Nd) : List Nd:=
 if (nth ns 0).es.length = 0 ∧ (nth ns 0).cs.length = 1 then
  if ((nth ns (kdN ns 0 0)).es.length : Int) ≤ rm then (ns.set 0 (nth ns (kdN ns 0 0))).set (kdN ns 0 0) ⟨false,[],[]⟩ else ns
 else ns
def remN (mo rm : Int) (ns : List Nd) (P : List Nat) (at' : Nat) : List Nd:=trmN (rotN rm (Qun mo (QoT ns P at') (Zy ns P at').reverse))
def Qnv (mo : Int) : List Nd → List Nat → Prop
 | _,[]=>True
 | ns,i :: P=>(i < ns.length ∧ (0 < i → ((nth ns i).es.length : Int) < mo / 2 → FilOk mo ns (ZD (i : Int) ns 0).1 (ZD (i : Int) ns 0).2)) ∧ Qnv mo (Quf mo ns i) P
structure RotOk (rm : Int) (ns : List Nd) : Prop where
 lt : 0 < ns.length
 len : ns.length ≤ 900
 us : (nth ns 0).us = true
 kid : (nth ns 0).cs.length = 1 → 0 < (nth ns 0).cs.getD 0 0 ∧ kdN ns 0 0 < ns.length ∧ (nth ns (kdN ns 0 0)).us = true
structure RemOk (mo rm : Int) (ns : List Nd) (P : List Nat) (at' : Nat) : Prop where
 mo0 : 0 ≤ mo ∧ mo ≤ 1000
 ne : 0 < P.length
 len : P.length ≤ 900
 nl : ns.length ≤ 900
 sm : Sm 900 ns
 lst : QR P < ns.length
 atk : at' < (nth ns (QR P)).es.length
 rgt : 0 < (nth ns (QR P)).cs.length → at' < (nth ns (QR P)).cs.length ∧ 0 ≤ (nth ns (QR P)).cs.getD at' 0 ∧ Qsg ns ns.length (kdN ns (QR P) at') ∧ QR P ≠ QR (Zy ns P at') ∧ 0 < (nth ns (QR (Zy ns P at'))).es.length ∧ QR (Zy ns P at') < ns.length
 qn : 0 < (Zy ns P at').length ∧ (Zy ns P at').length ≤ 1900
 ql : QR (Zy ns P at') < ns.length
 dl : Qs5 ns P at' < (nth (QmL ns P at') (QR (Zy ns P at'))).es.length
 sm1 : Sm 900 (QmL ns P at')
 fil : Qnv mo (QoT ns P at') (Zy ns P at').reverse
 rot : RotOk rm (Qun mo (QoT ns P at') (Zy ns P at').reverse)
abbrev ownP (a : Option Addr) (c : Nat) (P : List Nat) : HA:=.own (.slice a P.length c) 3 1 P.length (P.map fun i : Nat=>Value.int .i64 (i : Int))
theorem Qq7 (l : List Nat) : (iN l).flatMap inV = l.map fun i : Nat=>Value.int .i64 (i : Int):=by
 induction l with
 | nil=>rfl
 | cons x l ih=>
  rw [iN,List.map_cons,List.flatMap_cons,List.map_cons,← ih];rfl
theorem Qmv (a : Option Addr) (c : Nat) (P : List Nat) : HA.kids a c (iN P) = ownP a c P:=by
 unfold HA.kids;rw [Qq7,Qfk]
section
variable {w0 w : World} {M : List Nat} {As A1 A2 A3 : List HA} {a : Option Addr} {c : Nat} {P : List Nat}
theorem HS.pown_row (h : HS w0 M As w) (hp : QD As (ownP a c P) A1) : Rw inV 1 w [] a (iN P):=by
 have h1:=h.pick hp;rw [← Qmv] at h1;exact h1.rw_own (l:=iN P) iv1 .here rfl
end
section
variable {w0 w : World} {M : List Nat} {As A1 A2 A3 : List HA} {et : Nat} {L : List LNd} {i j gn cap nt' : Nat}
end
section
variable {ns : List Nd} {P : List Nat} {k : Nat} {I F : Nd} {rm : Int}
end
theorem QcT {α : Type} [Inhabited α] {l m : List α} (hl : l.length = m.length) (h : ∀ j,j < l.length → nth l j = nth m j) : l = m:=by
 apply List.ext_getElem?
 grind [Ya]
def chgK (a b : List Nd) (k : Nat) : List Nat:=(List.range k).filter fun i=>decide (nth a i ≠ nth b i)
def chgN (a b : List Nd) : List Nat:=chgK a b (max a.length b.length)
theorem Qra {x y : TEnt} (h1 : (bs x.key).data.toList = (bs y.key).data.toList) (h2 : (bs x.val).data.toList = (bs y.val).data.toList) : x = y:=by
 cases x
 simp_all
theorem keyE_ok {co : Int} {k : List UInt8} (h : X8 co k = 0) : Qz co k = true:=by grind [X8]
theorem Qem {α : Type} [Inhabited α] {vals : α → List Value} {sz : Nat} {w : World} {M : List Nat} {a : Option Addr} {l : List α} (h : Rw vals sz w M a l) (i : Nat) : Rw vals sz w M a (l.take i):=
 ⟨fun hn=>by
  rw [List.length_take] at hn;obtain ⟨b,o,rfl,h2⟩:=h.at_ (by omega);refine ⟨b,o,rfl,fun j hj=>?_⟩;rw [List.length_take] at hj;have e : nth (l.take i) j = nth l j:=Qoh (by omega);have h3:=h2 j (by omega);simp only [e];exact h3⟩
theorem Qqe {co : Int} {key : List UInt8} : ∀ {es : List TEnt} {k : Nat},k ≤ es.length → (∀ q,q < k → Xo co (nth es q).key key < 0) → ¬ (k < es.length ∧ Xo co (nth es k).key key < 0) → plc co es key = k:=by
 intro es k hk h1 h2;have h3:=QjO co key es;rcases Nat.lt_trichotomy (plc co es key) k with h | h | h
 ·exact absurd (h1 _ h) (QpN co key es (by omega))
 ·exact h
 ·exact absurd ⟨by omega,QeP co key es k h⟩ h2
abbrev LNd.fre : LNd:=⟨true,none,0,[],none,0,[]⟩
section
variable {w0 w : World} {M : List Nat} {As A1 A2 A3 : List HA} {et : Nat} {L : List LNd} {i j gn cap nt' : Nat}
end
section
variable {w0 w : World} {M : List Nat} {As A1 A2 A3 : List HA} {et : Nat} {L : List LNd} {i gn cap nt' : Nat}
end
def frsI (ns : List Nd) : Nat → Nat → Nat
 | 0,i=>i
 | f + 1,i=>if i < ns.length then if (nth ns i).us = true then frsI ns f (i + 1) else i else i
def QtT (ns : List Nd) : Nat:=frsI ns ns.length 1
def QfL (ns : List Nd) : Nat × List Nd:=if QtT ns < ns.length then (QtT ns,ns.set (QtT ns) ⟨true,[],[]⟩) else (ns.length,ns ++ [⟨true,[],[]⟩])
def ixR (cs : List Int) (c : Int) : Nat:=if ixB (Qdf cs c) < cs.length then ixB (Qdf cs c) else 0
def Qb2 (mo : Int) (ns : List Nd) (i : Nat) : List Nd:=
 let F:=(QfL ns).2;let o:=(QfL ns).1;let x:=nth F i
 let n:=esN (esN F o (x.es.drop (ZV mo + 1))) i (x.es.take (ZV mo))
 if x.cs.length = 0 then n else csN (csN n o (x.cs.drop (ZV mo + 1))) i (x.cs.take (ZV mo + 1))
def QrM (mo : Int) (ns : List Nd) (p i : Nat) : List Nd:=addP (Qb2 mo ns i) p (ixR (nth (Qb2 mo ns i) p).cs (i : Int)) (nth (nth (QfL ns).2 i).es (ZV mo)) (QfL ns).1
def Qdy (ns : List Nd) : Nat × List Nd:=((QfL ns).1,csN (esN (csN (esN (QfL ns).2 (QfL ns).1 (nth (QfL ns).2 0).es) (QfL ns).1 (nth (QfL ns).2 0).cs) 0 []) 0 [((QfL ns).1 : Int)])
def Qh1 (mo : Int) (P : List Nat) : Nat → List Nd → List Nd
 | 0,ns=>ns
 | k + 1,ns=>Qh1 mo P k (if mo < ((nth ns (nth P (k + 1))).es.length : Int) then QrM mo ns (nth P k) (nth P (k + 1)) else ns)
def QsJ (mo rm : Int) (ns : List Nd) : List Nd:=if rm < ((nth ns 0).es.length : Int) then if mo < ((nth (Qdy ns).2 (Qdy ns).1).es.length : Int) then QrM mo (Qdy ns).2 0 (Qdy ns).1 else (Qdy ns).2 else ns
def insR (co mo rm : Int) (ns : List Nd) (x : TEnt) : List Nd:=
 let P:=(QY co ns x.key).1;let lf:=QR P
 QsJ mo rm (Qh1 mo P (P.length - 1) (esN ns lf (XB (nth ns lf).es (plc co (nth ns lf).es x.key) x)))
structure SpROk (mo : Int) (ns : List Nd) (p i : Nat) : Prop where
 mo0 : 0 ≤ mo ∧ mo ≤ 1000
 len : ns.length ≤ 900
 sm : Sm 900 ns
 lt : i < ns.length
 us : (nth ns i).us = true
 es : ZV mo < (nth ns i).es.length
 cs : (nth ns i).cs.length = 0 ∨ ZV mo + 1 ≤ (nth ns i).cs.length
 par : p < ns.length
 parE : ixR (nth (Qb2 mo ns i) p).cs (i : Int) ≤ (nth (Qb2 mo ns i) p).es.length
 parC : ixR (nth (Qb2 mo ns i) p).cs (i : Int) + 1 ≤ (nth (Qb2 mo ns i) p).cs.length
def QjG (mo : Int) (P : List Nat) : Nat → List Nd → Prop
 | 0,_=>True
 | k + 1,ns=>(nth P (k + 1) < ns.length ∧ (mo < ((nth ns (nth P (k + 1))).es.length : Int) → SpROk mo ns (nth P k) (nth P (k + 1)))) ∧ QjG mo P k (if mo < ((nth ns (nth P (k + 1))).es.length : Int) then QrM mo ns (nth P k) (nth P (k + 1)) else ns)
structure RootROk (mo rm : Int) (ns : List Nd) : Prop where
 lt : 0 < ns.length
 len : ns.length ≤ 900
 us : (nth ns 0).us = true
 spl : rm < ((nth ns 0).es.length : Int) → mo < ((nth (Qdy ns).2 (Qdy ns).1).es.length : Int) → SpROk mo (Qdy ns).2 0 (Qdy ns).1
structure InsROk (co mo rm : Int) (ns : List Nd) (x : TEnt) : Prop where
 ne : 0 < (QY co ns x.key).1.length
 len : (QY co ns x.key).1.length ≤ 900
 lf : QR (QY co ns x.key).1 < ns.length
 grw : QjG mo (QY co ns x.key).1 ((QY co ns x.key).1.length - 1) (esN ns (QR (QY co ns x.key).1) (XB (nth ns (QR (QY co ns x.key).1)).es (plc co (nth ns (QR (QY co ns x.key).1)).es x.key) x))
 root : RootROk mo rm (Qh1 mo (QY co ns x.key).1 ((QY co ns x.key).1.length - 1) (esN ns (QR (QY co ns x.key).1) (XB (nth ns (QR (QY co ns x.key).1)).es (plc co (nth ns (QR (QY co ns x.key).1)).es x.key) x)))
def Qsu (co : Int) (ns : List Nd) (x : TEnt) : List Nd:=esN ns (QR (QY co ns x.key).1) (XB (nth ns (QR (QY co ns x.key).1)).es (plc co (nth ns (QR (QY co ns x.key).1)).es x.key) x)
def smB (m : Nat) (ns : List Nd) : Bool:=ns.all fun n=>decide (n.es.length ≤ m) && decide (n.cs.length ≤ m)
def bdB (ns : List Nd) : Bool:=decide (ns.length ≤ 1000) && smB 1000 ns
def spRB (mo : Int) (ns : List Nd) (p i : Nat) : Bool:=decide ((0 ≤ mo ∧ mo ≤ 1000) ∧ ns.length ≤ 900 ∧ smB 900 ns = true ∧ i < ns.length ∧ (nth ns i).us = true ∧ ZV mo < (nth ns i).es.length ∧ ((nth ns i).cs.length = 0 ∨ ZV mo + 1 ≤ (nth ns i).cs.length) ∧ p < ns.length ∧ ixR (nth (Qb2 mo ns i) p).cs (i : Int) ≤ (nth (Qb2 mo ns i) p).es.length ∧ ixR (nth (Qb2 mo ns i) p).cs (i : Int) + 1 ≤ (nth (Qb2 mo ns i) p).cs.length)
def QsG (mo : Int) (P : List Nat) : Nat → List Nd → Bool
 | 0,_=>true
 | k + 1,ns=>(decide (nth P (k + 1) < ns.length) && (!decide (mo < ((nth ns (nth P (k + 1))).es.length : Int)) || spRB mo ns (nth P k) (nth P (k + 1)))) && QsG mo P k (if mo < ((nth ns (nth P (k + 1))).es.length : Int) then QrM mo ns (nth P k) (nth P (k + 1)) else ns)
def Qt5 (mo rm : Int) (ns : List Nd) : Bool:=decide (0 < ns.length ∧ ns.length ≤ 900 ∧ (nth ns 0).us = true ∧ (rm < ((nth ns 0).es.length : Int) → mo < ((nth (Qdy ns).2 (Qdy ns).1).es.length : Int) → spRB mo (Qdy ns).2 0 (Qdy ns).1 = true))
def QsV (co mo rm : Int) (ns : List Nd) (x : TEnt) : Bool:=decide (0 < (QY co ns x.key).1.length ∧ (QY co ns x.key).1.length ≤ 900 ∧ QR (QY co ns x.key).1 < ns.length ∧ QsG mo (QY co ns x.key).1 ((QY co ns x.key).1.length - 1) (Qsu co ns x) = true ∧ Qt5 mo rm (Qh1 mo (QY co ns x.key).1 ((QY co ns x.key).1.length - 1) (Qsu co ns x)) = true)
def spB (mo : Int) (ns : List Nd) (i : Nat) : Bool:=decide ((0 ≤ mo ∧ mo ≤ 1000) ∧ ns.length ≤ 900 ∧ smB 900 ns = true ∧ i < ns.length ∧ (nth ns i).us = true ∧ ZV mo < (nth ns i).es.length ∧ ((nth ns i).cs.length = 0 ∨ ZV mo + 1 ≤ (nth ns i).cs.length) ∧ (ZD (i : Int) (YZ mo ns i) 0).1 < (YZ mo ns i).length ∧ (ZD (i : Int) (YZ mo ns i) 0).2 ≤ (nth (YZ mo ns i) (ZD (i : Int) (YZ mo ns i) 0).1).es.length ∧ (ZD (i : Int) (YZ mo ns i) 0).2 + 1 ≤ (nth (YZ mo ns i) (ZD (i : Int) (YZ mo ns i) 0).1).cs.length)
def grwB (mo : Int) : List Nd → List Nat → Bool
 | _,[]=>true
 | ns,i :: P=>(decide (i < ns.length) && (!decide (0 < i ∧ mo < ((nth ns i).es.length : Int)) || spB mo ns i)) && grwB mo (QuM mo ns i) P
def Qvf (mo rm : Int) (ns : List Nd) : Bool:=decide (0 < ns.length ∧ ns.length ≤ 900 ∧ (nth ns 0).us = true ∧ (rm < ((nth ns 0).es.length : Int) → mo < ((nth (Qdn ns).2 (Qdn ns).1).es.length : Int) → spB mo (Qdn ns).2 (Qdn ns).1 = true))
def insOB (co mo rm : Int) (ns : List Nd) (x : TEnt) : Bool:=decide (0 < (QY co ns x.key).1.length ∧ (QY co ns x.key).1.length ≤ 900 ∧ QdY co ns x.key < ns.length ∧ (nth ns (QdY co ns x.key)).es.length ≤ 900 ∧ (QY co ns x.key).2.1 ≤ (nth ns (QdY co ns x.key)).es.length ∧ grwB mo (QnX co ns x) (QY co ns x.key).1.reverse = true ∧ Qvf mo rm (QgY mo (QnX co ns x) (QY co ns x.key).1.reverse) = true)
def filB (mo : Int) (ns : List Nd) (p k : Nat) : Bool:=decide ((0 ≤ mo ∧ mo ≤ 1000) ∧ p < ns.length ∧ k < (nth ns p).cs.length ∧ (nth ns p).cs.length = (nth ns p).es.length + 1 ∧ (∀ x,x < (nth ns p).cs.length → 0 ≤ (nth ns p).cs.getD x 0 ∧ kdN ns p x < ns.length ∧ p ≠ kdN ns p x) ∧ (∀ x,x < (nth ns p).cs.length → ∀ y,y < (nth ns p).cs.length → x ≠ y → kdN ns p x ≠ kdN ns p y) ∧ ns.length ≤ 900 ∧ smB 900 ns = true)
def QsH (mo : Int) : List Nd → List Nat → Bool
 | _,[]=>true
 | ns,i :: P=>(decide (i < ns.length) && (!decide (0 < i ∧ ((nth ns i).es.length : Int) < mo / 2) || filB mo ns (ZD (i : Int) ns 0).1 (ZD (i : Int) ns 0).2)) && QsH mo (Quf mo ns i) P
def rotB (ns : List Nd) : Bool:=decide (0 < ns.length ∧ ns.length ≤ 900 ∧ (nth ns 0).us = true ∧ ((nth ns 0).cs.length = 1 → 0 < (nth ns 0).cs.getD 0 0 ∧ kdN ns 0 0 < ns.length ∧ (nth ns (kdN ns 0 0)).us = true))
def rgtB (ns : List Nd) : Nat → Nat → Bool
 | 0,_=>false
 | f + 1,i=>decide (i < ns.length) && (decide ((nth ns i).cs.length = 0) || (decide (0 ≤ (nth ns i).cs.getD ((nth ns i).cs.length - 1) 0) && rgtB ns f (kdN ns i ((nth ns i).cs.length - 1))))
def remB (mo rm : Int) (ns : List Nd) (P : List Nat) (k : Nat) : Bool:=decide ((0 ≤ mo ∧ mo ≤ 1000) ∧ 0 < P.length ∧ P.length ≤ 900 ∧ ns.length ≤ 900 ∧ smB 900 ns = true ∧ QR P < ns.length ∧ k < (nth ns (QR P)).es.length ∧ (0 < (nth ns (QR P)).cs.length → k < (nth ns (QR P)).cs.length ∧ 0 ≤ (nth ns (QR P)).cs.getD k 0 ∧ rgtB ns ns.length (kdN ns (QR P) k) = true ∧ QR P ≠ QR (Zy ns P k) ∧ 0 < (nth ns (QR (Zy ns P k))).es.length ∧ QR (Zy ns P k) < ns.length) ∧ (0 < (Zy ns P k).length ∧ (Zy ns P k).length ≤ 1900) ∧ QR (Zy ns P k) < ns.length ∧ Qs5 ns P k < (nth (QmL ns P k) (QR (Zy ns P k))).es.length ∧ smB 900 (QmL ns P k) = true ∧ QsH mo (QoT ns P k) (Zy ns P k).reverse = true ∧ rotB (Qun mo (QoT ns P k) (Zy ns P k).reverse) = true)
def Qpl (k : Nat) : TEnt:=⟨[UInt8.ofNat (97 + k)],[]⟩
def QdF : Nat → List Nd
 | 0=>[⟨true,[],[]⟩]
 | k + 1=>insR 0 4 2 (QdF k) (Qpl k)
def letB (k : Nat) : Bool:=decide (0 < (QdF k).length) && (bdB (QdF k) && (decide ((QlH ⟨0,4,2,QdF k⟩ (QdF k).length 0 []).2 = 0) && (QsV 0 4 2 (QdF k) (Qpl k) && Qz 0 (Qpl k).key)))
structure LetOk (k : Nat) : Prop where
 n0 : 0 < (QdF k).length
 bd : Bd (QdF k)
 tok : TOk 0 (QdF k)
 ins : InsROk 0 4 2 (QdF k) (Qpl k)
 key : Qz 0 (Qpl k).key = true
abbrev aK : TEnt:=⟨[107],[]⟩
abbrev i0 : Int:=((0 : Nat) : Int)
abbrev aR : List Nd:=remN 4 2 (QdF 11) (QY i0 (QdF 11) [99]).1 (QY i0 (QdF 11) [99]).2.1
end Gx
namespace Gx
open Go Go.RowKit
section
variable {X : Ctx} {ops : Array Oper} {F : List Nat} {fuel i : Nat} {listed : Array Bool} {k : List KI} {L : Qb} {d ty : Nat} {op : Op} {pos : String} {aft : Array Edge} {w0 : World} {M : List Nat} {As Bs : List HA}
theorem Qst {B : World → Prop} {G : Type} {V : G → Value} {Fg : G → Prop} {C' : G → World → Prop} {j : Nat} {want b : Bool} (i dj : Nat) (hi : ops[i]? = some ⟨some d,op,ty,pos,aft,some (j,want)⟩) (hj : (ops[j]?).bind (·.dst) = some dj) (hb : Qb.get L dj = some (.bool b)) (hw : b = want) (h : OpH X.P ⟨some d,op,ty,pos,aft,none⟩ L (HS w0 M As) V Fg C') (hr : (Region.ready .any ops listed == [i]) = true) (hB : ∀ w,HS w0 M As w → B w) (hd : Nat.blt d X.n = true)
  (next : ∀ g,Fg g → D X ops F B fuel (listed.setIfInBounds i true) k ((d,V g) :: L) (C' g)) : D X ops F B (fuel + 1) listed k L (HS w0 M As):=by
 intro hcl a ha;have hy : yielded ops a.tmps j = some b:=by simp [yielded,hj,ha.slot _ _ hb]
 have hr' : Region.ready .any ops listed = [i]:=by simpa using hr
 refine QeA hr' (fun _=>⟨hB,HS.stab _ _ _⟩) ?_;unfold X3;simp only [hi];rw [if_pos (by simp [Region.wanted,hy,hw])];exact ⟨G,V,Fg,C',fun w hw=>h a.eval w ha.agr hw,fun g hg=>next g hg (hcl.set (by rw [hr'];exact List.mem_singleton.2 rfl)) _ (ha.put d _ hd)⟩
end
end Gx
namespace Gx
open Go Go.RowKit
section
variable {w0 w : World} {M : List Nat} {As Cs Ds Es Fs : List HA}
end
end Gx
namespace Gx
open Go Go.RowKit
end Gx
namespace Gx
open Go Go.RowKit
section
variable {X : Ctx} {ops : Array Oper} {k : List KI} {L : Qb} {C : World → Prop}
theorem Qpj {α : Type} (m dj dp : Nat) (b : Bool) (v : α → Bool) (CJ : α → World → Prop) (I : α → Prop) {l : List Oper} (hb : Qb.get L dj = some (.bool b))
  (h1 : b = true → O X ops (l.take m) (.join (AtI X.n X.df (fun x : α=>(dp,.bool (v x)) :: L) CJ I) :: k) L C)
  (h0 : b = false → O X ops (l.take m) (.join (AtI X.n X.df (fun x : α=>(dp,.bool (v x)) :: L) CJ I) :: k) L C)
  (h2 : ∀ x,I x → O X ops (l.drop m) k ((dp,.bool (v x)) :: L) (CJ x)) : O X ops l k L C:=by
 intro a w ha hw
 have hh : O X ops (l.take m) (.join (AtI X.n X.df (fun x : α=>(dp,.bool (v x)) :: L) CJ I) :: k) L C:=by
  cases b with
  | true=>exact h1 rfl
  | false=>exact h0 rfl
 have:=Y0 (Q:=post X k) _ (l.drop m) a w (hh a w ha hw) (fun a w ⟨x,hI,hx,hc⟩=>h2 x hI a w hx hc) (fun e a w he h=>Qbj e a w he h)
 rwa [List.take_append_drop] at this
end
end Gx
namespace Gx
open Go Go.RowKit
section
variable {P : Program} {o : Oper} {L : Qb} {w0 : World} {M : List Nat} {As : List HA}
end
section
variable {X : Ctx} {ops : Array Oper} {k : List KI} {L : Qb} {C : World → Prop}
end
def endsL (fid : FuncId) (tmps : Array Value) (ps : Array Tmp) (assign body : Code) (D : Nat) : Option Nat → Obj
 | none=>.loop (rdy fid tmps ps assign body D)
 | some id=>.loop { rdy fid tmps ps assign body D with state:=.done,pending:=some (.exit id) }
section
variable {X : Ctx} {k : List KI} {L : Qb} {w0 : World} {M : List Nat} {As As' : List HA}
def rngK (k : List KI) : Option Nat → List KI
 | none=>k
 | some id=>.c (.exit id) :: k
end
def doneO (id : Nat) : Obj → Obj
 | .loop r=>.loop { r with state:=.done,pending:=some (.exit id) }
 | o=>o
inductive RunY {S α : Type} (st : S → α → S → Prop) (co : S → Bool) : S → List α → S → Bool → Prop
 | nil (s : S) : RunY st co s [] s true
 | go {s s' s'' : S} {x : α} {l : List α} {b : Bool} (h : st s x s') (hc : co s' = true) (hr : RunY st co s' l s'' b) : RunY st co s (x :: l) s'' b
 | stop {s s' : S} {x : α} {l : List α} (h : st s x s') (hc : co s' = false) : RunY st co s (x :: l) s' false
section
variable {S α : Type} {st : S → α → S → Prop} {co : S → Bool} {s s1 s2 : S} {A B : List α} {b : Bool}
end
end Gx
namespace Gx
open Go Go.RowKit
class TFd (P : Program) (t f : Nat) (off ft : outParam Nat) : Prop where h : tfd P t f = some (off,ft)
class TSz (P : Program) (t : Nat) (n : outParam Nat) (ag : outParam Bool) : Prop where h : tsz P t = some (n,ag)
class TSe (P : Program) (t : Nat) (e : outParam Nat) : Prop where h : P.underlying t = some (.slice e)
section
variable {X : Ctx} {ops : Array Oper} {rest : List Oper} {k : List KI} {L : Qb} {d ty : Nat} {pos : String} {aft : Array Edge} {C : World → Prop}
theorem oFa {st f x b i off ft sz : Nat} {ag : Bool} [h1 : TFd X.P st f off ft] [h2 : TSz X.P ft sz ag] (next : O X ops rest k ((d,.pointer (some ⟨b,i + off,none⟩)) :: L) C) (hx : Qb.get L x = some (.pointer (some ⟨b,i,none⟩)):=by rfl) (hs : Nat.blt 0 sz = true:=by rfl) (hd : Nat.blt d X.n = true:=by rfl) :
  O X ops (⟨some d,.fieldAddr st (.tmp x) f,ty,pos,aft,none⟩ :: rest) k L C:=o_p (ZW rfl hx h1.h h2.h hs) hd next
theorem oLs {t e x n cap : Nat} {a : Option Addr} [h1 : TSe X.P t e] (next : O X ops rest k ((d,.int .i64 n) :: L) C) (hx : Qb.get L x = some (.slice a n cap):=by rfl) (hd : Nat.blt d X.n = true:=by rfl) :
  O X ops (⟨some d,.call { callee:=.builtin .len,args:=#[.tmp x],argTypes:=#[t] },ty,pos,aft,none⟩ :: rest) k L C:=o_p (Y4 (x:=.tmp x) rfl hx h1.h) hd next
theorem oLd {w0 : World} {M : List Nat} {As As' : List HA} {t x b tot i : Nat} {bt : TypeId} {cs : List Value} {v : Value} [h1 : TSz X.P t 1 false] (next : O X ops rest k ((d,v) :: L) (HS w0 M As)) (hx : Qb.get L x = some (.pointer (some ⟨b,i,none⟩)):=by rfl) (hp : QD As (.blk b bt tot cs) As':=by repeat (first | exact .here | apply QD.there)) (hv : cs[i]? = some v:=by rfl) (hd : Nat.blt d X.n = true:=by rfl) :
  O X ops (⟨some d,.load t (.tmp x),ty,pos,aft,none⟩ :: rest) k L (HS w0 M As):=o_q (Qci rfl hx h1.h hp hv) hd next
theorem oLn {w0 : World} {M : List Nat} {As As' : List HA} {t x b tot i n : Nat} {bt : TypeId} {cs : List Value} [h1 : TSz X.P t n true] (next : O X ops rest k ((d,.agg (cut cs i n).toArray) :: L) (HS w0 M As)) (hx : Qb.get L x = some (.pointer (some ⟨b,i,none⟩)):=by rfl) (hp : QD As (.blk b bt tot cs) As':=by repeat (first | exact .here | apply QD.there)) (hl : Nat.ble (i + n) cs.length = true:=by rfl) (hd : Nat.blt d X.n = true:=by rfl) :
  O X ops (⟨some d,.load t (.tmp x),ty,pos,aft,none⟩ :: rest) k L (HS w0 M As):=o_q (Qc7 rfl hx h1.h hp hl) hd next
end
section
variable {X : Ctx} {ops : Array Oper} {F : List Nat} {fuel : Nat} {listed : Array Bool} {k : List KI} {L : Qb} {d ty : Nat} {pos : String} {aft : Array Edge} {C B : World → Prop} {w0 : World} {M : List Nat} {As As' Bs : List HA}
theorem dFa (i : Nat) {st f x b o off ft sz : Nat} {ag : Bool} (next : D X ops F B fuel (listed.setIfInBounds i true) k ((d,.pointer (some ⟨b,o + off,none⟩)) :: L) C) (hi : ops[i]? = some ⟨some d,.fieldAddr st (.tmp x) f,ty,pos,aft,none⟩:=by rfl) (hx : Qb.get L x = some (.pointer (some ⟨b,o,none⟩)):=by rfl) (h1 : TFd X.P st f off ft:=by infer_instance) (h2 : TSz X.P ft sz ag:=by infer_instance) (hs : Nat.blt 0 sz = true:=by rfl) (hok : QJ ops listed i = true:=by kernel_rfl) (hF : F.all (fun f=>!Nat.beq f i) = true:=by rfl) (hd : Nat.blt d X.n = true:=by rfl) : D X ops F B (fuel + 1) listed k L C:=d_p i hi (ZW rfl hx h1.h h2.h hs) hok hF hd next
theorem dFo {j : Nat} {want c : Bool} (i dj : Nat) {st f x b o off ft sz : Nat} {ag : Bool} (hw : c = want) (next : D X ops F B fuel (listed.setIfInBounds i true) k ((d,.pointer (some ⟨b,o + off,none⟩)) :: L) C) (hi : ops[i]? = some ⟨some d,.fieldAddr st (.tmp x) f,ty,pos,aft,some (j,want)⟩:=by rfl) (hj : (ops[j]?).bind (·.dst) = some dj:=by rfl) (hb : Qb.get L dj = some (.bool c):=by rfl) (hx : Qb.get L x = some (.pointer (some ⟨b,o,none⟩)):=by rfl) (h1 : TFd X.P st f off ft:=by infer_instance) (h2 : TSz X.P ft sz ag:=by infer_instance) (hs : Nat.blt 0 sz = true:=by rfl) (hok : QJ ops listed i = true:=by kernel_rfl) (hF : F.all (fun f=>!Nat.beq f i) = true:=by rfl) (hd : Nat.blt d X.n = true:=by rfl) : D X ops F B (fuel + 1) listed k L C:=QkB i dj hi hj hb hw (ZW rfl hx h1.h h2.h hs) hok hF hd next
theorem dPo {j : Nat} {want c : Bool} {op : Op} {v : Value} (i dj : Nat) (hw : c = want) (next : D X ops F B fuel (listed.setIfInBounds i true) k ((d,v) :: L) C) (hi : ops[i]? = some ⟨some d,op,ty,pos,aft,some (j,want)⟩:=by rfl) (hj : (ops[j]?).bind (·.dst) = some dj:=by rfl) (hb : Qb.get L dj = some (.bool c):=by rfl) (h : OpP X.P ⟨some d,op,ty,pos,aft,none⟩ L v:=by exact ZU rfl) (hok : QJ ops listed i = true:=by kernel_rfl) (hF : F.all (fun f=>!Nat.beq f i) = true:=by rfl) (hd : Nat.blt d X.n = true:=by rfl) : D X ops F B (fuel + 1) listed k L C:=QkB i dj hi hj hb hw h hok hF hd next
theorem dOf {j : Nat} {want c : Bool} {op : Op} (i dj : Nat) (hw : c = !want) (next : D X ops F B fuel (listed.setIfInBounds i true) k ((d,undef) :: L) C) (hi : ops[i]? = some ⟨some d,op,ty,pos,aft,some (j,want)⟩:=by rfl) (hj : (ops[j]?).bind (·.dst) = some dj:=by rfl) (hb : Qb.get L dj = some (.bool c):=by rfl) (hok : QJ ops listed i = true:=by kernel_rfl) (hF : F.all (fun f=>!Nat.beq f i) = true:=by rfl) (hd : Nat.blt d X.n = true:=by rfl) : D X ops F B (fuel + 1) listed k L C:=Qsd i dj hi hj hb hw hok hF hd next
theorem dNi (next : S X k L (HS w0 M As)) (hB : ∀ w,HS w0 M As w → B w:=by (intro w h;first | exact h | exact h.ent aEt)) (hr : (Region.ready .any ops listed == []) = true:=by kernel_rfl) : D X ops F B 0 listed k L (HS w0 M As):=Qsi hr hB next
theorem dBa (next : D X ops F (HS w0 M As) fuel listed k L (HS w0 M As)) (hB : ∀ w,HS w0 M As w → B w:=by (intro w h;exact h.ent aEt)) : D X ops F B fuel listed k L (HS w0 M As):=Qs0 hB next
theorem dLd (i : Nat) (ps : List (List Nat)) {t x b tot o : Nat} {bt : TypeId} {cs : List Value} {v : Value} (next : D X ops F (HS w0 M Bs) fuel (listed.setIfInBounds i true) k ((d,v) :: L) C) (hi : ops[i]? = some ⟨some d,.load t (.tmp x),ty,pos,aft,none⟩:=by rfl) (hx : Qb.get L x = some (.pointer (some ⟨b,o,none⟩)):=by rfl) (h1 : TSz X.P t 1 false:=by infer_instance) (hp : QD Bs (.blk b bt tot cs) As':=by repeat (first | exact .here | apply QD.there)) (hv : cs[o]? = some v:=by rfl) (hok : QJ ops listed i = true:=by kernel_rfl) (hF : XH ops F i ps = true:=by kernel_rfl) (hn : Zo F listed = true:=by kernel_rfl) (hd : Nat.blt d X.n = true:=by rfl) : D X ops F (HS w0 M Bs) (fuel + 1) listed k L C:=d_q i ps hi (Qci rfl hx h1.h hp hv) hok hF hn hd next
theorem dLn (i : Nat) (ps : List (List Nat)) {t x b tot o n : Nat} {bt : TypeId} {cs : List Value} (next : D X ops F (HS w0 M Bs) fuel (listed.setIfInBounds i true) k ((d,.agg (cut cs o n).toArray) :: L) C) (hi : ops[i]? = some ⟨some d,.load t (.tmp x),ty,pos,aft,none⟩:=by rfl) (hx : Qb.get L x = some (.pointer (some ⟨b,o,none⟩)):=by rfl) (h1 : TSz X.P t n true:=by infer_instance) (hp : QD Bs (.blk b bt tot cs) As':=by repeat (first | exact .here | apply QD.there)) (hl : Nat.ble (o + n) cs.length = true:=by rfl) (hok : QJ ops listed i = true:=by kernel_rfl) (hF : XH ops F i ps = true:=by kernel_rfl) (hn : Zo F listed = true:=by kernel_rfl) (hd : Nat.blt d X.n = true:=by rfl) : D X ops F (HS w0 M Bs) (fuel + 1) listed k L C:=d_q i ps hi (Qc7 rfl hx h1.h hp hl) hok hF hn hd next
end
section
variable {X : Ctx} {ops : Array Oper} {F : List Nat} {fuel : Nat} {listed : Array Bool} {rest : List Oper} {k : List KI} {L : Qb} {d ty : Nat} {pos : String} {aft : Array Edge} {w0 : World} {M : List Nat} {As As' : List HA}
theorem oSt {t x b tot i n : Nat} {y : Operand} {bt : TypeId} {ag : Bool} {cs : List Value} {v : Value} [hs : TSz X.P t n ag] (next : O X ops rest k L (HS w0 M As')) (hx : Qb.get L x = some (.pointer (some ⟨b,i,none⟩)):=by rfl) (hy : ev L y = some v:=by rfl) (hn : v.cells.toList.length = n:=by rfl)
  (hp : Put As (.blk b bt tot cs) (.blk b bt tot (Qe cs i v.cells.toList)) As':=by repeat (first | exact .here | apply Put.there)) (hl : i + n ≤ cs.length:=by (simp only [Qd,List.length_set,List.length_cons,List.length_nil,List.length_map];omega)) (h1 : v.cells.toList.all (·.oneCell') = true:=by rfl) :
  O X ops (⟨none,.store t (.tmp x) y,ty,pos,aft,none⟩ :: rest) k L (HS w0 M As):=Qjq (X9 rfl hx hy hs.h hn hp hl h1) fun _ _=>next
theorem oAl {t : TypeId} {z : List Value} (next : ∀ b,True → O X ops rest k ((d,.pointer (some ⟨b,0,none⟩)) :: L) (HS w0 M (.blk b t z.length z :: As))) (hz : QL X.P t = some z) (hd : Nat.blt d X.n = true:=by rfl) : O X ops (⟨some d,.alloc t,ty,pos,aft,none⟩ :: rest) k L (HS w0 M As):=o_h (QbP rfl hz) hd next
theorem oBx {t : TypeId} {x : Operand} {v : Value} (next : ∀ b,True → O X ops rest k ((d,.pointer (some ⟨b,0,none⟩)) :: L) (HS w0 M (.blk b t v.cells.toList.length v.cells.toList :: As))) (hx : ev L x = some v:=by rfl) (hd : Nat.blt d X.n = true:=by rfl) : O X ops (⟨some d,.box t x,ty,pos,aft,none⟩ :: rest) k L (HS w0 M As):=o_h (Qsl rfl hx) hd next
theorem oWr {v : Int} {C : World → Prop} (next : O X ops rest k ((d,.int .i64 v) :: L) C) (h1 : -9223372036854775808 ≤ v:=by omega) (h2 : v ≤ 9223372036854775807:=by omega) : O X ops rest k ((d,.int .i64 (IntKind.i64.wrap v)) :: L) C:=Qf (Qd6 h1 h2) next
theorem dWr {v : Int} {C B : World → Prop} (next : D X ops F B fuel listed k ((d,.int .i64 v) :: L) C) (h1 : -9223372036854775808 ≤ v:=by omega) (h2 : v ≤ 9223372036854775807:=by omega) : D X ops F B fuel listed k ((d,.int .i64 (IntKind.i64.wrap v)) :: L) C:=Q5 (Qd6 h1 h2) next
theorem dSt {B : World → Prop} (i : Nat) {t x b tot o n : Nat} {y : Operand} {bt : TypeId} {ag : Bool} {cs : List Value} {v : Value} (next : D X ops F B fuel (listed.setIfInBounds i true) k L (HS w0 M As')) (hi : ops[i]? = some ⟨none,.store t (.tmp x) y,ty,pos,aft,none⟩:=by rfl) (hx : Qb.get L x = some (.pointer (some ⟨b,o,none⟩)):=by rfl) (hy : ev L y = some v:=by rfl) (hs : TSz X.P t n ag:=by infer_instance) (hn : v.cells.toList.length = n:=by rfl)
  (hp : Put As (.blk b bt tot cs) (.blk b bt tot (Qe cs o v.cells.toList)) As':=by repeat (first | exact .here | apply Put.there)) (hl : o + n ≤ cs.length) (h1 : v.cells.toList.all (·.oneCell') = true:=by rfl) (hr : (Region.ready .any ops listed == [i]) = true:=by kernel_rfl) (hB : ∀ w,HS w0 M As w → B w:=by (intro w h;exact h.ent aEt)) :
  D X ops F B (fuel + 1) listed k L (HS w0 M As):=QfV i hi (X9 rfl hx hy hs.h hn hp hl h1) hr hB fun _ _=>next
theorem dTu {B : World → Prop} (F' : List Nat) (next : D X ops F' (HS w0 M As) fuel listed k L (HS w0 M As)) (hf : F.any (fun f=>listed.getD f false) = true:=by kernel_rfl) : D X ops F B fuel listed k L (HS w0 M As):=Qt6 F' hf next
end
section
variable {X : Ctx} {ops : Array Oper} {F : List Nat} {fuel : Nat} {listed : Array Bool} {k : List KI} {L : Qb} {d ty : Nat} {pos : String} {aft : Array Edge} {op : Op} {w0 : World} {M : List Nat} {As Bs : List HA}
theorem dQ {C : World → Prop} {v : Value} (i : Nat) (ps : List (List Nat)) (hi : ops[i]? = some ⟨some d,op,ty,pos,aft,none⟩) (h : OpQ X.P ⟨some d,op,ty,pos,aft,none⟩ L (HS w0 M Bs) v) (next : D X ops F (HS w0 M Bs) fuel (listed.setIfInBounds i true) k ((d,v) :: L) C) (hok : QJ ops listed i = true:=by kernel_rfl) (hF : XH ops F i ps = true:=by kernel_rfl) (hn : Zo F listed = true:=by kernel_rfl) (hd : Nat.blt d X.n = true:=by rfl) : D X ops F (HS w0 M Bs) (fuel + 1) listed k L C:=d_q i ps hi h hok hF hn hd next
theorem dV {C : World → Prop} {B : World → Prop} {v : Value} (i : Nat) (hi : ops[i]? = some ⟨some d,op,ty,pos,aft,none⟩) (h : OpP X.P ⟨some d,op,ty,pos,aft,none⟩ L v) (next : D X ops F B fuel (listed.setIfInBounds i true) k ((d,v) :: L) C) (hok : QJ ops listed i = true:=by kernel_rfl) (hF : F.all (fun f=>!Nat.beq f i) = true:=by rfl) (hd : Nat.blt d X.n = true:=by rfl) : D X ops F B (fuel + 1) listed k L C:=d_p i hi h hok hF hd next
theorem dH {B : World → Prop} {G : Type} {V : G → Value} {Fg : G → Prop} {C' : G → World → Prop} (i : Nat) (hi : ops[i]? = some ⟨some d,op,ty,pos,aft,none⟩) (h : OpH X.P ⟨some d,op,ty,pos,aft,none⟩ L (HS w0 M As) V Fg C') (next : ∀ g,Fg g → D X ops F B fuel (listed.setIfInBounds i true) k ((d,V g) :: L) (C' g)) (hr : (Region.ready .any ops listed == [i]) = true:=by kernel_rfl) (hB : ∀ w,HS w0 M As w → B w:=by (intro w h;exact h.ent aEt)) (hd : Nat.blt d X.n = true:=by rfl) : D X ops F B (fuel + 1) listed k L (HS w0 M As):=d_h i hi h hr hB hd next
theorem dVo {C : World → Prop} {B : World → Prop} {v : Value} {j : Nat} {want b : Bool} (i dj : Nat) (hw : b = want) (hi : ops[i]? = some ⟨some d,op,ty,pos,aft,some (j,want)⟩) (hj : (ops[j]?).bind (·.dst) = some dj) (hb : Qb.get L dj = some (.bool b)) (h : OpP X.P ⟨some d,op,ty,pos,aft,none⟩ L v) (next : D X ops F B fuel (listed.setIfInBounds i true) k ((d,v) :: L) C) (hok : QJ ops listed i = true:=by kernel_rfl) (hF : F.all (fun f=>!Nat.beq f i) = true:=by rfl) (hd : Nat.blt d X.n = true:=by rfl) : D X ops F B (fuel + 1) listed k L C:=QkB i dj hi hj hb hw h hok hF hd next
theorem dQo {C : World → Prop} {v : Value} {j : Nat} {want b : Bool} (i dj : Nat) (ps : List (List Nat)) (hw : b = want) (hi : ops[i]? = some ⟨some d,op,ty,pos,aft,some (j,want)⟩) (hj : (ops[j]?).bind (·.dst) = some dj) (hb : Qb.get L dj = some (.bool b)) (h : OpQ X.P ⟨some d,op,ty,pos,aft,none⟩ L (HS w0 M Bs) v) (next : D X ops F (HS w0 M Bs) fuel (listed.setIfInBounds i true) k ((d,v) :: L) C) (hok : QJ ops listed i = true:=by kernel_rfl) (hF : XH ops F i ps = true:=by kernel_rfl) (hn : Zo F listed = true:=by kernel_rfl) (hd : Nat.blt d X.n = true:=by rfl) : D X ops F (HS w0 M Bs) (fuel + 1) listed k L C:=Qsj i dj ps hi hj hb hw h hok hF hn hd next
theorem rT {t : Nat} {v : Value} (hr : X.fn.results = [ResultVar.tmp t].toArray) (hv : Qb.get L t = some v) (h : ∀ w,HS w0 M As w → X.R (.returned (Xd [v])) w) (hrd : X.rd = none:=by rfl) (hdf : X.df = []:=by rfl) : S X (.c .ret :: k) L (HS w0 M As):=Qs hr (.tmp hv .nil) h hrd hdf
end
theorem dT {p : Prop} [Decidable p] : (decide p = true) = p:=decide_eq_true_eq
theorem dN {p : Prop} [Decidable p] : decide p = false ↔ ¬p:=decide_eq_false_iff_not
class BP (b : Bool) (p n : outParam Prop) : Prop where
 t : b = true → p
 f : b = false → n
instance (priority:=low) bp0 (b : Bool) : BP b (b = true) (b = false):=⟨id,id⟩
instance bpD (p : Prop) [Decidable p] : BP (decide p) p (¬ p):=⟨of_decide_eq_true,of_decide_eq_false⟩
instance bpN (b : Bool) (p n : Prop) [h : BP b p n] : BP (!b) n p:=⟨fun h9=>h.f (by simpa using h9),fun h9=>h.t (by simpa using h9)⟩
instance bpA (a b : Bool) (p n p' n' : Prop) [h : BP a p n] [h' : BP b p' n'] : BP (a && b) (p ∧ p') (n ∨ n'):=⟨fun h9=>⟨h.t (by simp at h9;exact h9.1),h'.t (by simp at h9;exact h9.2)⟩,fun h9=>by cases a with
 | true=>exact .inr (h'.f (by simpa using h9))
 | false=>exact .inl (h.f rfl)⟩
instance bpO (a b : Bool) (p n p' n' : Prop) [h : BP a p n] [h' : BP b p' n'] : BP (a || b) (p ∨ p') (n ∧ n'):=⟨fun h9=>by cases a with
 | true=>exact .inl (h.t rfl)
 | false=>exact .inr (h'.t (by simpa using h9)),fun h9=>⟨h.f (by simp at h9;exact h9.1),h'.f (by simp at h9;exact h9.2)⟩⟩
class TFn (P : Program) (f : Nat) : Prop where h : QM P f = true
section
variable {X : Ctx} {k : List KI} {L : Qb} {C : World → Prop}
theorem sCd {c : Operand} {x y : Code} {b : Bool} {p n : Prop} (hc : ev L c = some (.bool b)) [hB : BP b p n] (ht : p → S X (.c x :: k) L C) (hf : n → S X (.c y :: k) L C) : S X (.c (.cond c x y) :: k) L C:=Qe4 hc (fun h=>ht (hB.t h)) fun h=>hf (hB.f h)
variable {ops : Array Oper} {rest : List Oper} {d ty : Nat} {pos : String} {aft : Array Edge} {op : Op}
theorem YH (m dj dp : Nat) {b c : Bool} {p n : Prop} {l : List Oper} (hb : Qb.get L dj = some (.bool b)) [hB : BP b p n]
  (h1 : b = true → p → O X ops (l.take m) (.join (At X.n X.df (fun _ : Unit=>(dp,.bool c) :: L) (fun _=>C)) :: k) L C)
  (h0 : b = false → n → O X ops (l.take m) (.join (At X.n X.df (fun _ : Unit=>(dp,.bool false) :: L) (fun _=>C)) :: k) L C)
  (h2 : O X ops (l.drop m) k ((dp,.bool (b && c)) :: L) C) : O X ops l k L C:=Qvv m dj dp b c hb (fun h=>h1 h (hB.t h)) (fun h=>h0 h (hB.f h)) h2
theorem oOr (m dj dp : Nat) {b c : Bool} {p n : Prop} {l : List Oper} (hb : Qb.get L dj = some (.bool b)) [hB : BP b p n]
  (h1 : b = false → n → O X ops (l.take m) (.join (At X.n X.df (fun _ : Unit=>(dp,.bool c) :: L) (fun _=>C)) :: k) L C)
  (h0 : b = true → p → O X ops (l.take m) (.join (At X.n X.df (fun _ : Unit=>(dp,.bool true) :: L) (fun _=>C)) :: k) L C)
  (h2 : O X ops (l.drop m) k ((dp,.bool (b || c)) :: L) C) : O X ops l k L C:=o_or m dj dp b c hb (fun h=>h1 h (hB.f h)) (fun h=>h0 h (hB.t h)) h2
theorem oNo {j dj : Nat} {want b : Bool} {dst : Option Nat} (next : O X ops (⟨dst,op,ty,pos,aft,none⟩ :: rest) k L C) (hj : (ops[j]?).bind (·.dst) = some dj:=by rfl) (hs : Qb.get L dj = some (.bool b):=by rfl) (hb : b = want:=by assumption) : O X ops (⟨dst,op,ty,pos,aft,some (j,want)⟩ :: rest) k L C:=o_on dj b hj hs hb next
theorem oFt {j dj : Nat} {b : Bool} (next : O X ops rest k ((d,undef) :: L) C) (hj : (ops[j]?).bind (·.dst) = some dj:=by rfl) (hs : Qb.get L dj = some (.bool b):=by rfl) (hb : b = false:=by assumption) (hd : Nat.blt d X.n = true:=by rfl) : O X ops (⟨some d,op,ty,pos,aft,some (j,true)⟩ :: rest) k L C:=Qpt dj b hj hs hb hd next
theorem oFf {j dj : Nat} {b : Bool} (next : O X ops rest k ((d,undef) :: L) C) (hj : (ops[j]?).bind (·.dst) = some dj:=by rfl) (hs : Qb.get L dj = some (.bool b):=by rfl) (hb : b = true:=by assumption) (hd : Nat.blt d X.n = true:=by rfl) : O X ops (⟨some d,op,ty,pos,aft,some (j,false)⟩ :: rest) k L C:=Qpt dj b hj hs hb hd next
theorem oFu {j dj : Nat} {want : Bool} (next : O X ops rest k ((d,undef) :: L) C) (hj : (ops[j]?).bind (·.dst) = some dj:=by rfl) (hs : Qb.get L dj = some undef:=by rfl) (hd : Nat.blt d X.n = true:=by rfl) : O X ops (⟨some d,op,ty,pos,aft,some (j,want)⟩ :: rest) k L C:=Qpy dj hj hs hd next
variable {w0 : World} {M : List Nat} {As : List HA}
theorem oCq {f : FuncId} {args : Array Operand} {vs : List Value} {v : Value} {at' : Array TypeId} (ha : evs L args.toList = some vs) [hf : TFn X.P f] (hc : ∀ w,HS w0 M As w → Calls X.P f vs.toArray w fun e w'=>e = .returned v ∧ Below w.heap.size w w') (next : O X ops rest k ((d,v) :: L) (HS w0 M As)) (hd : Nat.blt d X.n = true:=by rfl) :
  O X ops (⟨some d,.call { callee:=.value (.func f),args:=args,argTypes:=at' },ty,pos,aft,none⟩ :: rest) k L (HS w0 M As):=o_q (Q1 rfl hf.h ha hc) hd next
theorem oCh {G : Type} {V : G → Value} {F : G → Prop} {Bs : G → List HA} {f : FuncId} {args : Array Operand} {vs : List Value} {at' : Array TypeId} (ha : evs L args.toList = some vs) [hf : TFn X.P f] (hc : ∀ w,HS w0 M As w → Calls X.P f vs.toArray w fun e w'=>∃ g,e = .returned (V g) ∧ F g ∧ HS w [] (Bs g) w') (next : ∀ g,F g → O X ops rest k ((d,V g) :: L) (HS w0 M (Bs g ++ As))) (hd : Nat.blt d X.n = true:=by rfl) :
  O X ops (⟨some d,.call { callee:=.value (.func f),args:=args,argTypes:=at' },ty,pos,aft,none⟩ :: rest) k L (HS w0 M As):=o_h (Qff rfl hf.h ha hc) hd next
theorem sBk {α : Type} {LJ : α → Qb} {CJ : α → World → Prop} {I : α → Prop} {m : α → Nat} {x : α} (y : α) (hm : m y < m x:=by omega) (hI : I y:=by omega) (hL : Qba L (LJ y):=by repeat (first | exact QeU | refine ZA rfl ?_)) (hC : ∀ w,HS w0 M As w → CJ y w:=by (intro w h;exact h.ent aEt)) : S X (.join (Qo7 X.n X.df LJ CJ I m x) :: k) L (HS w0 M As):=Qu y hm hI hL hC
end
section
variable {X : Ctx} {k : List KI} {L : Qb} {C : World → Prop} {ops : Array Oper} {rest : List Oper} {d ty : Nat} {pos : String} {aft : Array Edge} {op : Op} {LJ : Unit → Qb} {CJ : Unit → World → Prop}
theorem o0t {j dj : Nat} {b : Bool} (next : O X ops rest k L C) (hj : (ops[j]?).bind (·.dst) = some dj:=by rfl) (hs : Qb.get L dj = some (.bool b):=by rfl) (hb : b = false:=by assumption) : O X ops (⟨none,op,ty,pos,aft,some (j,true)⟩ :: rest) k L C:=QjK dj b hj hs hb next
theorem o0f {j dj : Nat} {b : Bool} (next : O X ops rest k L C) (hj : (ops[j]?).bind (·.dst) = some dj:=by rfl) (hs : Qb.get L dj = some (.bool b):=by rfl) (hb : b = true:=by assumption) : O X ops (⟨none,op,ty,pos,aft,some (j,false)⟩ :: rest) k L C:=QjK dj b hj hs hb next
theorem oJt (m dp : Nat) {c x y : Operand} {b : Bool} {v : Value} (hc : ev L c = some (.bool b):=by rfl) (hb : b = true:=by assumption) (hx : ev L x = some v:=by rfl) (hd : Nat.blt dp X.n = true:=by rfl) (hJ : LJ () = (dp,v) :: ((dp,v) :: L).drop m:=by exact rfl) (hf : Qe5 ((dp,v) :: L) m = true:=by exact rfl) (hC : ∀ w,C w → CJ () w:=by (intro w h;first | exact h | exact h.ent aEt)) :
  O X ops [⟨some dp,.pick c x y,ty,pos,aft,none⟩] (.join (At X.n X.df LJ CJ) :: k) L C:=o_p (Zz rfl hc hb hx) hd (QkH (QlX m dp v hJ (by rw [Qb.get_cons,if_pos rfl]) hf hC))
theorem oJf (m dp : Nat) {c x y : Operand} {b : Bool} {v : Value} (hc : ev L c = some (.bool b):=by rfl) (hb : b = false:=by assumption) (hx : ev L y = some v:=by rfl) (hd : Nat.blt dp X.n = true:=by rfl) (hJ : LJ () = (dp,v) :: ((dp,v) :: L).drop m:=by exact rfl) (hf : Qe5 ((dp,v) :: L) m = true:=by exact rfl) (hC : ∀ w,C w → CJ () w:=by (intro w h;first | exact h | exact h.ent aEt)) :
  O X ops [⟨some dp,.pick c x y,ty,pos,aft,none⟩] (.join (At X.n X.df LJ CJ) :: k) L C:=o_p (ZC rfl hc hb hx) hd (QkH (QlX m dp v hJ (by rw [Qb.get_cons,if_pos rfl]) hf hC))
end
section
variable {P : Program} {f : FuncId} {fn : Func} {n : Nat} {c : Code} {w w1 : World} {R : Ending → World → Prop} {M : List Nat} {As : List HA}
theorem eN0 (hf : P.funcs[f]? = some fn) (hn : fn.ntmps = n) (h : S { P:=P,fn:=fn,n:=n,R:=R } [.c c] (Qcy 0 []) (HS w [] [])) (hb : fn.body = some c:=by rfl) (hl : Nat.ble 0 n = true:=by rfl) : Calls P f #[] w R:=enter (args:=[]) hf hn hb hl (HS.refl w []) h
theorem eN1 {x0 : Value} (hf : P.funcs[f]? = some fn) (hn : fn.ntmps = n) (h : S { P:=P,fn:=fn,n:=n,R:=R } [.c c] (Qcy 0 [x0]) (HS w [] [])) (hb : fn.body = some c:=by rfl) (hl : Nat.ble 1 n = true:=by rfl) : Calls P f #[x0] w R:=enter (args:=[x0]) hf hn hb hl (HS.refl w []) h
theorem eW1 {x0 : Value} (hf : P.funcs[f]? = some fn) (hn : fn.ntmps = n) (hw : HS w1 M As w) (h : S { P:=P,fn:=fn,n:=n,R:=R } [.c c] (Qcy 0 [x0]) (HS w1 M As)) (hb : fn.body = some c:=by rfl) (hl : Nat.ble 1 n = true:=by rfl) : Calls P f #[x0] w R:=enter (args:=[x0]) hf hn hb hl hw h
theorem eN2 {x0 : Value} {x1 : Value} (hf : P.funcs[f]? = some fn) (hn : fn.ntmps = n) (h : S { P:=P,fn:=fn,n:=n,R:=R } [.c c] (Qcy 0 [x0,x1]) (HS w [] [])) (hb : fn.body = some c:=by rfl) (hl : Nat.ble 2 n = true:=by rfl) : Calls P f #[x0,x1] w R:=enter (args:=[x0,x1]) hf hn hb hl (HS.refl w []) h
theorem eW2 {x0 : Value} {x1 : Value} (hf : P.funcs[f]? = some fn) (hn : fn.ntmps = n) (hw : HS w1 M As w) (h : S { P:=P,fn:=fn,n:=n,R:=R } [.c c] (Qcy 0 [x0,x1]) (HS w1 M As)) (hb : fn.body = some c:=by rfl) (hl : Nat.ble 2 n = true:=by rfl) : Calls P f #[x0,x1] w R:=enter (args:=[x0,x1]) hf hn hb hl hw h
theorem eN3 {x0 : Value} {x1 : Value} {x2 : Value} (hf : P.funcs[f]? = some fn) (hn : fn.ntmps = n) (h : S { P:=P,fn:=fn,n:=n,R:=R } [.c c] (Qcy 0 [x0,x1,x2]) (HS w [] [])) (hb : fn.body = some c:=by rfl) (hl : Nat.ble 3 n = true:=by rfl) : Calls P f #[x0,x1,x2] w R:=enter (args:=[x0,x1,x2]) hf hn hb hl (HS.refl w []) h
theorem eW3 {x0 : Value} {x1 : Value} {x2 : Value} (hf : P.funcs[f]? = some fn) (hn : fn.ntmps = n) (hw : HS w1 M As w) (h : S { P:=P,fn:=fn,n:=n,R:=R } [.c c] (Qcy 0 [x0,x1,x2]) (HS w1 M As)) (hb : fn.body = some c:=by rfl) (hl : Nat.ble 3 n = true:=by rfl) : Calls P f #[x0,x1,x2] w R:=enter (args:=[x0,x1,x2]) hf hn hb hl hw h
theorem eN4 {x0 : Value} {x1 : Value} {x2 : Value} {x3 : Value} (hf : P.funcs[f]? = some fn) (hn : fn.ntmps = n) (h : S { P:=P,fn:=fn,n:=n,R:=R } [.c c] (Qcy 0 [x0,x1,x2,x3]) (HS w [] [])) (hb : fn.body = some c:=by rfl) (hl : Nat.ble 4 n = true:=by rfl) : Calls P f #[x0,x1,x2,x3] w R:=enter (args:=[x0,x1,x2,x3]) hf hn hb hl (HS.refl w []) h
theorem eW4 {x0 : Value} {x1 : Value} {x2 : Value} {x3 : Value} (hf : P.funcs[f]? = some fn) (hn : fn.ntmps = n) (hw : HS w1 M As w) (h : S { P:=P,fn:=fn,n:=n,R:=R } [.c c] (Qcy 0 [x0,x1,x2,x3]) (HS w1 M As)) (hb : fn.body = some c:=by rfl) (hl : Nat.ble 4 n = true:=by rfl) : Calls P f #[x0,x1,x2,x3] w R:=enter (args:=[x0,x1,x2,x3]) hf hn hb hl hw h
theorem eW5 {x0 : Value} {x1 : Value} {x2 : Value} {x3 : Value} {x4 : Value} (hf : P.funcs[f]? = some fn) (hn : fn.ntmps = n) (hw : HS w1 M As w) (h : S { P:=P,fn:=fn,n:=n,R:=R } [.c c] (Qcy 0 [x0,x1,x2,x3,x4]) (HS w1 M As)) (hb : fn.body = some c:=by rfl) (hl : Nat.ble 5 n = true:=by rfl) : Calls P f #[x0,x1,x2,x3,x4] w R:=enter (args:=[x0,x1,x2,x3,x4]) hf hn hb hl hw h
end
theorem aU {p q : Prop} (hq : q) (h : (Unit → q) → p:=by (intro hq;first | refine QkG ?_ | refine Qi4 ?_ | refine QkH ?_ | refine Qng ?_ | refine QhN ?_ | refine Qso ?_ | refine oP ?_ | refine oNo ?_ | refine oFt ?_ | refine oFf ?_ | refine oFu ?_ | refine o0t ?_ | refine o0f ?_ | refine oFa ?_ | refine oLs ?_ | refine oLd ?_ | refine oLn ?_ | refine oSt ?_);exact hq ()) : p:=h fun _=>hq
theorem aT {p q : Prop} (hq : q) (h : (Unit → q) → p:=by (intro hq;refine aU ?_;try refine oWr ?_);exact hq ()) : p:=h fun _=>hq
theorem aU2 {p q : Prop} (hq : q) (h : (Unit → q) → p:=by (intro hq;iterate 2 refine aU ?_);exact hq ()) : p:=h fun _=>hq
theorem aT2 {p q : Prop} (hq : q) (h : (Unit → q) → p:=by (intro hq;(iterate 2 refine aU ?_);try refine oWr ?_);exact hq ()) : p:=h fun _=>hq
theorem aU3 {p q : Prop} (hq : q) (h : (Unit → q) → p:=by (intro hq;iterate 3 refine aU ?_);exact hq ()) : p:=h fun _=>hq
theorem aT3 {p q : Prop} (hq : q) (h : (Unit → q) → p:=by (intro hq;(iterate 3 refine aU ?_);try refine oWr ?_);exact hq ()) : p:=h fun _=>hq
theorem aU4 {p q : Prop} (hq : q) (h : (Unit → q) → p:=by (intro hq;iterate 4 refine aU ?_);exact hq ()) : p:=h fun _=>hq
theorem aT4 {p q : Prop} (hq : q) (h : (Unit → q) → p:=by (intro hq;(iterate 4 refine aU ?_);try refine oWr ?_);exact hq ()) : p:=h fun _=>hq
theorem aU5 {p q : Prop} (hq : q) (h : (Unit → q) → p:=by (intro hq;iterate 5 refine aU ?_);exact hq ()) : p:=h fun _=>hq
theorem aT5 {p q : Prop} (hq : q) (h : (Unit → q) → p:=by (intro hq;(iterate 5 refine aU ?_);try refine oWr ?_);exact hq ()) : p:=h fun _=>hq
theorem aU6 {p q : Prop} (hq : q) (h : (Unit → q) → p:=by (intro hq;iterate 6 refine aU ?_);exact hq ()) : p:=h fun _=>hq
theorem aT6 {p q : Prop} (hq : q) (h : (Unit → q) → p:=by (intro hq;(iterate 6 refine aU ?_);try refine oWr ?_);exact hq ()) : p:=h fun _=>hq
theorem aU7 {p q : Prop} (hq : q) (h : (Unit → q) → p:=by (intro hq;iterate 7 refine aU ?_);exact hq ()) : p:=h fun _=>hq
theorem aT7 {p q : Prop} (hq : q) (h : (Unit → q) → p:=by (intro hq;(iterate 7 refine aU ?_);try refine oWr ?_);exact hq ()) : p:=h fun _=>hq
theorem aU8 {p q : Prop} (hq : q) (h : (Unit → q) → p:=by (intro hq;iterate 8 refine aU ?_);exact hq ()) : p:=h fun _=>hq
theorem aT8 {p q : Prop} (hq : q) (h : (Unit → q) → p:=by (intro hq;(iterate 8 refine aU ?_);try refine oWr ?_);exact hq ()) : p:=h fun _=>hq
theorem aU9 {p q : Prop} (hq : q) (h : (Unit → q) → p:=by (intro hq;iterate 9 refine aU ?_);exact hq ()) : p:=h fun _=>hq
theorem aT9 {p q : Prop} (hq : q) (h : (Unit → q) → p:=by (intro hq;(iterate 9 refine aU ?_);try refine oWr ?_);exact hq ()) : p:=h fun _=>hq
theorem QaP {p q : Prop} (hq : q) (h : (Unit → q) → p:=by (intro hq;iterate 10 refine aU ?_);exact hq ()) : p:=h fun _=>hq
theorem Qj6 {p q : Prop} (hq : q) (h : (Unit → q) → p:=by (intro hq;(iterate 10 refine aU ?_);try refine oWr ?_);exact hq ()) : p:=h fun _=>hq
theorem QiV {p q : Prop} (hq : q) (h : (Unit → q) → p:=by (intro hq;iterate 11 refine aU ?_);exact hq ()) : p:=h fun _=>hq
theorem QaE {p q : Prop} (hq : q) (h : (Unit → q) → p:=by (intro hq;iterate 12 refine aU ?_);exact hq ()) : p:=h fun _=>hq
theorem Qfq {p q : Prop} (hq : q) (h : (Unit → q) → p:=by (intro hq;iterate 13 refine aU ?_);exact hq ()) : p:=h fun _=>hq
theorem aT13 {p q : Prop} (hq : q) (h : (Unit → q) → p:=by (intro hq;(iterate 13 refine aU ?_);try refine oWr ?_);exact hq ()) : p:=h fun _=>hq
theorem QgI {p q : Prop} (hq : q) (h : (Unit → q) → p:=by (intro hq;iterate 14 refine aU ?_);exact hq ()) : p:=h fun _=>hq
theorem aU15 {p q : Prop} (hq : q) (h : (Unit → q) → p:=by (intro hq;iterate 15 refine aU ?_);exact hq ()) : p:=h fun _=>hq
theorem aU16 {p q : Prop} (hq : q) (h : (Unit → q) → p:=by (intro hq;iterate 16 refine aU ?_);exact hq ()) : p:=h fun _=>hq
theorem aT17 {p q : Prop} (hq : q) (h : (Unit → q) → p:=by (intro hq;(iterate 17 refine aU ?_);try refine oWr ?_);exact hq ()) : p:=h fun _=>hq
end Gx
namespace Go.Proofs
open Go Go.RowKit Gx
instance : TSe Tryz.prog 28 3:=⟨Tryz.underlying28⟩
instance : TSe Tryz.prog 67 27:=⟨Tryz.underlying67⟩
instance : TSe Tryz.prog 139 5:=⟨Tryz.underlying139⟩
instance : TSe Tryz.prog 183 29:=⟨Tryz.underlying183⟩
end Go.Proofs
/- What chapter 13's texts stand on. -/
namespace Go.Proofs
open Go Go.RowKit Gx
attribute [local irreducible] Go.Calls Gx.S Gx.O Gx.D Gx.OpP Gx.OpQ Gx.OpH
set_option maxRecDepth 20000
theorem Zp : tsl Tryz.prog 183 = some (29,1,8):=by kernel_rfl
theorem QpY : tsz Tryz.prog 29 = some (1,false):=by kernel_rfl
instance : TFn Tryz.prog 182:=⟨by kernel_rfl⟩
instance : TFn Tryz.prog 167:=⟨by kernel_rfl⟩
instance : TFn Tryz.prog 124:=⟨by kernel_rfl⟩
theorem QcS : QL Tryz.prog 29 = some [.int .i64 0]:=by kernel_rfl
instance : TFn Tryz.prog 125:=⟨by kernel_rfl⟩
instance : TFn Tryz.prog 40:=⟨by kernel_rfl⟩
theorem Qn7 (w : World) (n lo hi : Int) : Calls Tryz.prog 182 #[.int .i64 n,.int .i64 lo,.int .i64 hi] w fun en w'=>en = .returned (.bool (decide (lo ≤ n) && decide (n ≤ hi))) ∧ Below w.heap.size w w':=by
 refine eN3 Tryz.func182 Tryz.ntmps182 ?_
 refine QaP ?_
 refine YH 4 10 14 rfl
  (fun hg1 _=>by
   refine aU6 ?_
   exact oJt 4 14)
  (fun hg3 _=>by
   refine aU3 ?_
   exact oJf 4 14) ?_
 refine aU2 ?_
 exact rT rfl rfl (fun w' h'=>⟨rfl,h'.below⟩)
theorem c40 (w : World) (n lo hi : Int) : Calls Tryz.prog 40 #[.int .i64 n,.int .i64 lo,.int .i64 hi] w fun en w'=>en = .returned (.bool (decide (lo ≤ n) && decide (n ≤ hi))) ∧ Below w.heap.size w w':=by
 refine eN3 Tryz.func40 Tryz.ntmps40 ?_
 refine QaP ?_
 refine YH 4 10 14 rfl
  (fun hg1 _=>by
   refine aU6 ?_
   exact oJt 4 14)
  (fun hg3 _=>by
   refine aU3 ?_
   exact oJf 4 14) ?_
 refine aU2 ?_
 exact rT rfl rfl (fun w' h'=>⟨rfl,h'.below⟩)
theorem Qs2 (w : World) (ok : Bool) (e : Int) : Calls Tryz.prog 167 #[.bool ok,.int .i64 e] w fun en w'=>en = .returned (.int .i64 (cond ok 0 e)) ∧ Below w.heap.size w w':=by
 refine eN2 Tryz.func167 Tryz.ntmps167 ?_
 refine aU9 ?_
 refine sCd rfl (fun h1=>?_) fun h1=>?_
 ·refine aU4 ?_
  exact rT rfl rfl (fun w' h'=>⟨by simp_all [Xd],h'.below⟩)
 refine aU6 ?_
 exact rT rfl rfl (fun w' h'=>⟨by simp_all [Xd],h'.below⟩)
theorem c125 (w : World) (a : Option Addr) (cap : Nat) (es : List Int) (hs : Sl w [] a 1 es.length (fun i=>[.int .i64 (es.getD i 0)])) (hm : es.length ≤ 1000) : Calls Tryz.prog 125 #[.slice a es.length cap] w fun en w'=>en = .returned (.int .i64 (Yk es)) ∧ Below w.heap.size w w':=by
 refine eN1 Tryz.func125 Tryz.ntmps125 ?_
 refine QaE ?_
 refine Qo (α:=Nat) [2,4,7,8,9,10,11,12,13,14] (fun k=>[(7,.int .i64 (k : Int))]) (fun _=>_) (fun k=>k ≤ es.length ∧ Yk es = Yk (es.drop k)) (fun k=>es.length - k) 0 ⟨by omega,rfl⟩ aSx (fun w h=>h) (fun k hk=>?_)
 obtain ⟨hk1,hk2⟩:=hk
 refine aU5 ?_
 refine sCd rfl (fun h1=>?_) fun h1=>?_
 ·refine aU5 ?_
  refine o_p (Qc rfl rfl rfl Zp _ rfl (by omega) (hs.some (by omega))) rfl ?_
  refine o_q (QG rfl rfl QpY (hs.rd (i:=k) (j:=0) (by omega) rfl)) rfl ?_
  refine aU7 ?_
  refine sCd rfl (fun h2=>?_) fun h2=>?_
  ·refine aU5 ?_
   exact rT rfl rfl (fun w' h'=>⟨by simp only [Xd];rw [hk2,YE (by omega),if_neg (by assumption)],h'.below⟩)
  refine aT4 ?_
  refine aU2 ?_
  exact Qu (k+1) (by omega) ⟨by omega,by rw [hk2,YE (by omega),if_pos (by assumption)]⟩ aSx (fun w h=>h)
 refine Qh rfl ?_
 refine aU4 ?_
 exact rT rfl rfl (fun w' h'=>⟨by simp only [Xd];rw [hk2,Qcp (by omega)],h'.below⟩)
theorem f125 {w0 w : World} {M : List Nat} {As As' : List HA} {b cap n : Nat} {t : TypeId} {tot : Nat} {cs : List Value} (h : HS w0 M As w) (hp : QD As (.blk b t tot cs) As') (hc : cs.all QgF = true) (hn : cs.length = n) (hl : n ≤ 1000) :
    Calls Tryz.prog 125 #[.slice (some ⟨b,0,none⟩) n cap] w fun en w'=>en = .returned (.int .i64 (Xx cs)) ∧ Below w.heap.size w w':=by
  subst hn;have:=c125 w (some ⟨b,0,none⟩) cap (cs.map Go.RowKit.intOf) (by simpa using h.sl_ints hp hc) (by simpa using hl);rw [QbG hc] at this
  simpa using this
theorem c124 (w : World) (n : Int) : Calls Tryz.prog 124 #[.int .i64 n] w fun en w'=>en = .returned (.int .i64 (Qw n)) ∧ Below w.heap.size w w':=by
 refine eN1 Tryz.func124 Tryz.ntmps124 ?_
 refine aU7 ?_
 refine oCq rfl (fun w1 h1=>Qn7 w1 _ _ _) ?_
 refine oCq rfl (fun w1 h1=>Qs2 w1 _ _) ?_
 refine aU2 ?_
 exact rT rfl rfl (fun w' h'=>⟨by simp only [Xd,Qw,cond_eq_ite,Bool.and_eq_true,decide_eq_true_eq],h'.below⟩)
theorem Qg4 {a b : Int} : Xx [.int .i64 a,.int .i64 b] = if a = 0 then b else a:=by
  simp only [Xx]
  grind
theorem c155 (w : World) (co mo rm : Int) : Calls Tryz.prog 155 #[.int .i64 co,.int .i64 mo,.int .i64 rm] w fun en w'=>en = .returned (.int .i64 (if Qw co = 0 then Zr mo rm else Qw co)) ∧ Below w.heap.size w w':=by
 refine eN3 Tryz.func155 Tryz.ntmps155 ?_
 refine aU7 ?_
 refine oCq rfl (fun w1 h1=>Qn7 w1 _ _ _) ?_
 refine aU ?_
 refine YH 6 10 16 rfl
  (fun hg1 _=>by
   refine aU5 ?_
   refine o_p (XL rfl rfl rfl (by omega) (by omega) (by omega)) rfl ?_
   refine aU3 ?_
   refine oCq rfl (fun w1 h1=>Qn7 w1 _ _ _) ?_
   exact oJt 6 16)
  (fun hg3 _=>by
   refine aU5 ?_
   exact oJf 6 16) ?_
 refine aU5 ?_
 refine oCq rfl (fun w1 h1=>c124 w1 _) ?_
 refine aU ?_
 refine oCq rfl (fun w1 h1=>Qs2 w1 _ _) ?_
 refine o_h (Qm (cs:=[_,_]) rfl rfl Zp QcS rfl rfl rfl) rfl (fun b5 _=>?_)
 refine oCq rfl (fun w1 h1=>f125 h1 aPk (by rfl) (by rfl) (by decide)) ?_
 refine aU2 ?_
 exact rT rfl rfl (fun w' h'=>⟨by simp only [Xd];rw [Qg4];simp only [Zr,cond_eq_ite,Bool.and_eq_true,decide_eq_true_eq],h'.below⟩)
theorem c96 (w : World) (n : Int) : Calls Tryz.prog 96 #[.int .i64 n] w fun en w'=>en = .returned (.int .i64 (Qw n)) ∧ Below w.heap.size w w':=by
 refine eN1 Tryz.func96 Tryz.ntmps96 ?_
 refine aU8 ?_
 refine oCq rfl (fun w1 h1=>c40 w1 _ _ _) ?_
 refine aU2 ?_
 refine sCd rfl (fun h1=>?_) fun h1=>?_
 ·have hz : Qw n = 15:=by have hq:=h1;unfold Qw;rw [if_neg (by first | omega | (simp at hq;omega))]
  refine aU4 ?_
  exact rT rfl rfl (fun w' h'=>⟨by rw [hz];rfl,h'.below⟩)
 have hz : Qw n = 0:=by have hq:=h1;unfold Qw;rw [if_pos (by first | omega | (simp at hq;omega))]
 refine aU5 ?_
 exact rT rfl rfl (fun w' h'=>⟨by rw [hz];rfl,h'.below⟩)
theorem c97 (w : World) (mo rm : Int) : Calls Tryz.prog 97 #[.int .i64 mo,.int .i64 rm] w fun en w'=>en = .returned (.int .i64 (Zr mo rm)) ∧ Below w.heap.size w w':=by
 refine eN2 Tryz.func97 Tryz.ntmps97 ?_
 refine aU8 ?_
 refine oCq rfl (fun w1 h1=>c40 w1 _ _ _) ?_
 refine aU2 ?_
 refine oOr 7 8 15 rfl
  (fun hg1 _=>by
   refine aU5 ?_
   refine o_p (XL rfl rfl rfl (by omega) (by omega) (by omega)) rfl ?_
   refine aU3 ?_
   refine oCq rfl (fun w1 h1=>c40 w1 _ _ _) ?_
   refine aU2 ?_
   exact oJf 7 15)
  (fun hg3 _=>by
   refine aU6 ?_
   exact oJt 7 15) ?_
 refine aU ?_
 refine sCd rfl (fun h5=>?_) fun h5=>?_
 ·have hz : Zr mo rm = 2:=by have hq:=h5;unfold Zr;rw [if_neg (by first | omega | (simp at hq;omega))]
  refine aU4 ?_
  exact rT rfl rfl (fun w' h'=>⟨by rw [hz];rfl,h'.below⟩)
 have hz : Zr mo rm = 0:=by have hq:=h5;unfold Zr;rw [if_pos (by first | omega | (simp at hq;omega))]
 refine aU5 ?_
 exact rT rfl rfl (fun w' h'=>⟨by rw [hz];rfl,h'.below⟩)
end Go.Proofs
namespace Go.Proofs
open Go Go.RowKit Gx
section
variable {W : World} {d : Nat}
end
end Go.Proofs
namespace Go.Proofs
open Go Go.RowKit Go.ChangeShapes Gx
section
variable {H : Type} {enc : TypeId × Value → H} {W : World}
end
end Go.Proofs
namespace Go.Proofs
open Go Go.RowKit Gx
attribute [local irreducible] Go.Calls Gx.S Gx.O Gx.D Gx.OpP Gx.OpQ Gx.OpH
set_option maxRecDepth 20000
theorem Zm : tki Tryz.prog 5 = some .u8:=by kernel_rfl
theorem Yf : tki Tryz.prog 3 = some .i64:=by kernel_rfl
instance : TFn Tryz.prog 151:=⟨by kernel_rfl⟩
theorem Qp4 (a b : Int) : Value.int .i64 (IntKind.i64.wrap ((if decide (b < a) = true then 1 else 0) - (if decide (a < b) = true then 1 else 0))) = Value.int .i64 (XE a b):=by
  unfold XE
  by_cases h1 : a < b
  · have h2 : ¬ b < a:=by omega
    simp only [h1,h2,decide_true,decide_false,Bool.false_eq_true,if_true,if_false];rfl
  · by_cases h2 : b < a
    · simp only [h1,h2,decide_true,decide_false,Bool.false_eq_true,if_true,if_false];rfl
    · simp only [h1,h2,decide_true,decide_false,Bool.false_eq_true,if_true,if_false];rfl
def QfX (c : Int) : Int:=if 97 ≤ c ∧ c ≤ 122 then c - 32 else c
theorem QeO (u : UInt8) : QfX (u.toNat : Int) = ((Qbc u).toNat : Int):=by
  have hu:=u.toNat_lt;unfold QfX Qbc
  by_cases h : 97 ≤ u ∧ u ≤ 122
  · have h2:=h;rw [UInt8.le_iff_toNat_le,UInt8.le_iff_toNat_le] at h2;have e97 : (97 : UInt8).toNat = 97:=rfl;have e122 : (122 : UInt8).toNat = 122:=rfl;rw [e97,e122] at h2;rw [if_pos h,if_pos (by omega),UInt8.toNat_sub_of_le _ _ (by rw [UInt8.le_iff_toNat_le];show 32 ≤ _;omega)];show (u.toNat : Int) - 32 = ((u.toNat - 32 : Nat) : Int);omega
  · have h2:=h;rw [UInt8.le_iff_toNat_le,UInt8.le_iff_toNat_le] at h2;have e97 : (97 : UInt8).toNat = 97:=rfl;have e122 : (122 : UInt8).toNat = 122:=rfl;rw [e97,e122] at h2;rw [if_neg h,if_neg (by omega)]
theorem c72 (w : World) (s : List UInt8) (at' c : Nat) (hm : s.length ≤ 1000000000) (hc : c ≤ 7) (hac : at' + c ≤ s.length) : Calls Tryz.prog 72 #[.string (bs s),.int .i64 (at' : Int),.int .i64 (c : Int)] w fun en w'=>en = .returned (.int .i64 (QaB s at' c)) ∧ Below w.heap.size w w':=by
 refine eN3 Tryz.func72 Tryz.ntmps72 ?_
 refine aT13 ?_
 refine aU3 ?_
 refine Qo (α:=Nat) [7,8,11,12,13,14,15,16,17,18,19,20,21,22,23] (fun j=>[(8,.int .i64 ((j : Int) - 1)),(7,.int .i64 (QaB s (at' + j) (c - j)))]) (fun _=>_) (fun j=>j ≤ c) (fun j=>j) c (Nat.le_refl _) (by rw [Nat.sub_self];exact aSx) (fun w h=>h) (fun j hj=>?_)
 refine aU6 ?_
 refine sCd rfl (fun h1=>?_) fun h1=>?_
 ·obtain ⟨i,rfl⟩ : ∃ i,j = i + 1:=⟨j - 1,by omega⟩
  have hst : QaB s (at' + i) (c - i) = at1 s (at' + i) + 256 * QaB s (at' + (i + 1)) (c - (i + 1)):=by rw [show c - i = (c - (i + 1)) + 1 by omega,QaB];rfl
  have hb1:=Qbi s (at' + i)
  have hn6:=Qtw s (at' + (i + 1)) (k:=c - (i + 1)) (by omega)
  have hb9:=(s.getD (at' + i) 0).toNat_lt
  refine aT6 ?_
  refine aT4 ?_
  refine Qf (show _ = Value.int .i64 ((at' + i : Nat) : Int) from by congr 1;omega) ?_
  refine o_p (Q0 rfl rfl rfl Tryz.underlying9 (at' + i) (by omega) (by omega)) rfl ?_
  refine o_p (Qg rfl rfl Zm Yf) rfl ?_
  try refine oWr ?_
  refine aT ?_
  refine Qf (show _ = Value.int .i64 (QaB s (at' + i) (c - i)) from by rw [hst];congr 1;show _ * 256 + at1 s (at' + i) = _;omega) ?_
  refine aT6 ?_
  refine aU2 ?_
  exact Qu i (by omega) (by omega) (by rw [show ((i : Int) - 1) = ((i + 1 : Nat) : Int) - 1 - 1 from by omega];exact aSx) (fun w h=>h)
 obtain rfl : j = 0:=by omega
 rw [Nat.add_zero,Nat.sub_zero]
 refine Qh rfl ?_
 refine aU5 ?_
 exact rT rfl rfl (fun w' h'=>⟨by rfl,h'.below⟩)
theorem Qt4 (w : World) (b : Bool) : Calls Tryz.prog 151 #[.bool b] w fun en w'=>en = .returned (.int .i64 (if b then 1 else 0)) ∧ Below w.heap.size w w':=by
 refine eN1 Tryz.func151 Tryz.ntmps151 ?_
 refine aU9 ?_
 refine sCd rfl (fun h1=>?_) fun h1=>?_
 ·refine aU4 ?_
  exact rT rfl rfl (fun w' h'=>⟨by simp_all [Xd],h'.below⟩)
 refine aU5 ?_
 exact rT rfl rfl (fun w' h'=>⟨by simp_all [Xd],h'.below⟩)
theorem c35 (w : World) (n : Int) : Calls Tryz.prog 35 #[.int .i64 n] w fun en w'=>en = .returned (.bool (decide (0 ≤ n) && decide (n ≤ 2147483647))) ∧ Below w.heap.size w w':=by
 refine eN1 Tryz.func35 Tryz.ntmps35 ?_
 refine aU7 ?_
 refine oCq rfl (fun w1 h1=>c40 w1 _ _ _) ?_
 refine aU2 ?_
 exact rT rfl rfl (fun w' h'=>⟨rfl,h'.below⟩)
theorem Qpe (w : World) (a b : Int) : Calls Tryz.prog 133 #[.int .i64 a,.int .i64 b] w fun en w'=>en = .returned (.int .i64 (XE a b)) ∧ Below w.heap.size w w':=by
 refine eN2 Tryz.func133 Tryz.ntmps133 ?_
 refine aU9 ?_
 refine oCq rfl (fun w1 h1=>Qt4 w1 _) ?_
 refine aU3 ?_
 refine oCq rfl (fun w1 h1=>Qt4 w1 _) ?_
 refine aU ?_
 refine Qf (show _ = Value.int .i64 (XE a b) from Qp4 a b) ?_
 refine aU2 ?_
 exact rT rfl rfl (fun w' h'=>⟨by rfl,h'.below⟩)
theorem c134 (w : World) (c : Int) (h0 : 0 ≤ c ∧ c ≤ 255) : Calls Tryz.prog 134 #[.int .i64 c] w fun en w'=>en = .returned (.int .i64 (QfX c)) ∧ Below w.heap.size w w':=by
 refine eN1 Tryz.func134 Tryz.ntmps134 ?_
 refine aU8 ?_
 refine oCq rfl (fun w1 h1=>c40 w1 _ _ _) ?_
 refine aU ?_
 refine sCd rfl (fun h1=>?_) fun h1=>?_
 ·have hz : QfX c = c - 97 + 65:=by have hq:=h1;unfold QfX;rw [if_pos (by first | exact hq | (simp at hq;omega))];omega
  refine aT4 ?_
  refine aT ?_
  refine aU2 ?_
  exact rT rfl rfl (fun w' h'=>⟨by rw [hz];rfl,h'.below⟩)
 have hz : QfX c = c:=by have hq:=h1;unfold QfX;rw [if_neg (by intro h9;first | exact hq h9 | (simp at hq;omega))]
 refine aU6 ?_
 exact rT rfl rfl (fun w' h'=>⟨by rw [hz];rfl,h'.below⟩)
theorem Qy : tsl Tryz.prog 139 = some (5,1,1):=by kernel_rfl
theorem Qdq : tsz Tryz.prog 5 = some (1,false):=by kernel_rfl
instance : TSz Tryz.prog 5 1 false:=⟨Qdq⟩
theorem XW : tki Tryz.prog 188 = some .u16:=by kernel_rfl
theorem QV : Tryz.prog.follows .mixedOrders = true:=by kernel_rfl
theorem Qp3 : QM Tryz.prog 268 = true:=by kernel_rfl
theorem YA : tki Tryz.prog 190 = some .u32:=by kernel_rfl
instance : TFn Tryz.prog 255:=⟨by kernel_rfl⟩
instance : TFn Tryz.prog 256:=⟨by kernel_rfl⟩
theorem QoH : Qua Tryz.prog 254:=⟨_,Tryz.func254,rfl,rfl,by kernel_rfl,by kernel_rfl⟩
instance : TFn Tryz.prog 226:=⟨by kernel_rfl⟩
theorem c268 (w : World) (a : Option Addr) (m cap : Nat) (x : List UInt8) (hs : Vl w a (x.map bv)) (hm : x.length = m) (h2 : 2 ≤ m) (hc : m ≤ cap) (hc9 : cap ≤ 9223372036854775807) : Calls Tryz.prog 268 #[.slice a m cap] w fun en w'=>en = .returned (.int .u16 (at2 x 0)) ∧ Below w.heap.size w w':=by
 refine eN1 Tryz.func268 Tryz.ntmps268 ?_
 refine aU5 ?_
 refine QF [] QV ?_
 refine dP 0 ?_
 refine dV 1 rfl (Qc rfl rfl rfl Qy 0 rfl (by omega) (hs.some (by rw [List.length_map];omega))) ?_
 refine dQ 2 [] rfl (QG rfl rfl Qdq ((hs.rd (i:=0) (ZO (l:=x) (k:=0) (by omega))))) ?_
 refine dV 3 rfl (Qg rfl rfl Zm XW) ?_
 refine dP 4 ?_
 refine dV 5 rfl (Qc rfl rfl rfl Qy 1 rfl (by omega) (hs.some (by rw [List.length_map];omega))) ?_
 refine dQ 6 [] rfl (QG rfl rfl Qdq ((hs.rd (i:=1) (ZO (l:=x) (k:=1) (by omega))))) ?_
 refine dV 7 rfl (Qg rfl rfl Zm XW) ?_
 refine dV 8 rfl (QfG rfl rfl rfl (by decide) 8 rfl) ?_
 refine dP 9 ?_
 refine dP 10 ?_
 refine dNi ?_
 exact rT rfl rfl (fun w' h'=>⟨by rw [← Qik];rfl,h'.below⟩)
theorem c255 (w : World) (a : Option Addr) (m cap : Nat) (x : List UInt8) (hs : Vl w a (x.map bv)) (hm : x.length = m) (h2 : 4 ≤ m) (hc : m ≤ cap) (hc9 : cap ≤ 9223372036854775807) : Calls Tryz.prog 255 #[.slice a m cap] w fun en w'=>en = .returned (.int .u32 (at4 x 0)) ∧ Below w.heap.size w w':=by
 have hx2:=Qae x 0
 have hx3:=Qae x 2
 refine eN1 Tryz.func255 Tryz.ntmps255 ?_
 refine aU5 ?_
 refine QF [] QV ?_
 refine dP 0 ?_
 refine dQ 1 [] rfl (Q1 rfl Qp3 rfl (fun w1 h1=>c268 w1 a m cap x (hs.later h1) hm (by omega) hc hc9)) ?_
 refine dV 2 rfl (Qg rfl rfl XW YA) ?_
 refine dP 3 ?_
 refine dV 4 rfl (Qp _ _ 2 m rfl rfl Qy ⟨_,_,rfl,rfl⟩ rfl (by omega) (by omega)) ?_
 refine dQ 5 [] rfl (Q1 rfl Qp3 rfl (fun w1 h1=>c268 w1 (Xy a cap 2 1) (m - 2) (cap - 2) (x.drop 2) (by rw [List.map_drop];exact (hs.later h1).drop (by rw [List.length_map];omega) (by omega)) (by rw [List.length_drop];omega) (by omega) (by omega) (by omega))) ?_
 refine dV 6 rfl (Qg rfl rfl XW YA) ?_
 refine dV 7 rfl (QfG rfl rfl rfl (by decide) 16 rfl) ?_
 refine dP 8 ?_
 refine dP 9 ?_
 refine dNi ?_
 exact rT rfl rfl (fun w' h'=>⟨by have h9:=QhZ (at2 x 0) (at2 (x.drop 2) 0) (Qae _ _) (Qae _ _);rw [Qap] at h9 ⊢;exact (congrArg Ending.returned h9),h'.below⟩)
theorem QtM (w : World) (s : List UInt8) (p : Nat) (hm : s.length ≤ 1000000) (hp : p + 4 ≤ s.length) : Calls Tryz.prog 227 #[.string (bs s),.int .i64 (p : Int)] w fun en w'=>en = .returned (.int .u32 (at4 s p)) ∧ Below w.heap.size w w':=by
 have h4:=Qg7 s p
 have hdl : (s.drop p).length = s.length - p:=List.length_drop
 refine eN2 Tryz.func227 Tryz.ntmps227 ?_
 refine aU8 ?_
 refine o_p (Yo p rfl rfl rfl Tryz.underlying9 rfl (by omega)) rfl ?_
 refine o_h (Z8 rfl rfl Tryz.underlying9 Tryz.underlying139 Tryz.underlying5 rfl (by simp only [maxLen];omega)) rfl (fun ⟨b1,c2⟩ ⟨h3,k4⟩=>?_)
 refine oCq rfl (fun w1 h1=>by have h9:=c255 w1 (some ⟨b1,0,none⟩) (s.drop p).length c2 (s.drop p) (h1.vl_blk aPk) rfl (by omega) (by assumption) (by have hq9 : c2 ≤ maxLen:=(by assumption);simp only [maxLen] at hq9;omega);rw [QfM,Nat.add_zero] at h9;exact h9) ?_
 refine aU2 ?_
 exact rT rfl rfl (fun w' h'=>⟨by rfl,h'.below⟩)
theorem c256 (w : World) (x : Int) : Calls Tryz.prog 256 #[.int .u32 x] w fun en w'=>en = .returned (.bool false) ∧ Below w.heap.size w w':=by
 refine eN1 Tryz.func256 Tryz.ntmps256 ?_
 refine QiV ?_
 exact rT rfl rfl (fun w' h'=>⟨by simp [Xd],h'.below⟩)
theorem c228 (w : World) (x y : Int) : Calls Tryz.prog 228 #[.int .u32 x,.int .u32 y] w fun en w'=>en = .returned (.int .i64 (XE x y)) ∧ Below w.heap.size w w':=by
 refine eN2 Tryz.func228 Tryz.ntmps228 ?_
 refine aU7 ?_
 refine oCq rfl (fun w1 h1=>c256 w1 _) ?_
 refine aU5 ?_
 refine oCq rfl (fun w1 h1=>c256 w1 _) ?_
 refine aU7 ?_
 refine sCd rfl (fun h1=>?_) fun h1=>?_
 ·exfalso;simp at h1
 refine aU6 ?_
 refine sCd rfl (fun h2=>?_) fun h2=>?_
 ·exfalso;simp at h2
 refine aU8 ?_
 refine sCd rfl (fun h3=>?_) fun h3=>?_
 ·have hz : XE x y = -1:=by have hq:=h3;unfold XE;rw [if_pos hq]
  refine aU4 ?_
  exact rT rfl rfl (fun w' h'=>⟨by rw [hz];rfl,h'.below⟩)
 refine aU8 ?_
 refine sCd rfl (fun h4=>?_) fun h4=>?_
 ·have hz : XE x y = 1:=by have hq:=h4;unfold XE;rw [if_neg (by omega),if_pos hq]
  refine aU4 ?_
  exact rT rfl rfl (fun w' h'=>⟨by rw [hz];rfl,h'.below⟩)
 have hz : XE x y = 0:=by have hq:=h4;unfold XE;rw [if_neg (by omega),if_neg hq]
 refine aU5 ?_
 exact rT rfl rfl (fun w' h'=>⟨by rw [hz];rfl,h'.below⟩)
theorem c226 (w : World) (a b : List UInt8) : Calls Tryz.prog 226 #[.string (bs a),.string (bs b)] w fun en w'=>en = .returned (.int .i64 (XC a b)) ∧ Below w.heap.size w w':=by
 refine eN2 Tryz.func226 Tryz.ntmps226 ?_
 refine aU8 ?_
 refine o_q (QdL rfl rfl rfl QoH) rfl ?_
 refine aU2 ?_
 exact rT rfl rfl (fun w' h'=>⟨by rfl,h'.below⟩)
theorem c184 (w : World) (a b : List UInt8) : Calls Tryz.prog 184 #[.string (bs a),.string (bs b)] w fun en w'=>en = .returned (.int .i64 (XC a b)) ∧ Below w.heap.size w w':=by
 refine eN2 Tryz.func184 Tryz.ntmps184 ?_
 refine aU8 ?_
 refine oCq rfl (fun w1 h1=>c226 w1 _ _) ?_
 refine aU2 ?_
 exact rT rfl rfl (fun w' h'=>⟨by rfl,h'.below⟩)
instance : TFn Tryz.prog 227:=⟨by kernel_rfl⟩
instance : TFn Tryz.prog 228:=⟨by kernel_rfl⟩
instance : TFn Tryz.prog 189:=⟨by kernel_rfl⟩
def QaI (s : List UInt8) (q : Nat) : Bool:=(List.range q).all fun i=>QdR s (4 * i)
theorem QmT {s : List UInt8} {q k : Nat} (hk : k < q) (h : 2147483647 < at4 s (4 * k)) : QaI s q = false:=by
  unfold QaI;rw [List.all_eq_false];exact ⟨k,List.mem_range.2 hk,by unfold QdR;simp;omega⟩
theorem Qi3 {s : List UInt8} {k : Nat} (h : QaI s k = true) (h2 : ¬ 2147483647 < at4 s (4 * k)) : QaI s (k + 1) = true:=by
  unfold QaI at h ⊢;rw [List.range_succ,List.all_append,h];unfold QdR;simp;omega
def Qbf (a b : List UInt8) : Nat → Nat → Int
  | 0,_=>0
  | f + 1,k=>if XE (at4 a (4 * k)) (at4 b (4 * k)) ≠ 0 then XE (at4 a (4 * k)) (at4 b (4 * k)) else Qbf a b f (k + 1)
theorem c189 (w : World) (s : List UInt8) (q : Nat) (hm : s.length ≤ 1000000) (hq : q ≤ 1000) : Calls Tryz.prog 189 #[.string (bs s),.int .i64 ((4 * q : Nat) : Int)] w fun en w'=>en = .returned (.bool (decide (s.length = 4 * q) && QaI s q)) ∧ Below w.heap.size w w':=by
 refine eN2 Tryz.func189 Tryz.ntmps189 ?_
 refine aU8 ?_
 refine o_p (Qj rfl rfl Tryz.underlying9) rfl ?_
 refine aU3 ?_
 refine sCd rfl (fun h1=>?_) fun h1=>?_
 ·have hne : ¬ s.length = 4 * q:=by have hq9:=h1;omega
  refine aU4 ?_
  exact rT rfl rfl (fun w' h'=>⟨by simp [Xd,hne],h'.below⟩)
 have heq : s.length = 4 * q:=by have hq9:=h1;omega
 refine aU7 ?_
 refine Qo (α:=Nat) [4,5,10,11,12,13,14,15,16,17,18] (fun k=>[(5,.int .i64 ((4 * k : Nat) : Int))]) (fun _=>_) (fun k=>k ≤ q ∧ QaI s k = true) (fun k=>q - k) 0 ⟨Nat.zero_le _,rfl⟩ aSx (fun w h=>h) (fun k hx=>?_)
 obtain ⟨hk1,hok⟩:=hx
 refine aU7 ?_
 refine sCd rfl (fun h2=>?_) fun h2=>?_
 ·have hk : k < q:=by omega
  refine aU7 ?_
  refine oCq rfl (fun w1 h1=>QtM w1 s (4 * k) (by omega) (by omega)) ?_
  refine aU2 ?_
  refine sCd rfl (fun h3=>?_) fun h3=>?_
  ·have hz:=QmT hk h3
   refine aU4 ?_
   exact rT rfl rfl (fun w' h'=>⟨by simp [Xd,hz],h'.below⟩)
  have hz:=Qi3 hok h3
  refine aT5 ?_
  refine aU2 ?_
  exact Qu (k + 1) (by omega) ⟨by omega,hz⟩ (by rw [show (((4 * k : Nat)) : Int) + 4 = ((4 * (k + 1) : Nat) : Int) from by omega];exact aSx) (fun w h=>h)
 obtain rfl : k = q:=by omega
 refine Qh rfl ?_
 refine aU4 ?_
 exact rT rfl rfl (fun w' h'=>⟨by simp [Xd,heq,hok],h'.below⟩)
theorem c190 (w : World) (a b : List UInt8) (q : Nat) (ha : a.length = 4 * q) (hb : b.length = 4 * q) (hq : q ≤ 1000) : Calls Tryz.prog 190 #[.string (bs a),.string (bs b)] w fun en w'=>en = .returned (.int .i64 (Qbf a b q 0)) ∧ Below w.heap.size w w':=by
 refine eN2 Tryz.func190 Tryz.ntmps190 ?_
 refine QaP ?_
 refine Qo (α:=Nat) [4,5,6,7,8,9,10,11,12,13,14,15,16,17,18,19,20,21,22] (fun k=>[(5,.int .i64 ((4 * k : Nat) : Int))]) (fun _=>_) (fun k=>k ≤ q ∧ Qbf a b q 0 = Qbf a b (q - k) k) (fun k=>q - k) 0 ⟨Nat.zero_le _,rfl⟩ aSx (fun w h=>h) (fun k hx=>?_)
 obtain ⟨hk1,hx2⟩:=hx
 refine aU5 ?_
 refine o_p (Qj rfl rfl Tryz.underlying9) rfl ?_
 refine aU2 ?_
 refine sCd rfl (fun h1=>?_) fun h1=>?_
 ·have hk : k < q:=by omega
  have hst : Qbf a b (q - k) k = if XE (at4 a (4 * k)) (at4 b (4 * k)) ≠ 0 then XE (at4 a (4 * k)) (at4 b (4 * k)) else Qbf a b (q - (k + 1)) (k + 1):=by rw [show q - k = (q - (k + 1)) + 1 by omega,Qbf]
  refine aU7 ?_
  refine oCq rfl (fun w1 h1=>QtM w1 a (4 * k) (by omega) (by omega)) ?_
  refine aU2 ?_
  refine oCq rfl (fun w1 h1=>QtM w1 b (4 * k) (by omega) (by omega)) ?_
  refine oCq rfl (fun w1 h1=>c228 w1 _ _) ?_
  refine aU7 ?_
  refine sCd rfl (fun h2=>?_) fun h2=>?_
  ·have hq9 : XE (at4 a (4 * k)) (at4 b (4 * k)) ≠ 0:=h2
   rw [hst,if_pos hq9] at hx2
   refine aU5 ?_
   exact rT rfl rfl (fun w' h'=>⟨by rw [hx2];rfl,h'.below⟩)
  have hq9 : ¬ XE (at4 a (4 * k)) (at4 b (4 * k)) ≠ 0:=by have hq8:=h2;simpa using hq8
  rw [hst,if_neg hq9] at hx2
  refine aT5 ?_
  refine aU2 ?_
  exact Qu (k + 1) (by omega) ⟨by omega,hx2⟩ (by rw [show (((4 * k : Nat)) : Int) + 4 = ((4 * (k + 1) : Nat) : Int) from by omega];exact aSx) (fun w h=>h)
 obtain rfl : k = q:=by omega
 rw [Nat.sub_self,Qbf] at hx2
 refine Qh rfl ?_
 refine aU4 ?_
 exact rT rfl rfl (fun w' h'=>⟨by rw [hx2];rfl,h'.below⟩)
theorem c188 (w : World) (s : List UInt8) (hm : s.length ≤ 1000000) : Calls Tryz.prog 188 #[.string (bs s)] w fun en w'=>en = .returned (.bool (Qz 2 s)) ∧ Below w.heap.size w w':=by
 refine eN1 Tryz.func188 Tryz.ntmps188 ?_
 refine aU7 ?_
 refine oCq rfl (fun w1 h1=>c189 w1 s 1 hm (by decide)) ?_
 refine aU2 ?_
 exact rT rfl rfl (fun w' h'=>⟨by simp [Xd,Qz,QaI,List.range_succ,List.range_zero],h'.below⟩)
theorem c191 (w : World) (s : List UInt8) (hm : s.length ≤ 1000000) : Calls Tryz.prog 191 #[.string (bs s)] w fun en w'=>en = .returned (.bool (Qz 3 s)) ∧ Below w.heap.size w w':=by
 refine eN1 Tryz.func191 Tryz.ntmps191 ?_
 refine aU7 ?_
 refine oCq rfl (fun w1 h1=>c189 w1 s 2 hm (by decide)) ?_
 refine aU2 ?_
 exact rT rfl rfl (fun w' h'=>⟨by simp [Xd,Qz,QaI,List.range_succ,List.range_zero],h'.below⟩)
theorem c183 (w : World) (s : List UInt8) : Calls Tryz.prog 183 #[.string (bs s)] w fun en w'=>en = .returned (.bool (Qz 0 s)) ∧ Below w.heap.size w w':=by
 refine eN1 Tryz.func183 Tryz.ntmps183 ?_
 refine aU7 ?_
 refine o_p (Qj rfl rfl Tryz.underlying9) rfl ?_
 refine oCq rfl (fun w1 h1=>Qn7 w1 _ _ _) ?_
 refine aU2 ?_
 exact rT rfl rfl (fun w' h'=>⟨by simp [Xd,Qz,Bool.decide_and];first | done | (congr 1 <;> simp <;> omega) | grind,h'.below⟩)
theorem c185 (w : World) (s : List UInt8) : Calls Tryz.prog 185 #[.string (bs s)] w fun en w'=>en = .returned (.bool (Qz 1 s)) ∧ Below w.heap.size w w':=by
 refine eN1 Tryz.func185 Tryz.ntmps185 ?_
 refine aU7 ?_
 refine o_p (Qj rfl rfl Tryz.underlying9) rfl ?_
 refine oCq rfl (fun w1 h1=>Qn7 w1 _ _ _) ?_
 refine aU2 ?_
 exact rT rfl rfl (fun w' h'=>⟨by simp [Xd,Qz,Bool.decide_and];first | done | (congr 1 <;> simp <;> omega) | grind,h'.below⟩)
theorem Qnm : QL Tryz.prog 181 = some [.nilFunc,.nilFunc,.nilFunc,.nilFunc,.nilFunc,.nilFunc,.nilFunc,.nilFunc]:=by kernel_rfl
theorem QgS : Y3 Tryz.prog 164 = some [(0,1),(1,1)]:=by kernel_rfl
theorem QgP : QL Tryz.prog 164 = some [.nilFunc,.nilFunc]:=by kernel_rfl
theorem QjQ : tar Tryz.prog 181 = some (4,164,2):=by kernel_rfl
theorem Qoj : tsz Tryz.prog 181 = some (8,true):=by kernel_rfl
instance : TSz Tryz.prog 181 8 true:=⟨Qoj⟩
instance : TFn Tryz.prog 127:=⟨by kernel_rfl⟩
theorem QpF : tsz Tryz.prog 164 = some (2,true):=by kernel_rfl
theorem Qoa : tfd Tryz.prog 164 0 = some (0,103):=by kernel_rfl
theorem Qt2 : tsz Tryz.prog 103 = some (1,false):=by kernel_rfl
def Qdw (co : Int) : Nat:=if co = 0 then 183 else if co = 1 then 185 else if co = 2 then 188 else 191
def Qdx (co : Int) : Nat:=if co = 0 then 184 else if co = 1 then 186 else 190
def Qai (f : Nat) : Value:=.func (.func f) #[] #[]
def ordV (co : Int) : Value:=.agg #[Qai (Qdw co),Qai (Qdx co)]
theorem c127 (w : World)  : Calls Tryz.prog 127 #[] w fun en w'=>en = .returned (.agg #[Qai (Qdw 0),Qai (Qdx 0),Qai (Qdw 1),Qai (Qdx 1),Qai (Qdw 2),Qai (Qdx 2),Qai (Qdw 3),Qai (Qdx 3)]) ∧ Below w.heap.size w w':=by
 refine eN0 Tryz.func127 Tryz.ntmps127 ?_
 refine aU2 ?_
 refine oAl (fun b1 _=>?_) Qnm
 refine aU3 ?_
 refine o_p (Q7 (cs:=[_,_]) rfl rfl QgS QgP rfl) rfl ?_
 refine o_p (Q7 (cs:=[_,_]) rfl rfl QgS QgP rfl) rfl ?_
 refine o_p (Q7 (cs:=[_,_]) rfl rfl QgS QgP rfl) rfl ?_
 refine o_p (Q7 (cs:=[_,_]) rfl rfl QgS QgP rfl) rfl ?_
 refine o_p (QdU (cs:=[_,_,_,_,_,_,_,_]) rfl rfl QjQ Qnm rfl) rfl ?_
 refine aU2 ?_
 exact Qs (rs:=[.cell 0 181]) rfl (.cell rfl Qoj aPk rfl (.nil)) (fun w' h'=>⟨by rfl,h'.below⟩)
theorem Qs1 (co : Int) : QM Tryz.prog (Qdw co) = true:=by
  unfold Qdw;split
  · kernel_rfl
  · split
    · kernel_rfl
    · split <;> kernel_rfl
theorem Qnf (w : World) (j : Nat) (s : List UInt8) (hj : j ≤ 3) (hm : s.length ≤ 1000000) : Calls Tryz.prog (Qdw (j : Int)) #[.string (bs s)] w fun en w'=>en = .returned (.bool (Qz (j : Int) s)) ∧ Below w.heap.size w w':=by
  match j,hj with
  | 0,_=>exact c183 w s
  | 1,_=>exact c185 w s
  | 2,_=>exact c188 w s hm
  | 3,_=>exact c191 w s hm
theorem Qiy (j : Nat) (hj : j ≤ 3) : Value.agg (cut [Qai (Qdw 0),Qai (Qdx 0),Qai (Qdw 1),Qai (Qdx 1),Qai (Qdw 2),Qai (Qdx 2),Qai (Qdw 3),Qai (Qdx 3)] (j * 2) 2).toArray = ordV (j : Int):=by
  match j,hj with
  | 0,_=>rfl
  | 1,_=>rfl
  | 2,_=>rfl
  | 3,_=>rfl
theorem c126 (w : World) (j : Nat) (s : List UInt8) (hj : j ≤ 3) (hm : s.length ≤ 1000000) : Calls Tryz.prog 126 #[.int .i64 (j : Int),.string (bs s)] w fun en w'=>en = .returned (.int .i64 (X8 (j : Int) s)) ∧ Below w.heap.size w w':=by
 refine eN2 Tryz.func126 Tryz.ntmps126 ?_
 refine aU6 ?_
 refine oCq rfl (fun w1 h1=>c127 w1) ?_
 refine aU ?_
 refine o_p (QeR rfl rfl rfl QjQ QpF j rfl (by omega)) rfl ?_
 refine Qf (Qiy j hj) ?_
 refine o_p (Qfn rfl rfl Qoa Qt2 rfl) rfl ?_
 refine aU ?_
 refine o_q (Yb rfl rfl (Qs1 _) rfl (fun w1 h1=>Qnf w1 j s hj hm)) rfl ?_
 refine oCq rfl (fun w1 h1=>Qs2 w1 _ _) ?_
 refine aU2 ?_
 exact rT rfl rfl (fun w' h'=>⟨by simp only [Xd,X8,cond_eq_ite],h'.below⟩)
instance : TFn Tryz.prog 187:=⟨by kernel_rfl⟩
instance : TFn Tryz.prog 184:=⟨by kernel_rfl⟩
theorem bset {L : List UInt8} {k : Nat} {x : UInt8} {v : Value} (h : k < L.length) (hv : v = bv x) : Qe (L.map bv) (k * 1) [v] = (L.set k x).map bv:=by
  subst hv;have h9:=QcR (vals:=byV) (sz:=1) (fun _=>rfl) L k 0 [bv x] (L.getD k 0) x (by rw [List.getElem?_eq_getElem h,List.getD_eq_getElem?_getD,List.getElem?_eq_getElem h];rfl) rfl (by simp);rw [Nat.add_zero] at h9;have e : ∀ M : List UInt8,M.flatMap byV = M.map bv:=fun M=>Qpf bv M;rw [e,e] at h9;exact h9
def QbW (s : List UInt8) (k : Nat) : List UInt8:=(s.map Qbc).take k ++ s.drop k
theorem Qbe {s : List UInt8} {k : Nat} (h : k ≤ s.length) : (QbW s k).length = s.length:=by simp [QbW];omega
theorem QiL {s : List UInt8} {k : Nat} (h : k < s.length) : (QbW s k).getD k 0 = s.getD k 0:=by
  unfold QbW;rw [List.getD_eq_getElem?_getD,List.getElem?_append_right (by simp;omega),List.getElem?_drop,List.getD_eq_getElem?_getD];congr 2;simp;omega
theorem Qh0 {s : List UInt8} {k : Nat} (h : k < s.length) : (QbW s k).set k (Qbc (s.getD k 0)) = QbW s (k + 1):=by
  unfold QbW;apply List.ext_getElem?;intro j;simp only [List.getElem?_set,List.getElem?_append,List.getElem?_take,List.getElem?_drop,List.length_append,List.length_take,List.length_map,List.length_drop,List.getElem?_map,List.getD_eq_getElem?_getD];have hk:=List.getElem?_eq_getElem h
  grind
theorem QsN (s : List UInt8) : QbW s 0 = s:=by simp [QbW]
theorem QnF (s : List UInt8) : QbW s s.length = s.map Qbc:=by
  unfold QbW;rw [List.drop_length,List.append_nil,List.take_of_length_le (by simp)]
theorem QmG {s : List UInt8} {k : Nat} (h : k < s.length) (hc : Qbc (s.getD k 0) = s.getD k 0) : QbW s k = QbW s (k + 1):=by
  rw [← Qh0 h,hc];apply List.ext_getElem?;intro j;rw [List.getElem?_set];split
  · rename_i e;subst e;rw [← QiL h,List.getD_eq_getElem?_getD];rw [if_pos (by rw [Qbe (by omega)];exact h),List.getElem?_eq_getElem (by rw [Qbe (by omega)];exact h)];rfl
  · rfl
theorem QoX {x : UInt8} (h : 97 ≤ x.toNat ∧ x.toNat ≤ 122) : Value.int .u8 (IntKind.u8.wrap (IntKind.u8.wrap ((x.toNat : Int) - 97) + 65)) = bv (Qbc x):=by
  have h2:=QeO x;unfold QfX at h2;rw [if_pos (by omega)] at h2;rw [show (x.toNat : Int) - 97 = ((x.toNat - 97 : Nat) : Int) by omega,QkQ _ (by omega),show ((x.toNat - 97 : Nat) : Int) + 65 = ((x.toNat - 32 : Nat) : Int) by omega,QkQ _ (by omega)];unfold bv;exact congrArg (Value.int .u8) (by omega)
theorem Qta {x : UInt8} (h : ¬ (97 ≤ x.toNat ∧ x.toNat ≤ 122)) : Qbc x = x:=by
  have h2:=QeO x;unfold QfX at h2;rw [if_neg (by omega)] at h2;exact UInt8.toNat_inj.1 (by omega)
theorem c187 (w : World) (s : List UInt8) (hm : s.length ≤ 1000000) : Calls Tryz.prog 187 #[.string (bs s)] w fun en w'=>en = .returned (.string (bs (s.map Qbc))) ∧ Below w.heap.size w w':=by
 refine eN1 Tryz.func187 Tryz.ntmps187 ?_
 refine aU7 ?_
 refine o_h (Z8 rfl rfl Tryz.underlying9 Tryz.underlying139 Tryz.underlying5 rfl (by simp only [maxLen];omega)) rfl (fun ⟨b1,c2⟩ ⟨h3,k4⟩=>?_)
 refine QaP ?_
 refine Qo (α:=Nat) [4,5,10,11,12,13,14,15,16,17,18,19,20,21,22,23,24,25,26,27] (fun k=>[(10,.int .i64 (k : Int))]) (fun k=>HS w [] [.blk b1 5 c2 ((QbW s k).map bv)]) (fun k=>k ≤ s.length) (fun k=>s.length - k) 0 (Nat.zero_le _) aSx (fun w h=>by rw [QsN];exact h.ent aEt) (fun k hk1=>?_)
 refine aU5 ?_
 refine sCd rfl (fun h5=>?_) fun h5=>?_
 ·have hk : k < s.length:=by omega
  have hb9:=(s.getD k 0).toNat_lt
  refine aU6 ?_
  refine o_p (Qc rfl rfl rfl Qy (k) (by omega) (by omega) rfl) rfl ?_
  refine o_q (XQ rfl rfl Qdq (fun w h=>by rw [Nat.zero_add];exact h.rd_blk (Mc:=[]) aPk (by rw [Nat.mul_one,ZO (by rw [Qbe hk1];exact hk),QiL hk]) (by simp))) rfl ?_
  refine aU8 ?_
  refine YH 3 17 20 rfl
   (fun hg6 _=>by
    refine aU4 ?_
    exact oJt 3 20)
   (fun hg8 _=>by
    refine aU2 ?_
    exact oJf 3 20) ?_
  refine aU ?_
  refine Zq (α:=Unit) [21,22,23,24,25,26] (fun _=>[]) (fun _=>HS w [] [.blk b1 5 c2 ((QbW s (k + 1)).map bv)]) (fun _=>True) ?_ ?_
  ·skip
   refine sCd rfl (fun h10=>?_) fun h10=>?_
   ·have hcc : 97 ≤ (s.getD k 0).toNat ∧ (s.getD k 0).toNat ≤ 122:=by have hq:=h10;omega
    refine aU6 ?_
    try (refine Qf (u8add _ _) ?_)
    refine Qf (QoX hcc) ?_
    refine o_p (Qc rfl rfl rfl Qy (k) (by omega) (by omega) rfl) rfl ?_
    refine Qf (show _ = Value.pointer (some ⟨b1,k * 1,none⟩) from by rw [Nat.zero_add]) ?_
    refine Qjq (X9 rfl rfl rfl Qdq rfl aPt (by rw [List.length_map,Qbe hk1];omega) rfl) (fun _ _=>?_)
    refine aU ?_
    exact QA () trivial aSx (fun w h=>by have h2:=HS.blk_to (b:=b1) h aPk (bset (L:=QbW s k) (x:=Qbc (s.getD k 0)) (by rw [Qbe hk1];exact hk) rfl);rw [Qh0 hk] at h2;exact h2.ent aEt)
   have hno : Qbc (s.getD k 0) = s.getD k 0:=Qta (by have hq:=h10;omega)
   refine aU ?_
   exact QA () trivial aSx (fun w h=>by rw [← QmG hk hno];exact h.ent aEt)
  intro _ _
  refine aT3 ?_
  refine aU2 ?_
  exact sBk (k + 1)
 obtain rfl : k = s.length:=by omega
 rw [QnF]
 refine Qh rfl ?_
 refine aU3 ?_
 refine o_q (Yr rfl rfl Tryz.underlying139 Tryz.underlying9 Tryz.underlying5 aPk (by simp [List.length_map]) (QaU _)) rfl ?_
 refine aU2 ?_
 exact rT rfl rfl (fun w' h'=>⟨by simp only [ZK];rfl,h'.below⟩)
theorem c186 (w : World) (a b : List UInt8) (ha : a.length ≤ 1000000) (hb : b.length ≤ 1000000) : Calls Tryz.prog 186 #[.string (bs a),.string (bs b)] w fun en w'=>en = .returned (.int .i64 (XC (a.map Qbc) (b.map Qbc))) ∧ Below w.heap.size w w':=by
 refine eN2 Tryz.func186 Tryz.ntmps186 ?_
 refine aU7 ?_
 refine oCq rfl (fun w1 h1=>c187 w1 a ha) ?_
 refine aU ?_
 refine oCq rfl (fun w1 h1=>c187 w1 b hb) ?_
 refine oCq rfl (fun w1 h1=>c184 w1 _ _) ?_
 refine aU2 ?_
 exact rT rfl rfl (fun w' h'=>⟨by rfl,h'.below⟩)
instance : TFn Tryz.prog 126:=⟨by kernel_rfl⟩
theorem Qox : tfd Tryz.prog 164 1 = some (1,162):=by kernel_rfl
theorem Quc : tsz Tryz.prog 162 = some (1,false):=by kernel_rfl
theorem QrK (a b : List UInt8) : Qbf a b 1 0 = Xo 2 a b:=by
  simp only [Qbf,Xo,Nat.mul_zero];split
  · rfl
  · rename_i h;simp only [ne_eq,Decidable.not_not] at h;rw [h];rfl
theorem QqX (a b : List UInt8) : Qbf a b 2 0 = Xo 3 a b:=by
  have e : Xo 3 a b = if XE (at4 a 0) (at4 b 0) ≠ 0 then XE (at4 a 0) (at4 b 0) else XE (at4 a 4) (at4 b 4):=rfl
  rw [e];show (if XE (at4 a 0) (at4 b 0) ≠ 0 then XE (at4 a 0) (at4 b 0) else if XE (at4 a 4) (at4 b 4) ≠ 0 then XE (at4 a 4) (at4 b 4) else 0) = _
  by_cases h : XE (at4 a 0) (at4 b 0) ≠ 0
  · rw [if_pos h,if_pos h]
  · rw [if_neg h,if_neg h];split
    · rfl
    · rename_i h2;simp only [ne_eq,Decidable.not_not] at h2;exact h2.symm
theorem Qed {s : List UInt8} (h : Qz 2 s = true) : s.length = 4:=by
  unfold Qz at h;simp at h;exact h.1
theorem Qek {s : List UInt8} (h : Qz 3 s = true) : s.length = 8:=by
  unfold Qz at h;simp at h;exact h.1
theorem QuD (co : Int) : QM Tryz.prog (Qdx co) = true:=by
  unfold Qdx;split
  · kernel_rfl
  · split <;> kernel_rfl
theorem Qm7 (w : World) (j : Nat) (a b : List UInt8) (hj : j ≤ 3) (hka : Qz (j : Int) a = true) (hkb : Qz (j : Int) b = true) (ha : a.length ≤ 1000000) (hb : b.length ≤ 1000000) : Calls Tryz.prog (Qdx (j : Int)) #[.string (bs a),.string (bs b)] w fun en w'=>en = .returned (.int .i64 (Xo (j : Int) a b)) ∧ Below w.heap.size w w':=by
  match j,hj with
  | 0,_=>exact c184 w a b
  | 1,_=>exact c186 w a b ha hb
  | 2,_=>
    have h:=c190 w a b 1 (Qed hka) (Qed hkb) (by decide);rw [QrK] at h;exact h
  | 3,_=>
    have h:=c190 w a b 2 (Qek hka) (Qek hkb) (by decide);rw [QqX] at h;exact h
theorem keyE_ok {co : Int} {k : List UInt8} (h : X8 co k = 0) : Qz co k = true:=by
  unfold X8 at h;split at h
  · assumption
  · cases h
def QfT (co : Int) (a b : List UInt8) : Int:=if Qw co = 0 then if X8 co a = 0 then X8 co b else X8 co a else Qw co
theorem QgH {co : Int} (h : Qw co = 0) : ∃ j : Nat,co = (j : Int) ∧ j ≤ 3:=by
  unfold Qw at h;split at h
  · exact ⟨co.toNat,by omega,by omega⟩
  · cases h
theorem c58 (w : World) (co : Int) (a b : List UInt8) (ha : a.length ≤ 1000000) (hb : b.length ≤ 1000000) : Calls Tryz.prog 58 #[.int .i64 co,.string (bs a),.string (bs b)] w fun en w'=>en = .returned (.tuple #[.int .i64 (if QfT co a b = 0 then Xo co a b else 0),.int .i64 (QfT co a b)]) ∧ Below w.heap.size w w':=by
 refine eN3 Tryz.func58 Tryz.ntmps58 ?_
 refine aU9 ?_
 refine oCq rfl (fun w1 h1=>c124 w1 _) ?_
 refine aU7 ?_
 refine sCd rfl (fun h1=>?_) fun h1=>?_
 ·have h0 : ¬ Qw co = 0:=h1
  have hz : QfT co a b = Qw co:=by unfold QfT;rw [if_neg h0]
  refine aU6 ?_
  exact Qs (rs:=[.tmp 6,.tmp 7]) rfl (.tmp rfl (.tmp rfl (.nil))) (fun w' h'=>⟨by rw [hz,if_neg h0];rfl,h'.below⟩)
 have h0 : Qw co = 0:=h1
 obtain ⟨j,rfl,hj⟩:=QgH h0
 have hz : QfT (j : Int) a b = Xx [.int .i64 (X8 (j : Int) a),.int .i64 (X8 (j : Int) b)]:=by rw [Qg4];unfold QfT;rw [if_pos h0]
 refine aU6 ?_
 refine oCq rfl (fun w1 h1=>c126 w1 j a hj ha) ?_
 refine aU2 ?_
 refine oCq rfl (fun w1 h1=>c126 w1 j b hj hb) ?_
 refine o_h (Qm (cs:=[_,_]) rfl rfl Zp QcS rfl rfl rfl) rfl (fun b2 _=>?_)
 refine oCq rfl (fun w1 h1=>f125 h1 aPk (by rfl) (by rfl) (by decide)) ?_
 refine aU7 ?_
 refine sCd rfl (fun h3=>?_) fun h3=>?_
 ·have h1 : ¬ Xx [.int .i64 (X8 (j : Int) a),.int .i64 (X8 (j : Int) b)] = 0:=h3
  refine aU6 ?_
  exact Qs (rs:=[.tmp 6,.tmp 7]) rfl (.tmp rfl (.tmp rfl (.nil))) (fun w' h'=>⟨by rw [hz,if_neg h1];rfl,h'.below⟩)
 have h1 : Xx [.int .i64 (X8 (j : Int) a),.int .i64 (X8 (j : Int) b)] = 0:=h3
 obtain ⟨hka,hkb⟩ : X8 (j : Int) a = 0 ∧ X8 (j : Int) b = 0:=by rw [Qg4] at h1;split at h1;exact ⟨by assumption,h1⟩;rename_i h9;exact absurd h1 h9
 refine aU3 ?_
 refine oCq rfl (fun w1 h1=>c127 w1) ?_
 refine aU ?_
 refine o_p (QeR rfl rfl rfl QjQ QpF j rfl (by omega)) rfl ?_
 refine Qf (Qiy j hj) ?_
 refine o_p (Qfn rfl rfl Qox Quc rfl) rfl ?_
 refine aU2 ?_
 refine o_q (Yb rfl rfl (QuD _) rfl (fun w1 h1=>Qm7 w1 j a b hj (keyE_ok hka) (keyE_ok hkb) ha hb)) rfl ?_
 refine aU3 ?_
 exact Qs (rs:=[.tmp 6,.tmp 7]) rfl (.tmp rfl (.tmp rfl (.nil))) (fun w' h'=>⟨by rw [hz,if_pos h1,h1];rfl,h'.below⟩)
instance : TFd Tryz.prog 27 0 0 9:=⟨by kernel_rfl⟩
theorem Qd4 : tsz Tryz.prog 9 = some (1,false):=by kernel_rfl
instance : TSz Tryz.prog 9 1 false:=⟨Qd4⟩
instance : TFd Tryz.prog 27 1 1 9:=⟨by kernel_rfl⟩
theorem QsL : QM Tryz.prog 72 = true:=by kernel_rfl
instance : TFn Tryz.prog 72:=⟨QsL⟩
instance : TFn Tryz.prog 35:=⟨by kernel_rfl⟩
theorem kok0 (s : List UInt8) : Qz ((0 : Nat) : Int) s = (decide ((1 : Int) ≤ (s.length : Int)) && decide ((s.length : Int) ≤ 40)):=by
  rw [Bool.eq_iff_iff];simp [Qz];omega
theorem kok1 (s : List UInt8) : Qz ((1 : Nat) : Int) s = (decide ((1 : Int) ≤ (s.length : Int)) && decide ((s.length : Int) ≤ 32)):=by
  rw [Bool.eq_iff_iff];simp [Qz];omega
theorem kok2 (s : List UInt8) : Qz ((2 : Nat) : Int) s = (decide ((s.length : Int) = 4) && (decide (0 ≤ at4 s 0) && decide (at4 s 0 ≤ 2147483647))):=by
  have:=Qg7 s 0;rw [Bool.eq_iff_iff];simp [Qz,QdR];omega
theorem kok3 (s : List UInt8) : Qz ((3 : Nat) : Int) s = (decide ((s.length : Int) = 8) && (decide (0 ≤ at4 s 0) && decide (at4 s 0 ≤ 2147483647)) && (decide (0 ≤ at4 s 4) && decide (at4 s 4 ≤ 2147483647))):=by
  have:=Qg7 s 0;have:=Qg7 s 4;rw [Bool.eq_iff_iff];simp [Qz,QdR];omega
theorem c17 (w : World) (j : Nat) (s : List UInt8) (hj : j ≤ 3) (hm : s.length ≤ 1000000) : Calls Tryz.prog 17 #[.int .i64 (j : Int),.string (bs s)] w fun en w'=>en = .returned (.int .i64 (X8 (j : Int) s)) ∧ Below w.heap.size w w':=by
 refine eN2 Tryz.func17 Tryz.ntmps17 ?_
 refine aU7 ?_
 refine o_p (Qj rfl rfl Tryz.underlying9) rfl ?_
 refine oCq rfl (fun w1 h1=>c40 w1 _ _ _) ?_
 refine Qfq ?_
 refine Zq (α:=Unit) [5,12,13,14,15,16,17,18,19,20,21,22,23,24,25,26,27,28,29,30,31,32,33,34,35,36,37,38,39] (fun _=>[(5,.bool (Qz (j : Int) s))]) (fun _=>HS w [] []) (fun _=>True) ?_ ?_
 ·skip
  refine sCd rfl (fun h1=>?_) fun h1=>?_
  ·obtain rfl : j = 1:=by have hq:=h1;omega
   refine aU2 ?_
   refine o_p (Qj rfl rfl Tryz.underlying9) rfl ?_
   refine oCq rfl (fun w1 h1=>c40 w1 _ _ _) ?_
   refine aU2 ?_
   exact QA () trivial (by rw [kok1];exact aSx) (fun w h=>h.ent aEt)
  have hn1 : ¬ (j : Int) = 1:=h1
  refine aU5 ?_
  refine sCd rfl (fun h2=>?_) fun h2=>?_
  ·obtain rfl : j = 2:=by have hq:=h2;omega
   refine aU2 ?_
   refine o_p (Qj rfl rfl Tryz.underlying9) rfl ?_
   refine aU2 ?_
   refine YH 4 20 24 rfl
    (fun hg3 _=>by
     refine aU3 ?_
     refine oCq rfl (fun w1 h1=>by have h9:=c72 w1 s 0 4 (by omega) (by omega) (by have hq:=hg3;first | omega | (simp at hq;omega));rw [YP] at h9;exact h9) ?_
     refine aU ?_
     refine oCq rfl (fun w1 h1=>c35 w1 _) ?_
     exact oJt 4 24)
    (fun hg5 _=>by
     refine aU3 ?_
     exact oJf 4 24) ?_
   refine aU2 ?_
   exact QA () trivial (by rw [kok2];exact aSx) (fun w h=>h.ent aEt)
  have hn2 : ¬ (j : Int) = 2:=h2
  refine aU5 ?_
  refine sCd rfl (fun h7=>?_) fun h7=>?_
  ·obtain rfl : j = 3:=by have hq:=h7;omega
   refine aU2 ?_
   refine o_p (Qj rfl rfl Tryz.underlying9) rfl ?_
   refine aU2 ?_
   refine YH 4 30 34 rfl
    (fun hg8 _=>by
     refine aU3 ?_
     refine oCq rfl (fun w1 h1=>by have h9:=c72 w1 s 0 4 (by omega) (by omega) (by have hq:=hg8;first | omega | (simp at hq;omega));rw [YP] at h9;exact h9) ?_
     refine aU ?_
     refine oCq rfl (fun w1 h1=>c35 w1 _) ?_
     exact oJt 4 34)
    (fun hg10 _=>by
     refine aU3 ?_
     exact oJf 4 34) ?_
   refine aU ?_
   refine YH 4 35 39 rfl
    (fun hg12 _=>by
     refine aU3 ?_
     refine oCq rfl (fun w1 h1=>by have h9:=c72 w1 s 4 4 (by omega) (by omega) (by have hq:=hg12;first | omega | (simp at hq;omega));rw [YP] at h9;exact h9) ?_
     refine aU ?_
     refine oCq rfl (fun w1 h1=>c35 w1 _) ?_
     exact oJt 4 39)
    (fun hg14 _=>by
     refine aU3 ?_
     exact oJf 4 39) ?_
   refine aU2 ?_
   exact QA () trivial (by rw [kok3];exact aSx) (fun w h=>h.ent aEt)
  have hn3 : ¬ (j : Int) = 3:=h7
  obtain rfl : j = 0:=by omega
  refine aU ?_
  exact QA () trivial (by rw [kok0];exact aSx) (fun w h=>h.ent aEt)
 intro _ _
 refine aU7 ?_
 refine sCd rfl (fun h16=>?_) fun h16=>?_
 ·have hz : X8 (j : Int) s = 3:=by have hq:=h16;unfold X8;rw [if_neg (by simpa using hq)]
  refine aU4 ?_
  exact rT rfl rfl (fun w' h'=>⟨by rw [hz];rfl,h'.below⟩)
 have hz : X8 (j : Int) s = 0:=by have hq:=h16;unfold X8;rw [if_pos (by simpa using hq)]
 refine aU5 ?_
 exact rT rfl rfl (fun w' h'=>⟨by rw [hz];rfl,h'.below⟩)
theorem QsE : QM Tryz.prog 17 = true:=by kernel_rfl
instance : TFn Tryz.prog 17:=⟨QsE⟩
instance : TFn Tryz.prog 133:=⟨by kernel_rfl⟩
instance : TFn Tryz.prog 134:=⟨by kernel_rfl⟩
def mpK (j : Int) (l : List UInt8) : List UInt8:=if j = 1 then l.map Qbc else l
theorem Z4 (j : Int) (l : List UInt8) : (mpK j l).length = l.length:=by unfold mpK;split <;> simp
theorem QrI {j : Nat} (h2 : ¬ (j : Int) = 2) (h3 : ¬ (j : Int) = 3) (a b : List UInt8) : Xo (j : Int) a b = XC (mpK (j : Int) a) (mpK (j : Int) b):=by
  unfold Xo mpK;rw [if_neg h2,if_neg h3];split <;> rfl
theorem Qmz {x y : List UInt8} {k : Nat} (hx : k < x.length) (hy : k < y.length) : XC (x.drop k) (y.drop k) = if XE ((x.getD k 0).toNat : Int) ((y.getD k 0).toNat : Int) ≠ 0 then XE ((x.getD k 0).toNat : Int) ((y.getD k 0).toNat : Int) else XC (x.drop (k + 1)) (y.drop (k + 1)):=by
  rw [List.drop_eq_getElem_cons hx,List.drop_eq_getElem_cons hy,List.getD_eq_getElem?_getD,List.getD_eq_getElem?_getD,List.getElem?_eq_getElem hx,List.getElem?_eq_getElem hy];simp only [XC,Option.getD_some,XE,UInt8.lt_iff_toNat_lt];split
  · rename_i h;rw [if_pos (by omega),if_pos (by omega)]
  · rename_i h;rw [if_neg (show ¬ ((x[k].toNat : Int) < y[k].toNat) by omega)];split
    · rename_i h2;rw [if_pos (by omega),if_pos (by omega)]
    · rename_i h2;rw [if_neg (by omega)]
theorem Qog {x y : List UInt8} {k : Nat} (hx : k ≤ x.length) (hy : k ≤ y.length) (h : ¬ (k < x.length ∧ k < y.length)) : XC (x.drop k) (y.drop k) = XE (x.length : Int) (y.length : Int):=by
  unfold XE;rcases Nat.lt_or_ge k x.length with h1 | h1
  · have e : y.drop k = []:=List.drop_of_length_le (by omega);rw [e,List.drop_eq_getElem_cons h1,if_neg (by omega),if_pos (by omega)];rfl
  · have e : x.drop k = []:=List.drop_of_length_le h1;rw [e];rcases Nat.lt_or_ge k y.length with h2 | h2
    · rw [List.drop_eq_getElem_cons h2,if_pos (by omega)];rfl
    · have e2 : y.drop k = []:=List.drop_of_length_le h2;rw [e2,if_neg (by omega),if_neg (by omega)];rfl
theorem QkL {a : List UInt8} {k : Nat} (h : k < a.length) : (((mpK 1 a).getD k 0).toNat : Int) = QfX ((a.getD k 0).toNat : Int):=by
  unfold mpK;rw [if_pos rfl,QeO,List.getD_eq_getElem?_getD,List.getElem?_map,List.getElem?_eq_getElem h,List.getD_eq_getElem?_getD,List.getElem?_eq_getElem h];rfl
theorem QoW {j : Int} (hj : ¬ j = 1) (a : List UInt8) : mpK j a = a:=by unfold mpK;rw [if_neg hj]
theorem c65 (w : World) (j : Nat) (a b : List UInt8) (hj : j ≤ 3) (hka : Qz (j : Int) a = true) (hkb : Qz (j : Int) b = true) (ha : a.length ≤ 1000000) (hb : b.length ≤ 1000000) : Calls Tryz.prog 65 #[.int .i64 (j : Int),.string (bs a),.string (bs b)] w fun en w'=>en = .returned (.int .i64 (Xo (j : Int) a b)) ∧ Below w.heap.size w w':=by
 refine eN3 Tryz.func65 Tryz.ntmps65 ?_
 refine aU15 ?_
 refine sCd rfl (fun h1=>?_) fun h1=>?_
 ·obtain rfl : j = 2:=by have hq:=h1;omega
  have hl1:=Qed hka
  have hl2:=Qed hkb
  have hz : Xo ((2 : Nat) : Int) a b = XE (at4 a 0) (at4 b 0):=rfl
  refine aU3 ?_
  refine oCq rfl (fun w1 h1=>by have h9:=c72 w1 a 0 4 (by omega) (by omega) (by omega);rw [YP] at h9;exact h9) ?_
  refine aU ?_
  refine oCq rfl (fun w1 h1=>by have h9:=c72 w1 b 0 4 (by omega) (by omega) (by omega);rw [YP] at h9;exact h9) ?_
  refine oCq rfl (fun w1 h1=>Qpe w1 _ _) ?_
  refine aU2 ?_
  exact rT rfl rfl (fun w' h'=>⟨by rw [hz];rfl,h'.below⟩)
 have hn2 : ¬ (j : Int) = 2:=h1
 refine aU5 ?_
 refine sCd rfl (fun h2=>?_) fun h2=>?_
 ·obtain rfl : j = 3:=by have hq:=h2;omega
  have hl1:=Qek hka
  have hl2:=Qek hkb
  have hz : Xo ((3 : Nat) : Int) a b = if XE (at4 a 0) (at4 b 0) ≠ 0 then XE (at4 a 0) (at4 b 0) else XE (at4 a 4) (at4 b 4):=rfl
  refine aU4 ?_
  refine oCq rfl (fun w1 h1=>by have h9:=c72 w1 a 0 4 (by omega) (by omega) (by omega);rw [YP] at h9;exact h9) ?_
  refine aU ?_
  refine oCq rfl (fun w1 h1=>by have h9:=c72 w1 b 0 4 (by omega) (by omega) (by omega);rw [YP] at h9;exact h9) ?_
  refine oCq rfl (fun w1 h1=>Qpe w1 _ _) ?_
  refine aU7 ?_
  refine sCd rfl (fun h3=>?_) fun h3=>?_
  ·have hq9 : XE (at4 a 0) (at4 b 0) ≠ 0:=h3
   rw [if_pos hq9] at hz
   refine aU5 ?_
   exact rT rfl rfl (fun w' h'=>⟨by rw [hz];rfl,h'.below⟩)
  have hq9 : ¬ XE (at4 a 0) (at4 b 0) ≠ 0:=by have hq8:=h3;simpa using hq8
  rw [if_neg hq9] at hz
  refine aU4 ?_
  refine oCq rfl (fun w1 h1=>by have h9:=c72 w1 a 4 4 (by omega) (by omega) (by omega);rw [YP] at h9;exact h9) ?_
  refine aU ?_
  refine oCq rfl (fun w1 h1=>by have h9:=c72 w1 b 4 4 (by omega) (by omega) (by omega);rw [YP] at h9;exact h9) ?_
  refine oCq rfl (fun w1 h1=>Qpe w1 _ _) ?_
  refine aU2 ?_
  exact rT rfl rfl (fun w' h'=>⟨by rw [hz];rfl,h'.below⟩)
 have hn3 : ¬ (j : Int) = 3:=h2
 have hmp:=QrI hn2 hn3 a b
 refine aU8 ?_
 refine Qo (α:=Nat) [6,8,9,10,11,35,36,37,38,39,40,41,42,43,44,45,46,47,48,49,50,51,52,53,54,55,56,57,58,59,60,61,62,63,64,65,66] (fun k=>[(8,.int .i64 (k : Int))]) (fun _=>_) (fun k=>k ≤ a.length ∧ k ≤ b.length ∧ XC (mpK (j : Int) a) (mpK (j : Int) b) = XC ((mpK (j : Int) a).drop k) ((mpK (j : Int) b).drop k)) (fun k=>a.length - k) 0 ⟨Nat.zero_le _,Nat.zero_le _,rfl⟩ aSx (fun w h=>h) (fun k hx=>?_)
 obtain ⟨hk1,hk2,hk3⟩:=hx
 refine aU5 ?_
 refine o_p (Qj rfl rfl Tryz.underlying9) rfl ?_
 refine aU2 ?_
 refine YH 5 39 44 rfl
  (fun hg4 _=>by
   refine aU5 ?_
   refine o_p (Qj rfl rfl Tryz.underlying9) rfl ?_
   refine aU2 ?_
   exact oJt 5 44)
  (fun hg6 _=>by
   refine aU4 ?_
   exact oJf 5 44) ?_
 refine aU ?_
 refine sCd rfl (fun h8=>?_) fun h8=>?_
 ·obtain ⟨hka1,hkb1⟩ : k < a.length ∧ k < b.length:=by have hq:=h8;omega
  have hb1:=(a.getD k 0).toNat_lt
  have hb2:=(b.getD k 0).toNat_lt
  have hst:=Qmz (x:=mpK (j : Int) a) (y:=mpK (j : Int) b) (k:=k) (by rw [Z4];exact hka1) (by rw [Z4];exact hkb1)
  refine aU4 ?_
  refine QF [] QV ?_
  refine dP 0 ?_
  refine dP 1 ?_
  refine dV 2 rfl (Q0 rfl rfl rfl Tryz.underlying9 (k) (by omega) (by omega)) ?_
  refine dV 3 rfl (Qg rfl rfl Zm Yf) ?_
  try refine dWr ?_
  refine dP 4 ?_
  refine dP 5 ?_
  refine dV 6 rfl (Q0 rfl rfl rfl Tryz.underlying9 (k) (by omega) (by omega)) ?_
  refine dV 7 rfl (Qg rfl rfl Zm Yf) ?_
  try refine dWr ?_
  refine dP 8 ?_
  refine dP 9 ?_
  refine dNi ?_
  refine aU6 ?_
  refine Qk (L':=[(0,_),(1,_),(2,_),(8,_),(9,_),(10,_),(12,_),(13,_),(14,_),(20,_),(21,_),(56,_)]) aSx (fun _ h=>h) ?_
  refine Zq (α:=Unit) [9,10,57,58,59,60] (fun _=>[(9,.int .i64 (((mpK (j : Int) a).getD k 0).toNat : Int)),(10,.int .i64 (((mpK (j : Int) b).getD k 0).toNat : Int))]) (fun _=>HS w [] []) (fun _=>True) ?_ ?_
  ·skip
   refine sCd rfl (fun h9=>?_) fun h9=>?_
   ·obtain rfl : j = 1:=by have hq:=h9;omega
    refine aU2 ?_
    refine oCq rfl (fun w1 h1=>c134 w1 _ (by omega)) ?_
    refine aU ?_
    refine oCq rfl (fun w1 h1=>c134 w1 _ (by omega)) ?_
    refine aU3 ?_
    exact QA () trivial (by rw [show (((1 : Nat) : Int)) = 1 from rfl,QkL hka1,QkL hkb1];exact aSx) (fun w h=>h.ent aEt)
   have hn1 : ¬ (j : Int) = 1:=h9
   refine aU ?_
   exact QA () trivial (by rw [QoW hn1,QoW hn1];exact aSx) (fun w h=>h.ent aEt)
  intro _ _
  refine aU4 ?_
  refine oCq rfl (fun w1 h1=>Qpe w1 _ _) ?_
  refine aU7 ?_
  refine sCd rfl (fun h10=>?_) fun h10=>?_
  ·have hq9 : XE (((mpK (j : Int) a).getD k 0).toNat : Int) (((mpK (j : Int) b).getD k 0).toNat : Int) ≠ 0:=h10
   have hz:=hmp.trans (hk3.trans (hst.trans (if_pos hq9)))
   refine aU5 ?_
   exact rT rfl rfl (fun w' h'=>⟨by rw [hz];rfl,h'.below⟩)
  have hq9 : ¬ XE (((mpK (j : Int) a).getD k 0).toNat : Int) (((mpK (j : Int) b).getD k 0).toNat : Int) ≠ 0:=by have hq8:=h10;simpa using hq8
  have hz:=hk3.trans (hst.trans (if_neg hq9))
  refine aT5 ?_
  refine aU2 ?_
  exact Qu (k + 1) (by omega) ⟨by omega,by omega,hz⟩ aSx (fun w h=>h)
 have hz:=Qog (x:=mpK (j : Int) a) (y:=mpK (j : Int) b) (k:=k) (by rw [Z4];exact hk1) (by rw [Z4];exact hk2) (by rw [Z4,Z4];have hq:=h8;omega)
 rw [← hk3,← hmp,Z4,Z4] at hz
 refine Qh rfl ?_
 refine aU3 ?_
 refine o_p (Qj rfl rfl Tryz.underlying9) rfl ?_
 refine aU ?_
 refine o_p (Qj rfl rfl Tryz.underlying9) rfl ?_
 refine oCq rfl (fun w1 h1=>Qpe w1 _ _) ?_
 refine aU2 ?_
 exact rT rfl rfl (fun w' h'=>⟨by rw [hz];rfl,h'.below⟩)
theorem Zv : QL Tryz.prog 37 = some [.int .i64 0,.int .i64 0,.int .i64 0,.slice none 0 0]:=by kernel_rfl
theorem QkY : Y3 Tryz.prog 69 = some [(0,1),(1,1),(2,1)]:=by kernel_rfl
theorem Y6 : QL Tryz.prog 69 = some [.bool false,.slice none 0 0,.slice none 0 0]:=by kernel_rfl
theorem Qjf : tsl Tryz.prog 35 = some (69,3,56):=by kernel_rfl
theorem QdS : Y3 Tryz.prog 37 = some [(0,1),(1,1),(2,1),(3,1)]:=by kernel_rfl
theorem Zj : tsz Tryz.prog 37 = some (4,true):=by kernel_rfl
instance : TSz Tryz.prog 37 4 true:=⟨Zj⟩
instance : TFn Tryz.prog 155:=⟨by kernel_rfl⟩
theorem Qn : tsl Tryz.prog 67 = some (27,2,32):=by kernel_rfl
theorem Xc : tsz Tryz.prog 27 = some (2,true):=by kernel_rfl
instance : TSz Tryz.prog 27 2 true:=⟨Xc⟩
theorem Xz : QL Tryz.prog 27 = some [.string (bs []),.string (bs [])]:=by kernel_rfl
instance : TFd Tryz.prog 37 1 1 3:=⟨by kernel_rfl⟩
theorem Qhh : tsz Tryz.prog 3 = some (1,false):=by kernel_rfl
instance : TSz Tryz.prog 3 1 false:=⟨Qhh⟩
instance : TFd Tryz.prog 37 2 2 3:=⟨by kernel_rfl⟩
instance : TFd Tryz.prog 37 0 0 3:=⟨by kernel_rfl⟩
instance : TFd Tryz.prog 69 1 1 67:=⟨by kernel_rfl⟩
instance : TSz Tryz.prog 67 1 false:=⟨by kernel_rfl⟩
def tbV (co mo rm : Int) (a : Option Addr) (n cap : Nat) : List Value:=[.int .i64 co,.int .i64 mo,.int .i64 rm,.slice a n cap,Qai (Qdw co),Qai (Qdx co)]
def TbR (w : World) (M : List Nat) (bt : Nat) (co mo rm : Int) (a : Option Addr) (n cap : Nat) : Prop:=∀ k v,(tbV co mo rm a n cap)[k]? = some v → Rd w M bt k v
section
variable {w w' : World} {M M' : List Nat} {As As' : List HA} {bt : Nat} {co mo rm : Int} {a : Option Addr} {n cap : Nat}
end
def QfY (co mo rm : Int) : Tre:=if (if Qw co = 0 then Zr mo rm else Qw co) = 0 then ⟨co,mo,rm,[⟨true,[],[]⟩]⟩ else ⟨0,0,0,[]⟩
theorem Xu {w0 w : World} {M : List Nat} {As : List HA} (et nt : Nat) (h : HS w0 M As w) : HS w0 M (.nodes et nt none 0 [] :: As) w:=by
  have h1 : HS w0 M (.own (.slice none 0 0) nt 3 0 [] :: .star [] :: As) w:=(h.star_nil).own_nil nt 3;exact HS.row_shut (l:=([] : List LNd)) h1 rfl rfl
theorem Qm0 {w0 w : World} {M : List Nat} {As : List HA} {a : Option Addr} {cap nt : Nat} (et : Nat) (h : HS w0 M (.own (.slice a 1 cap) nt 3 1 [.bool true,.slice none 0 0,.slice none 0 0] :: As) w) : HS w0 M (.nodes et nt a cap [⟨true,none,0,[],none,0,[]⟩] :: As) w:=by
  have h1 : HS w0 M (.star ([(⟨true,none,0,[],none,0,[]⟩ : LNd)].map (Qki et)) :: As) w:=HS.star_close (Bs:=[_]) (HS.star_close (Bs:=[_,_]) ((h.tail.own_nil 3 1).own_nil et 2));have h2 : HS w0 M (.star [] :: .own (.slice a 1 cap) nt 3 1 [.bool true,.slice none 0 0,.slice none 0 0] :: As) w:=h.star_nil
  have h3 : HS w0 M (.own (.slice a 1 cap) nt 3 1 [.bool true,.slice none 0 0,.slice none 0 0] :: .star ([(⟨true,none,0,[],none,0,[]⟩ : LNd)].map (Qki et)) :: As) w:=
    HS.perm (HS.star_close (Bs:=[_]) (HS.star_close (Bs:=[_,_]) ((h.own_nil 3 1).own_nil et 2))) (List.Perm.swap ..)
  exact HS.row_shut (l:=[(⟨true,none,0,[],none,0,[]⟩ : LNd)]) h3 rfl rfl
theorem c91 (w : World) (co mo rm : Int) : Calls Tryz.prog 91 #[.int .i64 co,.int .i64 mo,.int .i64 rm] w fun en w'=>∃ g : (Option Addr × Nat) × List LNd,en = .returned (.tuple #[.agg #[.int .i64 (QfY co mo rm).co,.int .i64 (QfY co mo rm).mo,.int .i64 (QfY co mo rm).rm,.slice g.1.1 g.2.length g.1.2],.int .i64 (if Qw co = 0 then Zr mo rm else Qw co)]) ∧ pln g.2 = (QfY co mo rm).ns ∧ HS w [] [.nodes 27 69 g.1.1 g.1.2 g.2] w':=by
 refine eN3 Tryz.func91 Tryz.ntmps91 ?_
 refine aU2 ?_
 refine oAl (fun b1 _=>?_) Zv
 refine aU8 ?_
 refine oCq rfl (fun w1 h1=>c155 w1 _ _ _) ?_
 refine aU7 ?_
 refine sCd rfl (fun h2=>?_) fun h2=>?_
 ·have hz : QfY co mo rm = ⟨0,0,0,[]⟩:=by unfold QfY;rw [if_neg h2]
  refine aU2 ?_
  refine o_p (Q7 (cs:=[_,_,_,_]) rfl rfl QdS Zv rfl) rfl ?_
  refine aU4 ?_
  exact Qs (rs:=[.cell 6 37,.tmp 7]) rfl (.cell rfl Zj aPk rfl (.tmp rfl (.nil))) (fun w' h'=>⟨((none,0),[]),by rw [hz];rfl,by rw [hz];rfl,(Xu 27 69 h'.nil).ent aEt⟩)
 have hz : QfY co mo rm = ⟨co,mo,rm,[⟨true,[],[]⟩]⟩:=by unfold QfY;rw [if_pos h2]
 refine aU6 ?_
 refine o_p (Q7 (cs:=[_,_,_]) rfl rfl QkY Y6 rfl) rfl ?_
 refine o_h (Qm (cs:=[_,_,_]) rfl rfl Qjf Y6 rfl rfl rfl) rfl (fun b3 _=>?_)
 refine o_p (Q7 (cs:=[_,_,_,_]) rfl rfl QdS Zv rfl) rfl ?_
 refine aU3 ?_
 exact Qs (rs:=[.cell 6 37,.tmp 7]) rfl (.cell rfl Zj aPk rfl (.tmp rfl (.nil))) (fun w' h'=>⟨((some ⟨b3,0,none⟩,1),[⟨true,none,0,[],none,0,[]⟩]),by rw [hz,h2];rfl,by rw [hz];rfl,(Qm0 27 (HS.own_shut (n:=1) (cap:=1) (sz:=3) (h'.ent (Bs:=[.blk b3 69 (1 * 3) [.bool true,.slice none 0 0,.slice none 0 0]]) aEt) rfl (by decide) (by decide))).ent aEt⟩)
theorem Qbq : tki Tryz.prog 239 = some .u64:=by kernel_rfl
instance : TFd Tryz.prog 37 3 3 35:=⟨by kernel_rfl⟩
instance : TSz Tryz.prog 35 1 false:=⟨by kernel_rfl⟩
theorem Xp : tsl Tryz.prog 28 = some (3,1,8):=by kernel_rfl
theorem QcB : QL Tryz.prog 3 = some [.int .i64 0]:=by kernel_rfl
instance : TFd Tryz.prog 69 2 2 28:=⟨by kernel_rfl⟩
theorem QoL : tsz Tryz.prog 28 = some (1,false):=by kernel_rfl
instance : TSz Tryz.prog 28 1 false:=⟨QoL⟩
instance : TFd Tryz.prog 69 0 0 4:=⟨by kernel_rfl⟩
instance : TSz Tryz.prog 4 1 false:=⟨by kernel_rfl⟩
abbrev KI : Int → Value:=fun n=>Value.int .i64 n
theorem YB : tsz Tryz.prog 69 = some (3,true):=by kernel_rfl
instance : TSz Tryz.prog 69 3 true:=⟨YB⟩
instance : TFn Tryz.prog 128:=⟨by kernel_rfl⟩
theorem c128 (w : World) (ua : Option Addr) (uc : Nat) (u : List Int) (n : Int) (hu : Rw inV 1 w [] ua u) (hum : u.length ≤ 100000) : Calls Tryz.prog 128 #[.slice ua u.length uc,.int .i64 n] w fun en w'=>en = .returned (.int .i64 (ixI (Qdf u n))) ∧ Below w.heap.size w w':=by
 refine eN2 Tryz.func128 Tryz.ntmps128 ?_
 refine QaE ?_
 refine Qo (α:=Nat) [4,5,8,9,10,11,12,13,14,15,16,17,18] (fun k=>[(8,.int .i64 (k : Int))]) (fun _=>_) (fun k=>k ≤ u.length ∧ ∀ i,i < k → (Qdf u n).getD i false = false) (fun k=>u.length - k) 0 ⟨Nat.zero_le _,fun i h=>absurd h (Nat.not_lt_zero i)⟩ aSx (fun w h=>h) (fun k hkk=>?_)
 obtain ⟨hk1,hk2⟩:=hkk
 refine aU5 ?_
 refine sCd rfl (fun h1=>?_) fun h1=>?_
 ·have hk : k < u.length:=by omega
  refine Qfq ?_
  refine o_p (Qc rfl rfl rfl Xp (k) (by omega) (by omega) (Rw.some hu (by omega))) rfl ?_
  refine o_q (QG rfl rfl Qhh ((hu.rdj 0 hk rfl))) rfl ?_
  refine aU2 ?_
  refine sCd rfl (fun h2=>?_) fun h2=>?_
  ·have hq9 : n = u.getD k 0:=h2
   have e:=Qcn (l:=Qdf u n) (k:=k) (by rw [Qbn];omega) hk2 (fun _=>by rw [Qif hk];exact decide_eq_true hq9)
   refine aU5 ?_
   exact rT rfl rfl (fun w' h'=>⟨by simp only [Xd,ixI,e,Qbn];rw [if_pos hk],h'.below⟩)
  have hq9 : ¬ n = u.getD k 0:=h2
  refine aT4 ?_
  refine aU2 ?_
  exact Qu (k + 1) (by omega) ⟨by omega,fun i hi=>(Nat.lt_or_ge i k).elim (hk2 i) (fun h=>by obtain rfl : i = k:=(by omega);rw [Qif hk];exact decide_eq_false hq9)⟩ aSx (fun w h=>h)
 obtain rfl : k = u.length:=by omega
 refine Qh rfl ?_
 refine aU4 ?_
 exact rT rfl rfl (fun w' h'=>⟨by have e:=Qcn (l:=Qdf u n) (k:=u.length) (by rw [Qbn];omega) hk2 (fun h=>by rw [Qbn] at h;omega);simp only [Xd,ixI,e,Qbn];rw [if_neg (by omega)],h'.below⟩)
theorem c62 (w : World) (ua : Option Addr) (uc : Nat) (u : List Int) (n : Int) (hu : Rw inV 1 w [] ua u) (hum : u.length ≤ 100000) : Calls Tryz.prog 62 #[.slice ua u.length uc,.int .i64 n] w fun en w'=>en = .returned (.bool (decide (n ∈ u))) ∧ Below w.heap.size w w':=by
 refine eN2 Tryz.func62 Tryz.ntmps62 ?_
 refine aU8 ?_
 refine oCq rfl (fun w1 h1=>c128 w1 ua uc u n (hu.later h1) hum) ?_
 refine aU3 ?_
 exact rT rfl rfl (fun w' h'=>⟨by rw [← Qpn,← QlY];rfl,h'.below⟩)
def WkC (S : Type) (I : S → Prop) (C : S → HA) (st : S → Vis → S) (er : S → Vis → Int × Int) (q : Nat) (cv : Array Value) (bt : Nat) (j : Nat) (mo rm : Int) (a : Option Addr) (cap : Nat) (L : List LNd) (f : Nat) : Prop:=∀ (w : World) (s : S) (v : Vis) (pl ph : Option Addr) (P : List Nat),(HS w (fps [C s]) [C s] w) → (QM Tryz.prog q = true) → (∀ s1 s2 : S,(C s1).fp = (C s2).fp) → (∀ s2 v2,I s2 → I (st s2 v2)) → (I s) → (∀ (s2 : S) (v2 : Vis) (p2 p3 : Option Addr) (w1 : World),HS w (fps [C s]) [C s2] w1 → I s2 → v2.i < L.length → KOk (j : Int) v2.lo → KOk (j : Int) v2.hi → QqL w1 (fps [C s2]) p2 v2.lo → QqL w1 (fps [C s2]) p3 v2.hi → Calls Tryz.prog q (#[] ++ [.int .i64 (v2.i : Int),.int .i64 v2.d,.pointer p2,.pointer p3].toArray ++ cv) w1 fun en w2=>∃ g : Unit,en = .returned (.tuple #[.int .i64 (er s2 v2).1,.int .i64 (er s2 v2).2]) ∧ True ∧ HS w1 (fps [C s2]) [C (st s2 v2)] w2) → (TbR w (fps [C s]) bt (j : Int) mo rm a L.length cap) → (Nt w (fps [C s]) a L) → (TOk (j : Int) (pln L)) → (Bd (pln L)) → (QqL w (fps [C s]) pl v.lo) → (QqL w (fps [C s]) ph v.hi) → (0 < L.length) → (Gx.Way (pln L) (v.i :: P)) → (P.length + f = L.length) → (v.d = (P.length : Int) + 1) → (KOk (j : Int) v.lo) → (KOk (j : Int) v.hi) → Calls Tryz.prog 235 #[.pointer (some ⟨bt,0,none⟩),.int .i64 (v.i : Int),.int .i64 v.d,.pointer pl,.pointer ph,.func (.func q) #[] cv] w fun en w'=>∃ g : Unit,en = .returned (.tuple #[.int .i64 (QrE st er s (vis (pln L) f v)).1.1,.int .i64 (QrE st er s (vis (pln L) f v)).1.2]) ∧ True ∧ HS w (fps [C s]) [C (QrE st er s (vis (pln L) f v)).2] w'
instance : TFn Tryz.prog 62:=⟨by kernel_rfl⟩
instance : TFn Tryz.prog 114:=⟨by kernel_rfl⟩
theorem c114 (w : World) (a : Option Addr) (cap : Nat) (l : List TEnt) (hs : Rw TEnt.vals 2 w [] a l) (hm : l.length ≤ 1000000) : Calls Tryz.prog 114 #[.slice a l.length cap] w fun en w'=>∃ g : Option Addr × Nat,en = .returned (.slice g.1 l.length g.2) ∧ True ∧ HS w [] [.own (.slice g.1 l.length g.2) 27 2 l.length (l.flatMap TEnt.vals)] w':=by
 refine eN1 Tryz.func114 Tryz.ntmps114 ?_
 refine aU8 ?_
 refine o_p (Yz rfl rfl rfl Tryz.underlying67) rfl ?_
 refine aU ?_
 refine sCd rfl (fun h1=>?_) fun h1=>?_
 ·have ha0 : a = none:=by cases a with | none=>rfl | some b=>simp at h1
  subst ha0
  have hl0 : l = []:=Rw.none hs
  refine aU4 ?_
  exact rT rfl rfl (fun w' h'=>⟨(none,0),by rw [hl0];rfl,trivial,by rw [hl0];exact (h'.own_nil 27 2).ent aEt⟩)
 refine aU3 ?_
 refine o_h (Z9 rfl Qn) rfl (fun b2 _=>?_)
 refine aU ?_
 refine o_h (QK (l.flatMap TEnt.vals) rfl rfl rfl Qn Tryz.underlying67 Xz rfl aPk (fun w h=>Rw.src ev2 hs h) (Qr ev2 l) (Zh ev1 l) (by omega) (by simp only [maxLen];omega)) rfl (fun b3 _=>?_)
 refine aU2 ?_
 exact rT rfl rfl (fun w' h'=>⟨b3,by simp only [Xd,Nat.zero_add],trivial,by have h2:=h';simp only [Nat.zero_add,List.nil_append] at h2;exact h2.ent aEt⟩)
theorem Qii : QM Tryz.prog 80 = true:=by kernel_rfl
instance : TFn Tryz.prog 80:=⟨Qii⟩
theorem c80 (w : World) (a : Option Addr) (cap : Nat) (l : List TEnt) (hs : Rw TEnt.vals 2 w [] a l) (hl : l.length ≤ 100000) : Calls Tryz.prog 80 #[.slice a l.length cap] w fun en w'=>∃ g : Option Addr × Nat,en = .returned (.slice g.1 l.length g.2) ∧ True ∧ HS w [] [.own (.slice g.1 l.length g.2) 27 2 l.length (l.flatMap TEnt.vals)] w':=by
 refine eN1 Tryz.func80 Tryz.ntmps80 ?_
 refine aU6 ?_
 refine o_h (Z9 rfl Qn) rfl (fun b1 _=>?_)
 refine aU ?_
 refine o_h (QK (l.flatMap TEnt.vals) rfl rfl rfl Qn Tryz.underlying67 Xz rfl aPk (fun w h=>Rw.src ev2 hs h) (Qr ev2 _) (Zh ev1 _) (by omega) (by simp only [maxLen];omega)) rfl (fun b2 _=>?_)
 refine aU2 ?_
 exact rT rfl rfl (fun w' h'=>⟨b2,by simp only [Xd,Nat.zero_add],trivial,by have h2:=h';simp only [Nat.zero_add,List.nil_append] at h2;exact h2.ent aEt⟩)
theorem QsC : QM Tryz.prog 65 = true:=by kernel_rfl
theorem c15 (w : World) (a b : Option Addr) (c d : Nat) (l m : List Int) (hs : Rw inV 1 w [] a l) (ht : Rw inV 1 w [] b m) (hl : l.length ≤ 100000) (hm : m.length ≤ 100000) : Calls Tryz.prog 15 #[.slice a l.length c,.slice b m.length d] w fun en w'=>en = .returned (.bool (decide (l = m))) ∧ Below w.heap.size w w':=by
 refine eN2 Tryz.func15 Tryz.ntmps15 ?_
 refine Qfq ?_
 refine sCd rfl (fun h1=>?_) fun h1=>?_
 ·have hn9 : l ≠ m:=fun e=>by have hq:=h1;rw [e] at hq;simp at hq
  refine aU4 ?_
  exact rT rfl rfl (fun w' h'=>⟨by rw [decide_eq_false hn9];rfl,h'.below⟩)
 have hlm : l.length = m.length:=by have hq:=h1;omega
 refine aU7 ?_
 refine Qo (α:=Nat) [4,5,11,12,13,14,15,16,17,18,19,20,21,22,23,24,25] (fun k=>[(5,.int .i64 (k : Int))]) (fun _=>HS w [] []) (fun k=>k ≤ l.length ∧ ∀ j,j < k → nth l j = nth m j) (fun k=>l.length - k) 0 ⟨Nat.zero_le _,fun j h=>absurd h (Nat.not_lt_zero j)⟩ aSx (fun w h=>h.ent aEt) (fun k hx=>?_)
 obtain ⟨hk1,hk3⟩:=hx
 refine aU8 ?_
 refine sCd rfl (fun h2=>?_) fun h2=>?_
 ·have hk : k < l.length:=by omega
  have hk2 : k < m.length:=by omega
  refine aU4 ?_
  refine QF [] QV ?_
  refine dP 0 ?_
  refine dP 1 ?_
  refine dV 2 rfl (Qc rfl rfl rfl Xp (k) (by omega) (by omega) (Rw.some hs (by omega))) ?_
  refine dQ 3 [] rfl (QG rfl rfl Qhh ((hs.rdj 0 (by omega) rfl))) ?_
  refine dP 4 ?_
  refine dP 5 ?_
  refine dV 6 rfl (Qc rfl rfl rfl Xp (k) (by omega) (by omega) (Rw.some ht (by omega))) ?_
  refine dQ 7 [] rfl (QG rfl rfl Qhh ((ht.rdj 0 (by omega) rfl))) ?_
  refine dP 8 ?_
  refine dNi ?_
  refine sCd rfl (fun h3=>?_) fun h3=>?_
  ·have hn9 : l ≠ m:=fun e=>by have hq:=h3;rw [e] at hq;simp at hq
   refine aU4 ?_
   exact rT rfl rfl (fun w' h'=>⟨by rw [decide_eq_false hn9];rfl,h'.below⟩)
  have he9 : nth l k = nth m k:=by have hq:=h3;exact hq
  refine aT5 ?_
  refine aU2 ?_
  exact sBk (k + 1) (by omega) ⟨by omega,fun j hj=>(Nat.lt_or_ge j k).elim (hk3 j) (fun h9=>by obtain rfl : j = k:=(by omega);exact he9)⟩
 have hl9 : l = m:=QcT hlm fun j hj=>hk3 j (by omega)
 refine Qh rfl ?_
 refine aU4 ?_
 exact rT rfl rfl (fun w' h'=>⟨by rw [decide_eq_true hl9];rfl,h'.below⟩)
theorem QtA : Qj2 Tryz.prog 27 = some [1,1]:=by kernel_rfl
instance : TFn Tryz.prog 51:=⟨by kernel_rfl⟩
instance : TFn Tryz.prog 15:=⟨by kernel_rfl⟩
theorem c51 (w : World) (a b : Option Addr) (c d : Nat) (l m : List TEnt) (hs : Rw TEnt.vals 2 w [] a l) (ht : Rw TEnt.vals 2 w [] b m) (hl : l.length ≤ 100000) (hm : m.length ≤ 100000) : Calls Tryz.prog 51 #[.slice a l.length c,.slice b m.length d] w fun en w'=>en = .returned (.bool (decide (l = m))) ∧ Below w.heap.size w w':=by
 refine eN2 Tryz.func51 Tryz.ntmps51 ?_
 refine Qfq ?_
 refine sCd rfl (fun h1=>?_) fun h1=>?_
 ·have hn9 : l ≠ m:=fun e=>by have hq:=h1;rw [e] at hq;simp at hq
  refine aU4 ?_
  exact rT rfl rfl (fun w' h'=>⟨by rw [decide_eq_false hn9];rfl,h'.below⟩)
 have hlm : l.length = m.length:=by have hq:=h1;omega
 refine aU7 ?_
 refine Qo (α:=Nat) [4,5,11,12,13,14,15,16,17,18,19,20,21,22,23,24,25] (fun k=>[(5,.int .i64 (k : Int))]) (fun _=>HS w [] []) (fun k=>k ≤ l.length ∧ ∀ j,j < k → nth l j = nth m j) (fun k=>l.length - k) 0 ⟨Nat.zero_le _,fun j h=>absurd h (Nat.not_lt_zero j)⟩ aSx (fun w h=>h.ent aEt) (fun k hx=>?_)
 obtain ⟨hk1,hk3⟩:=hx
 refine aU8 ?_
 refine sCd rfl (fun h2=>?_) fun h2=>?_
 ·have hk : k < l.length:=by omega
  have hk2 : k < m.length:=by omega
  refine aU4 ?_
  refine QF [] QV ?_
  refine dP 0 ?_
  refine dP 1 ?_
  refine dV 2 rfl (Qc rfl rfl rfl Qn (k) (by omega) (by omega) (Rw.some hs (by omega))) ?_
  refine dQ 3 [] rfl (Zb _ rfl rfl Xc rfl (Rw.rd hs (by omega))) ?_
  refine dP 4 ?_
  refine dP 5 ?_
  refine dV 6 rfl (Qc rfl rfl rfl Qn (k) (by omega) (by omega) (Rw.some ht (by omega))) ?_
  refine dQ 7 [] rfl (Zb _ rfl rfl Xc rfl (Rw.rd ht (by omega))) ?_
  refine dV 8 rfl (Qf5 rfl rfl rfl QtA (by rfl) (by rfl) (by rfl)) ?_
  refine dNi ?_
  refine sCd rfl (fun h3=>?_) fun h3=>?_
  ·have hn9 : l ≠ m:=fun e=>by have hq:=h3;rw [e] at hq;simp at hq
   refine aU4 ?_
   exact rT rfl rfl (fun w' h'=>⟨by rw [decide_eq_false hn9];rfl,h'.below⟩)
  have he9 : nth l k = nth m k:=by have hq:=h3;exact Qra hq.1 hq.2.1
  refine aT5 ?_
  refine aU2 ?_
  exact sBk (k + 1) (by omega) ⟨by omega,fun j hj=>(Nat.lt_or_ge j k).elim (hk3 j) (fun h9=>by obtain rfl : j = k:=(by omega);exact he9)⟩
 have hl9 : l = m:=QcT hlm fun j hj=>hk3 j (by omega)
 refine Qh rfl ?_
 refine aU4 ?_
 exact rT rfl rfl (fun w' h'=>⟨by rw [decide_eq_true hl9];rfl,h'.below⟩)
end Go.Proofs
namespace Gx
open Go Go.RowKit Go.Proofs
section
variable {w0 w : World} {M : List Nat} {As As' : List HA}
end
abbrev siz0 (co mo rm : Int) : Int:=if Qw co = 0 then Zr mo rm else Qw co
abbrev cE1 (co : Int) (a : List UInt8) : Int:=if Qw co = 0 then X8 co a else Qw co
end Gx
namespace Gx
open Go Go.RowKit
def Qid (n : Nat) (S : List Int) : List Value:=(List.range n).map fun k=>Value.bool (decide (((k : Nat) : Int) ∈ S))
section
variable {t : Tre} {i : Nat} {S : List Int} {n : Nd}
end
end Gx
namespace Go.Proofs
open Go Go.RowKit Gx
attribute [local irreducible] Go.Calls Gx.S Gx.O Gx.D Gx.OpP Gx.OpQ Gx.OpH
set_option maxRecDepth 20000
end Go.Proofs
namespace Gx
open Go Go.RowKit
def mkS (vs : List Vis) (S : List Int) : List Int:=(vs.map fun v=>((v.i : Nat) : Int)).reverse ++ S
end Gx
namespace Go.Proofs
open Go Go.RowKit Gx
attribute [local irreducible] Go.Calls Gx.S Gx.O Gx.D Gx.OpP Gx.OpQ Gx.OpH
set_option maxRecDepth 20000
def MkC (j : Nat) (mo rm : Int) (a : Option Addr) (cap : Nat) (L : List LNd) (sb scap tot : Nat) (f : Nat) : Prop:=∀ (w : World) (S : List Int) (v : Vis) (P : List Nat),(HS w (fps [.blk sb 4 tot (Qid L.length S)]) [.blk sb 4 tot (Qid L.length S)] w) → (Nt w (fps [.blk sb 4 tot (Qid L.length S)]) a L) → (TOk (j : Int) (pln L)) → (Bd (pln L)) → (0 < L.length) → (Gx.Way (pln L) (v.i :: P)) → P.length + f = L.length → Calls Tryz.prog 137 #[.agg #[.int .i64 (j : Int),.int .i64 mo,.int .i64 rm,.slice a L.length cap],.int .i64 (v.i : Int),.slice (some ⟨sb,0,none⟩) L.length scap] w fun en w'=>∃ g : Unit,en = .returned (.tuple #[]) ∧ True ∧ HS w (fps [.blk sb 4 tot (Qid L.length S)]) [.blk sb 4 tot (Qid L.length (mkS (vis (pln L) f v) S))] w'
end Go.Proofs
namespace Gx
open Go Go.RowKit
def StK (w : World) (p : Option Addr) (n : Nat) (o : Option (List UInt8)) : Prop:=match o with
 | none=>n = 0
 | some k=>n = 1 ∧ ∃ b off,p = some ⟨b,off,none⟩ ∧ Rd w [] b off (.string (bs k))
section
variable {t : Tre} {v : Vis} {x : TEnt} {kl kh : List UInt8}
end
end Gx
namespace Go.Proofs
open Go Go.RowKit Gx
attribute [local irreducible] Go.Calls Gx.S Gx.O Gx.D Gx.OpP Gx.OpQ Gx.OpH
set_option maxRecDepth 20000
def PlC (j : Nat) (mo rm : Int) (a : Option Addr) (cap : Nat) (L : List LNd) (deep : Int) (f : Nat) : Prop:=∀ (w : World) (v : Vis) (P : List Nat) (lv : Int) (pa qa : Option Addr) (pn pc qn qc : Nat),(Nt w [] a L) → (j ≤ 3) → ((0 ≤ mo ∧ mo ≤ 1000) ∧ (0 ≤ deep ∧ deep ≤ 1000)) → (TOk (j : Int) (pln L)) → (Bd (pln L)) → (0 < L.length) → (Gx.Way (pln L) (v.i :: P)) → (v.d = (P.length : Int) + 1) → (lv = deep + 1 - v.d) → (KOk (j : Int) v.lo) → (KOk (j : Int) v.hi) → (StK w pa pn v.lo) → (StK w qa qn v.hi) → P.length + f = L.length → Calls Tryz.prog 138 #[.agg #[.int .i64 (j : Int),.int .i64 mo,.int .i64 rm,.slice a L.length cap],.int .i64 (v.i : Int),.int .i64 lv,.slice pa pn pc,.slice qa qn qc] w fun en w'=>en = .returned (.tuple #[.int .i64 (QnK (⟨(j : Int),mo,rm,pln L⟩ : Tre) deep (vis (pln L) f v)).1,.int .i64 (QnK (⟨(j : Int),mo,rm,pln L⟩ : Tre) deep (vis (pln L) f v)).2]) ∧ Below w.heap.size w w'
end Go.Proofs
namespace Gx
open Go Go.RowKit
end Gx
namespace Go.Proofs
open Go Go.RowKit Gx
attribute [local irreducible] Go.Calls Gx.S Gx.O Gx.D Gx.OpP Gx.OpQ Gx.OpH
set_option maxRecDepth 20000
instance : TFn Tryz.prog 96:=⟨by kernel_rfl⟩
instance : TFn Tryz.prog 97:=⟨by kernel_rfl⟩
end Go.Proofs
namespace Gx
open Go Go.RowKit
def Qup (x : TEnt) : Bool:=decide (x.key.length ≤ 44 ∧ x.val.length ≤ 70)
def Qrf (es : List TEnt) : Bool:=es.all Qup
def QvP (n : Nd) : Bool:=decide (n.es.length ≤ 10 ∧ n.cs.length ≤ 11) && Qrf n.es
def tfewB (ns : List Nd) : Bool:=decide (ns.length ≤ 122 ∧ ¬ (60 < ns.length ∧ ns.length ≤ 120)) && ns.all QvP
def entN (co : Int) (ns : List Nd) (key : List UInt8) : TEnt:=nth (nth ns (QR (QY co ns key).1)).es (QY co ns key).2.1
end Gx
namespace Go.Proofs
open Go Go.RowKit Gx
attribute [local irreducible] Go.Calls Gx.S Gx.O Gx.D Gx.OpP Gx.OpQ Gx.OpH
set_option maxRecDepth 20000
theorem Qto : Qtl Tryz.prog 211 67 4:=⟨_,Tryz.func211,rfl,rfl,by kernel_rfl,by kernel_rfl⟩
theorem Qu6 : Qtl Tryz.prog 263 28 4:=⟨_,Tryz.func263,rfl,rfl,by kernel_rfl,by kernel_rfl⟩
theorem Qvq (w : World) (a : Option Addr) (i n m cap : Nat) (xs news : List Value) (b0 c0 tot2 : Nat) (hw : HS w (fps [.own (.slice a n cap) 27 2 n xs,.blk b0 27 tot2 news]) [.own (.slice a n cap) 27 2 n xs,.blk b0 27 tot2 news] w) (hm0 : 0 < m) (hl : news.length = m * 2) (hn1 : ∀ u ∈ news,u.oneCell' = true) (hx1 : ∀ u ∈ xs,u.oneCell' = true) (hmax : (n + m) * 32 ≤ 140737488355328) (hi : i = n) : Calls Tryz.prog 165 #[.slice a n cap,.int .i64 i,.slice (some ⟨b0,0,none⟩) m c0] w fun en w'=>∃ g : Option Addr × Nat,en = .returned (.slice g.1 (n + m) g.2) ∧ True ∧ HS w (fps [.own (.slice a n cap) 27 2 n xs,.blk b0 27 tot2 news]) [.own (.slice g.1 (n + m) g.2) 27 2 (n + m) (xs.take (i * 2) ++ news ++ xs.drop (i * 2)),.blk b0 27 tot2 news] w':=by
 obtain ⟨_,hnc,hcm,hxl⟩:=hw.own_facts .here
 refine eW3 Tryz.func165 Tryz.ntmps165 hw ?_
 refine aU8 ?_
 refine o_p (Qp _ _ i n rfl rfl Qn ⟨_,_,rfl,rfl⟩ rfl (by omega) (by omega)) rfl ?_
 refine Qfq ?_
 refine sCd rfl (fun h1=>?_) fun h1=>?_
 ·exfalso;first | omega | (simp at h1;done) | (simp_all;done)
 refine QgI ?_
 refine sCd rfl (fun h2=>?_) fun h2=>?_
 ·refine aU4 ?_
  refine o_h (QK news rfl rfl rfl Qn Tryz.underlying67 Xz rfl aPk (Xa aPk) hl hn1 (by omega) (by simp only [maxLen];omega)) rfl (fun b3 _=>?_)
  refine aU2 ?_
  exact rT rfl rfl (fun w' h'=>⟨(_,_),rfl,trivial,by subst hi;rw [List.take_of_length_le (by omega),List.drop_eq_nil_of_le (by omega),List.append_nil];exact h'.ent aEt⟩)
 exfalso;first | omega | (simp at h2;done) | (simp_all;done)
theorem Qvu (w : World) (gg i n m cap : Nat) (xs news : List Value) (b0 c0 tot2 : Nat) (M : List Nat) (hw : HS w M [.blk gg 27 (cap * 2) xs,.blk b0 27 tot2 news] w) (hnc : n ≤ cap) (hcm : cap ≤ maxLen) (hxl : xs.length = n * 2) (hm0 : 0 < m) (hl : news.length = m * 2) (hn1 : ∀ u ∈ news,u.oneCell' = true) (hx1 : ∀ u ∈ xs,u.oneCell' = true) (hmax : (n + m) * 32 ≤ 140737488355328) (hi : i < n) : Calls Tryz.prog 165 #[.slice (some ⟨gg,0,none⟩) n cap,.int .i64 i,.slice (some ⟨b0,0,none⟩) m c0] w fun en w'=>∃ g : Option Addr × Nat,en = .returned (.slice g.1 (n + m) g.2) ∧ True ∧ HS w M [.own (.slice g.1 (n + m) g.2) 27 2 (n + m) (xs.take (i * 2) ++ news ++ xs.drop (i * 2)),.blk b0 27 tot2 news] w':=by
 have ht2:=(hw.blk_get (.there .here)).len_le
 have hcl : (cut xs 0 (i * 2)).length = i * 2:=Xn _ _ _ (by omega)
 refine eW3 Tryz.func165 Tryz.ntmps165 hw ?_
 refine aU8 ?_
 refine o_p (Qp _ _ i n rfl rfl Qn ⟨_,_,rfl,rfl⟩ rfl (by omega) (by omega)) rfl ?_
 refine Qfq ?_
 refine sCd rfl (fun h1=>?_) fun h1=>?_
 ·exfalso;first | omega | (simp at h1;done) | (simp_all;done)
 refine QgI ?_
 refine sCd rfl (fun h2=>?_) fun h2=>?_
 ·exfalso;first | omega | (simp at h2;done) | (simp_all;done)
 refine aT7 ?_
 refine aU ?_
 refine o_p (QoY rfl rfl Tryz.underlying67) rfl ?_
 refine aU2 ?_
 refine sCd rfl (fun h3=>?_) fun h3=>?_
 ·refine aU4 ?_
  refine o_p (Qp _ _ 0 i rfl rfl Qn rfl ⟨_,_,rfl,rfl⟩ (by omega) (by omega)) rfl ?_
  refine Qf (show _ = Value.slice (some ⟨gg,0,none⟩) (i) (cap) from by rw [Yq] <;> (congr 1 <;> omega)) ?_
  refine aT3 ?_
  refine aT2 ?_
  refine Qf (show _ = Value.int .i64 ((n + m - i : Nat) : Int) from by first | rfl | (congr 1 <;> first | rfl | omega)) ?_
  refine o_h (ZL (m:=n + m - i) (olds:=cut xs 0 (i * 2)) rfl rfl rfl Qn Yf Xz rfl (by decide) (by omega) (by omega) (ZB 0 (i * 2) (fun _=>rfl) aPk) hcl (by omega) (by simp only [maxLen];omega)) rfl (fun ⟨b4,c5⟩ ⟨h6,k7⟩=>?_)
  refine Qf (show _ = Value.slice (some ⟨b4,0,none⟩) (n + m) c5 from by first | rfl | (congr 1 <;> first | rfl | omega)) ?_
  refine aU3 ?_
  refine Qk (L':=[(0,_),(1,_),(2,_),(6,_),(7,_),(8,_),(9,_)]) aSx (fun _ h=>h) ?_
  refine aU3 ?_
  refine o_p (Qp _ _ i (n + m) rfl rfl Qn ⟨_,_,rfl,rfl⟩ rfl (by omega) (by omega)) rfl ?_
  refine Qf (show _ = Value.slice (some ⟨b4,i * 2,none⟩) (n + m - i) (c5 - i) from by rw [Xk (by omega)] <;> (congr 1 <;> omega)) ?_
  refine aU ?_
  refine o_h (QaX m news rfl rfl rfl Qn aPt (by omega) hl (fun _=>rfl) (by simp only [Qv,List.length_append,Qd];omega) (Xa aPk) hn1) rfl (fun _ _=>?_)
  refine aU2 ?_
  refine QF [8] QV ?_
  refine dP 0 ?_
  refine dP 1 ?_
  refine dP 2 ?_
  refine dP 3 ?_
  try refine dWr ?_
  refine dV 4 rfl (Qp _ _ (i + m) (n + m) rfl rfl Qn ⟨_,_,rfl,(by omega)⟩ rfl (by omega) (by omega)) ?_
  refine Q5 (show _ = Value.slice (some ⟨b4,(i + m) * 2,none⟩) (n - i) (c5 - (i + m)) from by rw [Xk (by omega)] <;> (congr 1 <;> omega)) ?_
  refine dP 5 ?_
  refine dP 6 ?_
  refine dV 7 rfl (Qp _ _ i n rfl rfl Qn ⟨_,_,rfl,rfl⟩ rfl (by omega) (by omega)) ?_
  refine Q5 (show _ = Value.slice (some ⟨gg,i * 2,none⟩) (n - i) (cap - i) from by rw [Xk (by omega)] <;> (congr 1 <;> omega)) ?_
  refine dH 8 rfl (QaX (n - i) (cut xs (i * 2) ((n - i) * 2)) rfl rfl rfl Qn aPt (by omega) (Xn _ _ _ (by omega)) (fun _=>rfl) (by rw [Xn _ _ _ (by omega)];simp only [Qv,List.length_append,Qd];omega) (ZB (i * 2) ((n - i) * 2) (fun _=>rfl) aPk) (Qg2 hx1 _ _)) (fun _ _=>?_)
  refine dTu [] ?_
  refine dNi ?_
  refine aU5 ?_
  exact rT rfl rfl (fun w' h'=>⟨(some ⟨b4,0,none⟩,c5),rfl,trivial,(HS.to_own (n:=n + m) (xs:=xs.take (i * 2) ++ news ++ xs.drop (i * 2)) (ds:=[]) aPk h' (by have hq:=Qh3 (xs:=xs) (news:=news) (z:=Xv [.string (bs []),.string (bs [])] ((n + m - i) * 2)) (p:=i * 2) (q:=m * 2) (N:=n * 2) hxl (by omega) hl (by rw [Qv];omega);rw [List.append_nil];rw [show (i + m) * 2 = i * 2 + m * 2 from by omega,show (n - i) * 2 = n * 2 - i * 2 from by omega];exact hq) (by simp only [List.length_append,List.length_take,List.length_drop];omega) (by omega) (by omega)).ent aEt⟩)
 refine aT7 ?_
 refine o_p (Qp _ _ 0 (n + m) rfl rfl Qn rfl ⟨_,_,rfl,(by omega)⟩ (by omega) (by omega)) rfl ?_
 refine Qf (show _ = Value.slice (some ⟨gg,0,none⟩) (n + m) cap from by rw [Yq] <;> (congr 1 <;> omega)) ?_
 refine o_ex (fun w h=>HS.blk_full (b:=gg) aPk h) fun ds=>?_
 refine Qkg (fun w h=>h.1) fun hds=>?_
 refine YN (fun w h=>h.2) ?_
 refine Qj6 ?_
 refine o_p (Qp _ _ (i + m) (n + m) rfl rfl Qn ⟨_,_,rfl,(by omega)⟩ rfl (by omega) (by omega)) rfl ?_
 refine Qf (show _ = Value.slice (some ⟨gg,(i + m) * 2,none⟩) (n - i) (cap - (i + m)) from by rw [Xk (by omega)] <;> (congr 1 <;> omega)) ?_
 refine o_q (Qe9 rfl Qto rfl rfl Qn (hp:=aPk) (hp':=aPk) (by decide) (by omega) (by omega)) rfl ?_
 refine aU2 ?_
 refine sCd rfl (fun h8=>?_) fun h8=>?_
 ·refine aU ?_
  refine Qk (L':=[(0,_),(1,_),(2,_),(6,_),(7,_),(8,_)]) aSx (fun _ h=>h) ?_
  refine QF [8] QV ?_
  refine dP 0 ?_
  refine dP 1 ?_
  refine dP 2 ?_
  refine dP 3 ?_
  try refine dWr ?_
  refine dV 4 rfl (Qp _ _ (i + m) (n + m) rfl rfl Qn ⟨_,_,rfl,(by omega)⟩ rfl (by omega) (by omega)) ?_
  refine Q5 (show _ = Value.slice (some ⟨gg,(i + m) * 2,none⟩) (n - i) (cap - (i + m)) from by rw [Xk (by omega)] <;> (congr 1 <;> omega)) ?_
  refine dP 5 ?_
  refine dP 6 ?_
  refine dV 7 rfl (Qp _ _ i (n + m) rfl rfl Qn ⟨_,_,rfl,rfl⟩ rfl (by omega) (by omega)) ?_
  refine Q5 (show _ = Value.slice (some ⟨gg,i * 2,none⟩) (n + m - i) (cap - i) from by rw [Xk (by omega)] <;> (congr 1 <;> omega)) ?_
  refine dH 8 rfl (QaX (n - i) (cut (xs ++ ds) (i * 2) ((n - i) * 2)) rfl rfl rfl Qn aPt (by omega) (Xn _ _ _ (by simp only [Qv,List.length_append,Qd];omega)) (fun _=>rfl) (by rw [Xn _ _ _ (by simp only [Qv,List.length_append,Qd];omega)];simp only [Qv,List.length_append,Qd];omega) (ZB (i * 2) ((n - i) * 2) (fun _=>rfl) aPk) (Qlp hx1 (by omega))) (fun _ _=>?_)
  refine dTu [] ?_
  refine dNi ?_
  refine aU4 ?_
  refine o_p (Qp _ _ i (n + m) rfl rfl Qn ⟨_,_,rfl,rfl⟩ rfl (by omega) (by omega)) rfl ?_
  refine Qf (show _ = Value.slice (some ⟨gg,i * 2,none⟩) (n + m - i) (cap - i) from by rw [Xk (by omega)] <;> (congr 1 <;> omega)) ?_
  refine aU ?_
  refine o_h (QaX m news rfl rfl rfl Qn aPt (by omega) hl (fun _=>rfl) (by simp only [Qv,List.length_append,Qd];omega) (Xa aPk) hn1) rfl (fun _ _=>?_)
  refine aU6 ?_
  exact rT rfl rfl (fun w' h'=>⟨(some ⟨gg,0,none⟩,cap),rfl,trivial,(HS.to_own (n:=n + m) (xs:=xs.take (i * 2) ++ news ++ xs.drop (i * 2)) (ds:=ds.drop (m * 2)) aPk h' (by have hq:=QnZ (xs:=xs) (ds:=ds) (news:=news) (p:=i * 2) (q:=m * 2) (N:=n * 2) hxl (by omega) hl (by omega);rw [show (i + m) * 2 = i * 2 + m * 2 from by omega,show (n - i) * 2 = n * 2 - i * 2 from by omega];exact hq) (by simp only [List.length_append,List.length_take,List.length_drop];omega) (by omega) (by omega)).ent aEt⟩)
 exfalso;first | omega | (simp at h8;done) | (simp_all;done)
theorem c165 (w : World) (a : Option Addr) (i n m cap : Nat) (xs news : List Value) (b0 c0 tot2 : Nat) (hw : HS w (fps [.own (.slice a n cap) 27 2 n xs,.blk b0 27 tot2 news]) [.own (.slice a n cap) 27 2 n xs,.blk b0 27 tot2 news] w) (hm0 : 0 < m) (hl : news.length = m * 2) (hn1 : ∀ u ∈ news,u.oneCell' = true) (hx1 : ∀ u ∈ xs,u.oneCell' = true) (hmax : (n + m) * 32 ≤ 140737488355328) (hi : i ≤ n) : Calls Tryz.prog 165 #[.slice a n cap,.int .i64 i,.slice (some ⟨b0,0,none⟩) m c0] w fun en w'=>∃ g : Option Addr × Nat,en = .returned (.slice g.1 (n + m) g.2) ∧ True ∧ HS w (fps [.own (.slice a n cap) 27 2 n xs,.blk b0 27 tot2 news]) [.own (.slice g.1 (n + m) g.2) 27 2 (n + m) (xs.take (i * 2) ++ news ++ xs.drop (i * 2)),.blk b0 27 tot2 news] w':=by
  rcases Nat.lt_or_ge i n with h | h
  · obtain ⟨gg,rfl,_,hnc,hcm,hxl,hb⟩:=hw.own_blk (by omega) .here;exact Qvu w gg i n m cap xs news b0 c0 tot2 _ hb hnc hcm hxl hm0 hl hn1 hx1 hmax h
  · exact Qvq w a i n m cap xs news b0 c0 tot2 hw hm0 hl hn1 hx1 hmax (by omega)
theorem Qvn (w : World) (a : Option Addr) (i n m cap : Nat) (xs news : List Value) (b0 c0 tot2 : Nat) (hw : HS w (fps [.own (.slice a n cap) 3 1 n xs,.blk b0 3 tot2 news]) [.own (.slice a n cap) 3 1 n xs,.blk b0 3 tot2 news] w) (hm0 : 0 < m) (hl : news.length = m * 1) (hn1 : ∀ u ∈ news,u.oneCell' = true) (hx1 : ∀ u ∈ xs,u.oneCell' = true) (hmax : (n + m) * 8 ≤ 140737488355328) (hi : i = n) : Calls Tryz.prog 249 #[.slice a n cap,.int .i64 i,.slice (some ⟨b0,0,none⟩) m c0] w fun en w'=>∃ g : Option Addr × Nat,en = .returned (.slice g.1 (n + m) g.2) ∧ True ∧ HS w (fps [.own (.slice a n cap) 3 1 n xs,.blk b0 3 tot2 news]) [.own (.slice g.1 (n + m) g.2) 3 1 (n + m) (xs.take (i * 1) ++ news ++ xs.drop (i * 1)),.blk b0 3 tot2 news] w':=by
 obtain ⟨_,hnc,hcm,hxl⟩:=hw.own_facts .here
 refine eW3 Tryz.func249 Tryz.ntmps249 hw ?_
 refine aU8 ?_
 refine o_p (Qp _ _ i n rfl rfl Xp ⟨_,_,rfl,rfl⟩ rfl (by omega) (by omega)) rfl ?_
 refine Qfq ?_
 refine sCd rfl (fun h1=>?_) fun h1=>?_
 ·exfalso;first | omega | (simp at h1;done) | (simp_all;done)
 refine QgI ?_
 refine sCd rfl (fun h2=>?_) fun h2=>?_
 ·refine aU4 ?_
  refine o_h (QK news rfl rfl rfl Xp Tryz.underlying28 QcB rfl aPk (Xa aPk) hl hn1 (by omega) (by simp only [maxLen];omega)) rfl (fun b3 _=>?_)
  refine aU2 ?_
  exact rT rfl rfl (fun w' h'=>⟨(_,_),rfl,trivial,by subst hi;rw [List.take_of_length_le (by omega),List.drop_eq_nil_of_le (by omega),List.append_nil];exact h'.ent aEt⟩)
 exfalso;first | omega | (simp at h2;done) | (simp_all;done)
theorem QvD (w : World) (gg i n m cap : Nat) (xs news : List Value) (b0 c0 tot2 : Nat) (M : List Nat) (hw : HS w M [.blk gg 3 (cap * 1) xs,.blk b0 3 tot2 news] w) (hnc : n ≤ cap) (hcm : cap ≤ maxLen) (hxl : xs.length = n * 1) (hm0 : 0 < m) (hl : news.length = m * 1) (hn1 : ∀ u ∈ news,u.oneCell' = true) (hx1 : ∀ u ∈ xs,u.oneCell' = true) (hmax : (n + m) * 8 ≤ 140737488355328) (hi : i < n) : Calls Tryz.prog 249 #[.slice (some ⟨gg,0,none⟩) n cap,.int .i64 i,.slice (some ⟨b0,0,none⟩) m c0] w fun en w'=>∃ g : Option Addr × Nat,en = .returned (.slice g.1 (n + m) g.2) ∧ True ∧ HS w M [.own (.slice g.1 (n + m) g.2) 3 1 (n + m) (xs.take (i * 1) ++ news ++ xs.drop (i * 1)),.blk b0 3 tot2 news] w':=by
 have ht2:=(hw.blk_get (.there .here)).len_le
 have hcl : (cut xs 0 (i * 1)).length = i * 1:=Xn _ _ _ (by omega)
 refine eW3 Tryz.func249 Tryz.ntmps249 hw ?_
 refine aU8 ?_
 refine o_p (Qp _ _ i n rfl rfl Xp ⟨_,_,rfl,rfl⟩ rfl (by omega) (by omega)) rfl ?_
 refine Qfq ?_
 refine sCd rfl (fun h1=>?_) fun h1=>?_
 ·exfalso;first | omega | (simp at h1;done) | (simp_all;done)
 refine QgI ?_
 refine sCd rfl (fun h2=>?_) fun h2=>?_
 ·exfalso;first | omega | (simp at h2;done) | (simp_all;done)
 refine aT7 ?_
 refine aU ?_
 refine o_p (QoY rfl rfl Tryz.underlying28) rfl ?_
 refine aU2 ?_
 refine sCd rfl (fun h3=>?_) fun h3=>?_
 ·refine aU4 ?_
  refine o_p (Qp _ _ 0 i rfl rfl Xp rfl ⟨_,_,rfl,rfl⟩ (by omega) (by omega)) rfl ?_
  refine Qf (show _ = Value.slice (some ⟨gg,0,none⟩) (i) (cap) from by rw [Yq] <;> (congr 1 <;> omega)) ?_
  refine aT3 ?_
  refine aT2 ?_
  refine Qf (show _ = Value.int .i64 ((n + m - i : Nat) : Int) from by first | rfl | (congr 1 <;> first | rfl | omega)) ?_
  refine o_h (ZL (m:=n + m - i) (olds:=cut xs 0 (i * 1)) rfl rfl rfl Xp Yf QcB rfl (by decide) (by omega) (by omega) (ZB 0 (i * 1) (fun _=>rfl) aPk) hcl (by omega) (by simp only [maxLen];omega)) rfl (fun ⟨b4,c5⟩ ⟨h6,k7⟩=>?_)
  refine Qf (show _ = Value.slice (some ⟨b4,0,none⟩) (n + m) c5 from by first | rfl | (congr 1 <;> first | rfl | omega)) ?_
  refine aU3 ?_
  refine Qk (L':=[(0,_),(1,_),(2,_),(6,_),(7,_),(8,_),(9,_)]) aSx (fun _ h=>h) ?_
  refine aU3 ?_
  refine o_p (Qp _ _ i (n + m) rfl rfl Xp ⟨_,_,rfl,rfl⟩ rfl (by omega) (by omega)) rfl ?_
  refine Qf (show _ = Value.slice (some ⟨b4,i * 1,none⟩) (n + m - i) (c5 - i) from by rw [Xk (by omega)] <;> (congr 1 <;> omega)) ?_
  refine aU ?_
  refine o_h (QaX m news rfl rfl rfl Xp aPt (by omega) hl (fun _=>rfl) (by simp only [Qv,List.length_append,Qd];omega) (Xa aPk) hn1) rfl (fun _ _=>?_)
  refine aU2 ?_
  refine QF [8] QV ?_
  refine dP 0 ?_
  refine dP 1 ?_
  refine dP 2 ?_
  refine dP 3 ?_
  try refine dWr ?_
  refine dV 4 rfl (Qp _ _ (i + m) (n + m) rfl rfl Xp ⟨_,_,rfl,(by omega)⟩ rfl (by omega) (by omega)) ?_
  refine Q5 (show _ = Value.slice (some ⟨b4,(i + m) * 1,none⟩) (n - i) (c5 - (i + m)) from by rw [Xk (by omega)] <;> (congr 1 <;> omega)) ?_
  refine dP 5 ?_
  refine dP 6 ?_
  refine dV 7 rfl (Qp _ _ i n rfl rfl Xp ⟨_,_,rfl,rfl⟩ rfl (by omega) (by omega)) ?_
  refine Q5 (show _ = Value.slice (some ⟨gg,i * 1,none⟩) (n - i) (cap - i) from by rw [Xk (by omega)] <;> (congr 1 <;> omega)) ?_
  refine dH 8 rfl (QaX (n - i) (cut xs (i * 1) ((n - i) * 1)) rfl rfl rfl Xp aPt (by omega) (Xn _ _ _ (by omega)) (fun _=>rfl) (by rw [Xn _ _ _ (by omega)];simp only [Qv,List.length_append,Qd];omega) (ZB (i * 1) ((n - i) * 1) (fun _=>rfl) aPk) (Qg2 hx1 _ _)) (fun _ _=>?_)
  refine dTu [] ?_
  refine dNi ?_
  refine aU5 ?_
  exact rT rfl rfl (fun w' h'=>⟨(some ⟨b4,0,none⟩,c5),rfl,trivial,(HS.to_own (n:=n + m) (xs:=xs.take (i * 1) ++ news ++ xs.drop (i * 1)) (ds:=[]) aPk h' (by have hq:=Qh3 (xs:=xs) (news:=news) (z:=Xv [.int .i64 0] ((n + m - i) * 1)) (p:=i * 1) (q:=m * 1) (N:=n * 1) hxl (by omega) hl (by rw [Qv];omega);rw [List.append_nil];rw [show (i + m) * 1 = i * 1 + m * 1 from by omega,show (n - i) * 1 = n * 1 - i * 1 from by omega];exact hq) (by simp only [List.length_append,List.length_take,List.length_drop];omega) (by omega) (by omega)).ent aEt⟩)
 refine aT7 ?_
 refine o_p (Qp _ _ 0 (n + m) rfl rfl Xp rfl ⟨_,_,rfl,(by omega)⟩ (by omega) (by omega)) rfl ?_
 refine Qf (show _ = Value.slice (some ⟨gg,0,none⟩) (n + m) cap from by rw [Yq] <;> (congr 1 <;> omega)) ?_
 refine o_ex (fun w h=>HS.blk_full (b:=gg) aPk h) fun ds=>?_
 refine Qkg (fun w h=>h.1) fun hds=>?_
 refine YN (fun w h=>h.2) ?_
 refine Qj6 ?_
 refine o_p (Qp _ _ (i + m) (n + m) rfl rfl Xp ⟨_,_,rfl,(by omega)⟩ rfl (by omega) (by omega)) rfl ?_
 refine Qf (show _ = Value.slice (some ⟨gg,(i + m) * 1,none⟩) (n - i) (cap - (i + m)) from by rw [Xk (by omega)] <;> (congr 1 <;> omega)) ?_
 refine o_q (Qe9 rfl Qu6 rfl rfl Xp (hp:=aPk) (hp':=aPk) (by decide) (by omega) (by omega)) rfl ?_
 refine aU2 ?_
 refine sCd rfl (fun h8=>?_) fun h8=>?_
 ·refine aU ?_
  refine Qk (L':=[(0,_),(1,_),(2,_),(6,_),(7,_),(8,_)]) aSx (fun _ h=>h) ?_
  refine QF [8] QV ?_
  refine dP 0 ?_
  refine dP 1 ?_
  refine dP 2 ?_
  refine dP 3 ?_
  try refine dWr ?_
  refine dV 4 rfl (Qp _ _ (i + m) (n + m) rfl rfl Xp ⟨_,_,rfl,(by omega)⟩ rfl (by omega) (by omega)) ?_
  refine Q5 (show _ = Value.slice (some ⟨gg,(i + m) * 1,none⟩) (n - i) (cap - (i + m)) from by rw [Xk (by omega)] <;> (congr 1 <;> omega)) ?_
  refine dP 5 ?_
  refine dP 6 ?_
  refine dV 7 rfl (Qp _ _ i (n + m) rfl rfl Xp ⟨_,_,rfl,rfl⟩ rfl (by omega) (by omega)) ?_
  refine Q5 (show _ = Value.slice (some ⟨gg,i * 1,none⟩) (n + m - i) (cap - i) from by rw [Xk (by omega)] <;> (congr 1 <;> omega)) ?_
  refine dH 8 rfl (QaX (n - i) (cut (xs ++ ds) (i * 1) ((n - i) * 1)) rfl rfl rfl Xp aPt (by omega) (Xn _ _ _ (by simp only [Qv,List.length_append,Qd];omega)) (fun _=>rfl) (by rw [Xn _ _ _ (by simp only [Qv,List.length_append,Qd];omega)];simp only [Qv,List.length_append,Qd];omega) (ZB (i * 1) ((n - i) * 1) (fun _=>rfl) aPk) (Qlp hx1 (by omega))) (fun _ _=>?_)
  refine dTu [] ?_
  refine dNi ?_
  refine aU4 ?_
  refine o_p (Qp _ _ i (n + m) rfl rfl Xp ⟨_,_,rfl,rfl⟩ rfl (by omega) (by omega)) rfl ?_
  refine Qf (show _ = Value.slice (some ⟨gg,i * 1,none⟩) (n + m - i) (cap - i) from by rw [Xk (by omega)] <;> (congr 1 <;> omega)) ?_
  refine aU ?_
  refine o_h (QaX m news rfl rfl rfl Xp aPt (by omega) hl (fun _=>rfl) (by simp only [Qv,List.length_append,Qd];omega) (Xa aPk) hn1) rfl (fun _ _=>?_)
  refine aU6 ?_
  exact rT rfl rfl (fun w' h'=>⟨(some ⟨gg,0,none⟩,cap),rfl,trivial,(HS.to_own (n:=n + m) (xs:=xs.take (i * 1) ++ news ++ xs.drop (i * 1)) (ds:=ds.drop (m * 1)) aPk h' (by have hq:=QnZ (xs:=xs) (ds:=ds) (news:=news) (p:=i * 1) (q:=m * 1) (N:=n * 1) hxl (by omega) hl (by omega);rw [show (i + m) * 1 = i * 1 + m * 1 from by omega,show (n - i) * 1 = n * 1 - i * 1 from by omega];exact hq) (by simp only [List.length_append,List.length_take,List.length_drop];omega) (by omega) (by omega)).ent aEt⟩)
 exfalso;first | omega | (simp at h8;done) | (simp_all;done)
theorem c249 (w : World) (a : Option Addr) (i n m cap : Nat) (xs news : List Value) (b0 c0 tot2 : Nat) (hw : HS w (fps [.own (.slice a n cap) 3 1 n xs,.blk b0 3 tot2 news]) [.own (.slice a n cap) 3 1 n xs,.blk b0 3 tot2 news] w) (hm0 : 0 < m) (hl : news.length = m * 1) (hn1 : ∀ u ∈ news,u.oneCell' = true) (hx1 : ∀ u ∈ xs,u.oneCell' = true) (hmax : (n + m) * 8 ≤ 140737488355328) (hi : i ≤ n) : Calls Tryz.prog 249 #[.slice a n cap,.int .i64 i,.slice (some ⟨b0,0,none⟩) m c0] w fun en w'=>∃ g : Option Addr × Nat,en = .returned (.slice g.1 (n + m) g.2) ∧ True ∧ HS w (fps [.own (.slice a n cap) 3 1 n xs,.blk b0 3 tot2 news]) [.own (.slice g.1 (n + m) g.2) 3 1 (n + m) (xs.take (i * 1) ++ news ++ xs.drop (i * 1)),.blk b0 3 tot2 news] w':=by
  rcases Nat.lt_or_ge i n with h | h
  · obtain ⟨gg,rfl,_,hnc,hcm,hxl,hb⟩:=hw.own_blk (by omega) .here;exact QvD w gg i n m cap xs news b0 c0 tot2 _ hb hnc hcm hxl hm0 hl hn1 hx1 hmax h
  · exact Qvn w a i n m cap xs news b0 c0 tot2 hw hm0 hl hn1 hx1 hmax (by omega)
end Go.Proofs
namespace Gx
open Go Go.RowKit
def Qd9 (cap : Nat) (l : List UInt8) : List Value:=l.map bv ++ List.replicate (cap - l.length) (bv 0)
def QvK (a : Option Addr) (cap : Nat) (l : List UInt8) (w : World) : Prop:=
 (a = none ∧ cap = 0 ∧ l = []) ∨ ∃ g,a = some ⟨g,0,none⟩ ∧ l.length ≤ cap ∧ cap ≤ maxLen ∧ QO g u8T cap (Qd9 cap l) w
theorem QiB {cap : Nat} {l : List UInt8} (h : l.length ≤ cap) : (Qd9 cap l).length = cap:=by grind [Qd9]
def HA.byz (a : Option Addr) (cap : Nat) (l : List UInt8) : HA:=⟨(Value.slice a l.length cap).ownBlock.toList,QvK a cap l,fun w w' h ha=>by
  obtain ⟨h1,h2,h3⟩ | ⟨g,rfl,h2,h3,hb⟩:=ha
  ·exact .inl ⟨h1,h2,h3⟩
  ·exact .inr ⟨g,rfl,h2,h3,QO.loc (h g (by simp [Value.ownBlock])) hb⟩⟩
theorem HA.fp_byz (a : Option Addr) (cap : Nat) (l : List UInt8) : (HA.byz a cap l).fp = (Value.slice a l.length cap).ownBlock.toList:=rfl
def Qbo (a : Option Addr) (cap : Nat) (g : Option Addr × Nat) (n : Nat) : Prop:=n ≤ cap → g.1 = a ∧ g.2 = cap
theorem Qbo.trans {a : Option Addr} {cap : Nat} {g g' : Option Addr × Nat} {n m : Nat} (h : Qbo a cap g n) (h' : Qbo g.1 g.2 g' m) (hle : n ≤ m) : Qbo a cap g' m:=fun hm=>by
 obtain ⟨e1,e2⟩:=h (Nat.le_trans hle hm);obtain ⟨e3,e4⟩:=h' (by rw [e2];exact hm)
 grind
section
variable {w0 w : World} {M : List Nat} {As As' : List HA}
theorem HS.byz_nil (h : HS w0 M As w) : HS w0 M (.byz none 0 [] :: As) w:=
 ⟨h.os,h.tape,h.output,h.size,h.old,fun A hA=>by
  rcases List.mem_cons.1 hA with rfl | hA
  ·exact .inl ⟨rfl,rfl,rfl⟩
  ·exact h.ok A hA,fun A hA b hb=>by
  rcases List.mem_cons.1 hA with rfl | hA
  ·simp [HA.fp_byz,Value.ownBlock] at hb
  ·exact h.lt A hA b hb,.cons (fun B _ b hb=>by simp [HA.fp_byz,Value.ownBlock] at hb) h.sep⟩
theorem HS.byz_blk {g cap : Nat} {l : List UInt8} {cs : List Value} (hp : QD As (.blk g u8T cap cs) As') (h : HS w0 M As w) (hl : l.length ≤ cap) (hc : cap ≤ maxLen) (hcs : cs = Qd9 cap l) : HS w0 M (.byz (some ⟨g,0,none⟩) cap l :: As') w:=by
 subst hcs;exact (h.pick hp).turn (fun b hb=>by simpa [HA.fp_byz,HA.fp_blk,Value.ownBlock] using hb) fun hb=>.inr ⟨g,rfl,hl,hc,hb⟩
theorem HS.blk_byz {a : Option Addr} {cap : Nat} {l : List UInt8} (hp : QD As (.byz a cap l) As') (h : HS w0 M As w) (h0 : 0 < cap) : ∃ g,a = some ⟨g,0,none⟩ ∧ l.length ≤ cap ∧ cap ≤ maxLen ∧ HS w0 M (.blk g u8T cap (Qd9 cap l) :: As') w:=by
 have h1:=h.pick hp;rcases h1.head with ⟨_,h2,_⟩ | ⟨g,rfl,h2,h3,hb⟩
 ·omega
 ·exact ⟨g,rfl,h2,h3,h1.turn (fun b hb=>by simpa [HA.fp_byz,HA.fp_blk,Value.ownBlock] using hb) fun _=>hb⟩
theorem HS.byz_own {a : Option Addr} {cap : Nat} {l : List UInt8} (hp : QD As (.byz a cap l) As') (h : HS w0 M As w) : HS w0 M (.own (.slice a l.length cap) u8T 1 l.length (l.map bv) :: As') w:=by
 have h1:=h.pick hp;refine h1.turn (fun b hb=>hb) fun ho=>⟨by simp,?_⟩;rcases ho with ⟨rfl,rfl,rfl⟩ | ⟨g,rfl,h2,h3,hb⟩
 ·grind
 ·refine .inr ⟨g,cap,rfl,h2,h3,?_⟩;rw [Nat.mul_one];exact hb.less
theorem HS.vl_byz {a : Option Addr} {cap : Nat} {l : List UInt8} (h : HS w0 M As w) (hp : QD As (.byz a cap l) As') : Vl w a (l.map bv):=(h.byz_own hp).vl_own .here
end
theorem QdK (A : List Value) : ∀ (vs B : List Value),vs.length ≤ B.length → Qe (A ++ B) A.length vs = A ++ (vs ++ B.drop vs.length)
 | [],B,_=>by simp [Qe]
 | v :: vs,[],h=>by simp at h
 | v :: vs,b :: B,h=>by
  rw [Qe,List.set_append_right _ _ (Nat.le_refl _),Nat.sub_self,List.set_cons_zero,show A ++ v :: B = (A ++ [v]) ++ B by simp,show A.length + 1 = (A ++ [v]).length by simp,QdK (A ++ [v]) vs B (by simpa using h)];simp
theorem Qrh {cap : Nat} {l m : List UInt8} (h : (l ++ m).length ≤ cap) : Qe (Qd9 cap l) l.length (m.map bv) = Qd9 cap (l ++ m):=by
 rw [List.length_append] at h;unfold Qd9;have e:=QdK (l.map bv) (m.map bv) (List.replicate (cap - l.length) (bv 0)) (by simp;omega)
 grind
theorem Qjm (n : Nat) : Builtin.zeroCells #[Value.int .u8 0] n = (List.replicate n (bv 0)).toArray:=by grind [ZN,bv,Qe8]
theorem Qky (l : List UInt8) : ∀ u ∈ l.map bv,u.oneCell' = true:=fun u hu=>by
 obtain ⟨b,_,rfl⟩:=List.mem_map.1 hu;rfl
theorem QfR {P : Program} {t xt ty by' : Nat} {a : Option Addr} {cap : Nat} {x : Value} {l m : List UInt8} {w w0 : World} {M : List Nat} {As As' : List HA} (ht : tsl P t = some (u8T,1,by')) (hxt : P.underlying xt = some .string ∨ ∃ e',P.underlying xt = some (.slice e')) (hz : QL P u8T = some [.int .u8 0])
  (hw : HS w0 M As w) (hp : QD As (.byz a cap l) As') (hlen : (Builtin.lenOf x).run P w = .ok m.length w) (hfc : (Builtin.firstCells 1 m.length x).run P w = .ok (m.map bv).toArray w) (hfc' : (Builtin.firstCells 1 m.length x).run P w.drew = .ok (m.map bv).toArray w.drew)
  (hroom : (l.length + m.length) * by' ≤ 140737488355328) (hmax : l.length + m.length ≤ maxLen) :
  ∃ a' cap' w',(Builtin.append_ #[t,xt] ty #[.slice a l.length cap,x]).run P w = .ok (.slice a' (l ++ m).length cap') w' ∧ Qbo a cap (a',cap') (l ++ m).length ∧ HS w0 M (.byz a' cap' (l ++ m) :: As') w':=by
 obtain ⟨hu,inf,hi,hs1,hs2⟩:=QW ht;obtain ⟨inf',zv,h4,h5,h6⟩:=Ym hz;rw [hi] at h4;injection h4 with h4
 subst h4;subst hs2;have hzv : zv.cells = #[Value.int .u8 0]:=Array.ext' (by rw [h6]);have hpk:=hw.pick hp;have hlm : (l ++ m).length = l.length + m.length:=List.length_append;have hmx : ((l.length + m.length : Nat) : Int) ≤ 9223372036854775807:=by simp only [maxLen] at hmax;omega
 rw [← hs1] at hfc hfc'
 have grow : cap < l.length + m.length → (Builtin.firstCells inf.size l.length (.slice a l.length cap)).run P w.drew = .ok (l.map bv).toArray w.drew →
   ∃ a' cap' w',(Builtin.append_ #[t,xt] ty #[.slice a l.length cap,x]).run P w = .ok (.slice a' (l ++ m).length cap') w' ∧ Qbo a cap (a',cap') (l ++ m).length ∧ HS w0 M (.byz a' cap' (l ++ m) :: As') w':=by
  intro hcap hold;have hfit:=growslice_fits hcap hroom;have hge:=grownCap_ge w (l.length + m.length) cap u8T;have hle:=grownCap_le_maxLen w (l.length + m.length) cap u8T hmax;refine ⟨some ⟨w.heap.size,0,none⟩,grownCap w (l.length + m.length) cap u8T,w.drew.alloc (.cells ((l.map bv).toArray ++ (m.map bv).toArray ++ Builtin.zeroCells zv.cells (grownCap w (l.length + m.length) cap u8T - (l.length + m.length))) u8T),?_,fun h=>by omega,?_⟩
  ·rw [hlm];exact QhW hu hxt hi h5 hlen hfc' hold hcap hmx hfit
  ·generalize grownCap w (l.length + m.length) cap u8T = N at *;refine ((hw.drew.pick hp).tail).alloc _ _ rfl (.inr ⟨_,rfl,by omega,hle,_,_,heap_alloc_new _ _,?_,?_,fun i hi=>?_,Nat.le_refl _,fun _ _ h=>absurd h (Nat.not_lt_zero _)⟩)
   ·rw [hzv,Qjm];simp only [Array.size_append,List.size_toArray,List.length_map,List.length_replicate];omega
   ·rw [QiB (by omega)];exact Nat.le_refl _
   ·rw [hzv,Qjm]
    have : Qd9 N (l ++ m) = l.map bv ++ m.map bv ++ List.replicate (N - (l.length + m.length)) (bv 0):=by
     unfold Qd9;rw [List.map_append,hlm]
    rw [this,← Array.getElem?_toList];simp only [Array.toList_append,List.append_assoc]
 rcases hpk.head with ⟨rfl,rfl,rfl⟩ | ⟨g,rfl,h2,h3,hb⟩
 ·rcases Nat.eq_zero_or_pos m.length with hm | hm
  ·have hm0 : m = []:=List.eq_nil_of_length_eq_zero hm;subst hm0;exact ⟨none,0,w,QeI hu hxt hi hlen (by simpa using hfc),fun _=>⟨rfl,rfl⟩,hpk⟩
  ·exact grow (by simp only [List.length_nil];omega) (by simp [Builtin.firstCells])
 ·by_cases hr : l.length + m.length ≤ cap
  ·obtain ⟨w',hst,hb',r1,r2,r3,r4,r5⟩:=Xt (P:=P) (b:=g) (i:=l.length) (m.map bv) 0 (Qd9 cap l) w hb (by rw [QiB h2,List.length_map];omega) (Qky m);refine ⟨some ⟨g,0,none⟩,cap,w',?_,fun _=>⟨rfl,rfl⟩,HS.swap hpk (B:=.byz (some ⟨g,0,none⟩) cap (l ++ m)) (fun _ h=>h) r1 r2 r3 r4 (fun k hk=>r5 k (by simpa [HA.fp_byz,Value.ownBlock] using hk)) (.inr ⟨g,rfl,by omega,h3,?_⟩)⟩
   ·rw [hlm];exact Qfu hu hxt hi hlen hfc (by rw [hs1,Nat.mul_one,Xm,Nat.zero_add];exact hst) hr
   ·rw [Nat.add_zero,Qrh (by omega)] at hb';exact hb'
  ·refine grow (by omega) ?_;rw [hs1]
   exact XA (w:=w.drew) (by simp) fun _=>⟨g,0,rfl,fun j u hu=>by
    have hc:=hb.less.cell hu
    simpa using hc⟩
section
variable {P : Program} {o : Oper} {L : Qb} {w0 : World} {M : List Nat} {As As' : List HA}
theorem Qau {t xt e' by' c cap : Nat} {a b : Option Addr} {s x : Operand} {l : List UInt8} (m : List UInt8) (ho : o.op = .call { callee:=.builtin .append,args:=#[s,x],argTypes:=#[t,xt] }) (hs : ev L s = some (.slice a l.length cap)) (hx : ev L x = some (.slice b m.length c)) (ht : tsl P t = some (u8T,1,by')) (hxt : P.underlying xt = some (.slice e')) (hz : QL P u8T = some [.int .u8 0])
  (hp : QD As (.byz a cap l) As') (hsrc : ∀ w,HS w0 M As w → Src b (m.map bv) w) (hroom : (l.length + m.length) * by' ≤ 140737488355328) (hmax : l.length + m.length ≤ maxLen) :
  OpH P o L (HS w0 M As) (fun g : Option Addr × Nat=>.slice g.1 (l ++ m).length g.2) (fun g=>Qbo a cap g (l ++ m).length) (fun g=>HS w0 M (.byz g.1 g.2 (l ++ m) :: As')):=by
 intro ρ w hρ hw;obtain ⟨a',cap',w',hr,hk,hw'⟩:=QfR (P:=P) (ty:=o.type) ht (.inr ⟨e',hxt⟩) hz hw hp (x:=.slice b m.length c) rfl (XA (by simp) (hsrc w hw)) (XA (w:=w.drew) (by simp) (hsrc w hw)) hroom hmax;simp only [execOp,ho,resolve,Sem.run_bind,Sem.run_pure,Result.andThen_ok,invoke,builtin,List.map_toArray,List.map_cons,List.map_nil,hρ _ _ hs,hρ _ _ hx,hr];exact ⟨(a',cap'),rfl,hk,hw'⟩
theorem Qb8 {t xt by' cap : Nat} {a : Option Addr} {s x : Operand} {l m : List UInt8} (ho : o.op = .call { callee:=.builtin .append,args:=#[s,x],argTypes:=#[t,xt] }) (hs : ev L s = some (.slice a l.length cap)) (hx : ev L x = some (.string (bs m))) (ht : tsl P t = some (u8T,1,by')) (hxt : P.underlying xt = some .string) (hz : QL P u8T = some [.int .u8 0])
  (hp : QD As (.byz a cap l) As') (hroom : (l.length + m.length) * by' ≤ 140737488355328) (hmax : l.length + m.length ≤ maxLen) :
  OpH P o L (HS w0 M As) (fun g : Option Addr × Nat=>.slice g.1 (l ++ m).length g.2) (fun g=>Qbo a cap g (l ++ m).length) (fun g=>HS w0 M (.byz g.1 g.2 (l ++ m) :: As')):=by
 intro ρ w hρ hw
 have hfc : ∀ w,(Builtin.firstCells 1 m.length (.string (bs m))).run P w = .ok (m.map bv).toArray w:=fun w=>by
  have hx : (bs m).extract 0 m.length = bs m:=(Qgb _).trans (congrArg bs (by rw [Lib.extract_data];simp));simp only [Builtin.firstCells,hx,Sem.run_pure];congr 1;simp [bs,bv]
 obtain ⟨a',cap',w',hr,hk,hw'⟩:=QfR (P:=P) (ty:=o.type) ht (.inl hxt) hz hw hp (x:=.string (bs m)) rfl (hfc _) (hfc _) hroom hmax;simp only [execOp,ho,resolve,Sem.run_bind,Sem.run_pure,Result.andThen_ok,invoke,builtin,List.map_toArray,List.map_cons,List.map_nil,hρ _ _ hs,hρ _ _ hx,hr];exact ⟨(a',cap'),rfl,hk,hw'⟩
end
end Gx
namespace Gx
open Go Go.RowKit
def ub1 (s : List UInt8) (i : Nat) : Nat:=(s.getD i 0).toNat
def ub2 (s : List UInt8) (i : Nat) : Nat:=ub1 s i + ub1 s (i + 1) * 256
def ub4 (s : List UInt8) (i : Nat) : Nat:=ub2 s i + ub2 s (i + 2) * 65536
theorem QlV (s : List UInt8) (i : Nat) : at1 s i = (ub1 s i : Int):=rfl
theorem Qb3 (s : List UInt8) (i : Nat) : at2 s i = (ub2 s i : Int):=by simp only [at2,ub2,QlV];omega
theorem QfA (s : List UInt8) (i : Nat) : at4 s i = (ub4 s i : Int):=by simp only [at4,ub4,Qb3];omega
theorem XV (s : List UInt8) (i : Nat) : ub1 s i < 256:=UInt8.toNat_lt _
theorem QcW (s : List UInt8) (i : Nat) : ub2 s i < 65536:=by have:=XV s i;have:=XV s (i + 1);unfold ub2;omega
theorem QlQ (s : List UInt8) (i : Nat) : ub4 s i < 4294967296:=by have:=QcW s i;have:=QcW s (i + 2);unfold ub4;omega
theorem Qlg (s : List UInt8) (k i : Nat) : ub1 (s.drop k) i = ub1 s (k + i):=by grind [ub1]
def QT (n : Nat) : Nat:=(n + 7) / 8 * 8
theorem Y1 (n : Nat) : n ≤ QT n ∧ QT n < n + 8:=by unfold QT;omega
def Ql (s : List UInt8) (i n : Nat) : List UInt8:=(s.drop i).take n
theorem Xh {s : List UInt8} {i n : Nat} (h : i + n ≤ s.length) : (Ql s i n).length = n:=by simp only [Ql,List.length_take,List.length_drop];omega
theorem Qdl (s : List UInt8) (k i n : Nat) : Ql (s.drop k) i n = Ql s (k + i) n:=by simp only [Ql,List.drop_drop]
theorem Zd {s : List UInt8} {i n j : Nat} (h : j < n) : (Ql s i n)[j]? = s[i + j]?:=by simp only [Ql,List.getElem?_take,h,if_true,List.getElem?_drop]
theorem Xl (s : List UInt8) (i n m : Nat) : Ql s i (n + m) = Ql s i n ++ Ql s (i + n) m:=by
 simp only [Ql,List.take_add,List.drop_drop]
def zer (l : List UInt8) : Bool:=l.all fun b=>decide (b = 0)
theorem QaL (l : List UInt8) : zer l = true ↔ l = List.replicate l.length 0:=by
 simp only [zer,List.all_eq_true,decide_eq_true_eq];constructor
 ·intro h;exact List.eq_replicate_iff.2 ⟨rfl,h⟩
 grind
theorem Qln (n : Nat) : zer (List.replicate n 0) = true:=by rw [QaL];simp
def TEnt.sz (x : TEnt) : Nat:=8 + x.key.length + x.val.length
def Qcr (x : TEnt) (c : Int) : List UInt8:=le2 (QT x.sz : Nat) ++ [by8 x.key.length,by8 x.val.length] ++ le4 c ++ x.key ++ x.val ++ List.replicate (QT x.sz - x.sz) 0
def Qd5 (c : Int) : List UInt8:=le2 8 ++ [0,0] ++ le4 c
theorem Qn6 (x : TEnt) (c : Int) : (Qcr x c).length = QT x.sz:=by
 have:=Y1 x.sz;have h : x.sz = 8 + x.key.length + x.val.length:=rfl
 grind [Qcr,le2,le4]
theorem Qov (c : Int) : (Qd5 c).length = 8:=rfl
theorem Qke (s : List UInt8) (i : Nat) : by8 (ub1 s i : Int) = s.getD i 0:=by
 have:=XV s i;unfold by8;rw [show ((ub1 s i : Int) % 256).toNat = (s.getD i 0).toNat by unfold ub1 at *;omega];simp
theorem Quj (s : List UInt8) (i : Nat) : le2 (ub2 s i : Int) = [s.getD i 0,s.getD (i + 1) 0]:=by grind [XV,le2,Qco,ub2,ub1,Qke]
theorem Que (s : List UInt8) (i : Nat) : le4 (ub4 s i : Int) = [s.getD i 0,s.getD (i + 1) 0,s.getD (i + 2) 0,s.getD (i + 3) 0]:=by
 have h1:=XV s i;have h2:=XV s (i + 1);have h3:=XV s (i + 2);have h4:=XV s (i + 3);have e : ub4 s i = ub1 s i + ub1 s (i + 1) * 256 + (ub1 s (i + 2) + ub1 s (i + 3) * 256) * 65536:=rfl;simp only [le4];rw [Qco (m:=(ub4 s i : Int)) (n:=(ub1 s i : Int)) (by omega),Qco (m:=(ub4 s i : Int) / 256) (n:=(ub1 s (i + 1) : Int)) (by omega),Qco (m:=(ub4 s i : Int) / 65536) (n:=(ub1 s (i + 2) : Int)) (by omega),Qco (m:=(ub4 s i : Int) / 16777216) (n:=(ub1 s (i + 3) : Int)) (by omega)];simp only [Qke]
theorem QbC {s : List UInt8} {i n : Nat} (h : i < s.length) : Ql s i (n + 1) = s.getD i 0 :: Ql s (i + 1) n:=by
 simp only [Ql];rw [List.drop_eq_getElem_cons h,List.take_succ_cons,List.getD_eq_getElem?_getD,List.getElem?_eq_getElem h];rfl
theorem QbK (s : List UInt8) (i : Nat) : Ql s i 0 = []:=by simp [Ql]
theorem Qfg {s : List UInt8} {i : Nat} (h : i + 2 ≤ s.length) : Ql s i 2 = le2 (ub2 s i : Int):=by grind [Quj,QbC,QbK]
theorem QhH {s : List UInt8} {i : Nat} (h : i + 4 ≤ s.length) : Ql s i 4 = le4 (ub4 s i : Int):=by grind [Que,QbC,QbK]
theorem QkZ {a b : Int} (h : by8 a = by8 b) : a % 256 = b % 256:=by grind [Qbx]
theorem Qrp {a b : Int} (h : le2 a = le2 b) : a % 65536 = b % 65536:=by grind [le2,QkZ]
theorem QrV {a b : Int} (h : le4 a = le4 b) : a % 4294967296 = b % 4294967296:=by grind [le4,QkZ]
def Q3 (s : List UInt8) (p : Nat) : TEnt:=⟨Ql s (p + 8) (ub1 s (p + 2)),Ql s (p + 8 + ub1 s (p + 2)) (ub1 s (p + 3))⟩
def Q9 (s : List UInt8) (p : Nat) : Nat:=8 + ub1 s (p + 2) + ub1 s (p + 3)
def Yt (x : TEnt) (c : Nat) : Bool:=decide (1 ≤ x.key.length ∧ x.key.length ≤ 40 ∧ x.val.length ≤ 64 ∧ x.key.length + x.val.length ≤ 88 ∧ c ≤ 120)
def YT (s : List UInt8) (p : Nat) : Bool:=decide (p + 8 ≤ s.length ∧ ub2 s p = QT (Q9 s p) ∧ p + ub2 s p ≤ s.length) && (zer (Ql s (p + Q9 s p) (ub2 s p - Q9 s p)) && Yt (Q3 s p) (ub4 s (p + 4)))
theorem QcE {s : List UInt8} {p : Nat} (h : p + Q9 s p ≤ s.length) : (Q3 s p).sz = Q9 s p ∧ (Q3 s p).key.length = ub1 s (p + 2) ∧ (Q3 s p).val.length = ub1 s (p + 3):=by grind [Q9,Q3,ub1,Xh,TEnt.sz]
theorem Qq8 {s : List UInt8} {p : Nat} (h : p + Q9 s p ≤ s.length) : Ql s p (Q9 s p) = le2 (ub2 s p : Int) ++ [by8 (ub1 s (p + 2) : Int),by8 (ub1 s (p + 3) : Int)] ++ le4 (ub4 s (p + 4) : Int) ++ (Q3 s p).key ++ (Q3 s p).val:=by
 have h9 : Q9 s p = 2 + (1 + (1 + (4 + (ub1 s (p + 2) + ub1 s (p + 3))))):=by unfold Q9;omega
 unfold Q9 at h;rw [h9,Xl,Qfg (by omega),Xl,show (1 : Nat) = 0 + 1 from rfl,QbC (by omega),QbK,Xl,show (1 : Nat) = 0 + 1 from rfl,QbC (by omega),QbK,Xl,QhH (by omega),Xl]
 grind [Qke,Q3]
theorem Qlv {s : List UInt8} {p : Nat} (hn : p + ub2 s p ≤ s.length) (ht : Q9 s p ≤ ub2 s p) : (Qcr (Q3 s p) (ub4 s (p + 4) : Int) = Ql s p (ub2 s p)) ↔ (ub2 s p = QT (Q9 s p) ∧ zer (Ql s (p + Q9 s p) (ub2 s p - Q9 s p)) = true):=by
 obtain ⟨e1,e2,e3⟩:=QcE (s:=s) (p:=p) (by omega);have hh:=Qq8 (s:=s) (p:=p) (by omega);have hlt:=QcW s p;have hk:=XV s (p + 2);have hv:=XV s (p + 3);have hp:=Y1 (Q9 s p);have hs : Q9 s p = 8 + ub1 s (p + 2) + ub1 s (p + 3):=rfl;have hsplit : Ql s p (ub2 s p) = Ql s p (Q9 s p) ++ Ql s (p + Q9 s p) (ub2 s p - Q9 s p):=by rw [← Xl];congr 1;omega
 have hlen : (Ql s (p + Q9 s p) (ub2 s p - Q9 s p)).length = ub2 s p - Q9 s p:=Xh (by omega);have hE : Qcr (Q3 s p) (ub4 s (p + 4) : Int) = le2 (QT (Q9 s p) : Nat) ++ ([by8 (ub1 s (p + 2) : Int),by8 (ub1 s (p + 3) : Int)] ++ le4 (ub4 s (p + 4) : Int) ++ (Q3 s p).key ++ (Q3 s p).val ++ List.replicate (QT (Q9 s p) - Q9 s p) 0):=by grind [Qcr]
 have hS : Ql s p (ub2 s p) = le2 (ub2 s p : Nat) ++ ([by8 (ub1 s (p + 2) : Int),by8 (ub1 s (p + 3) : Int)] ++ le4 (ub4 s (p + 4) : Int) ++ (Q3 s p).key ++ (Q3 s p).val ++ Ql s (p + Q9 s p) (ub2 s p - Q9 s p)):=by grind
 constructor
 ·intro h;rw [hE,hS] at h;obtain ⟨h1,h2⟩:=List.append_inj h rfl;have h3:=Qrp h1;have h4 : ub2 s p = QT (Q9 s p):=by omega
  refine ⟨h4,?_⟩;have h5:=List.append_cancel_left h2;rw [← h5];exact Qln _
 grind [QaL]
theorem Qkv {s : List UInt8} {p : Nat} (h8 : p + 8 ≤ s.length) (hn : p + ub2 s p ≤ s.length) (ht : Q9 s p ≤ ub2 s p) : (Qd5 (ub4 s (p + 4) : Int) = Ql s p (ub2 s p)) ↔ (ub2 s p = 8 ∧ ub2 s (p + 2) = 0):=by
 have hs : Q9 s p = 8 + ub1 s (p + 2) + ub1 s (p + 3):=rfl;have hd : ub2 s (p + 2) = ub1 s (p + 2) + ub1 s (p + 3) * 256:=rfl
 have h4 : Ql s p 8 = le2 (ub2 s p : Int) ++ (le2 (ub2 s (p + 2) : Int) ++ le4 (ub4 s (p + 4) : Int)):=by
  rw [show 8 = 2 + (2 + 4) from rfl,Xl,Qfg (by omega),Xl,Qfg (by omega),QhH (by omega)]
 constructor
 ·grind [Qov,Xh]
 ·rintro ⟨h1,h2⟩;rw [h1,h4,h1,h2];rfl
structure RdS where
 es : List TEnt
 cs : List Int
 p : Nat
def rdE (s : List UInt8) (p0 : Nat) : Nat → Option RdS
 | 0=>some ⟨[],[],p0⟩
 | k + 1=>match rdE s p0 k with
  | none=>none
  | some r=>if YT s r.p then some ⟨r.es ++ [Q3 s r.p],r.cs ++ [(ub4 s (r.p + 4) : Int)],r.p + ub2 s r.p⟩ else none
def YR (s : List UInt8) (p : Nat) : Bool:=decide (p + 8 ≤ s.length ∧ ub2 s p = 8 ∧ ub2 s (p + 2) = 0 ∧ ub4 s (p + 4) ≤ 120)
def noz (l : List Int) : Bool:=l.all fun c=>decide (c ≠ 0)
def Qdm (l : List Int) : Bool:=l.all fun c=>decide (c = 0)
def rdN (s : List UInt8) (p0 k : Nat) : Option (Nd × Nat):=match rdE s p0 k with
 | none=>none
 | some r=>if YR s r.p then (if noz (r.cs ++ [(ub4 s (r.p + 4) : Int)]) then some (⟨true,r.es,r.cs ++ [(ub4 s (r.p + 4) : Int)]⟩,r.p + 8) else if Qdm (r.cs ++ [(ub4 s (r.p + 4) : Int)]) then some (⟨true,r.es,[]⟩,r.p + 8) else none) else none
theorem Qnx {s : List UInt8} {p0 k : Nat} (h : rdE s p0 k = none) : ∀ j,k ≤ j → rdE s p0 j = none:=by
 intro j hj
 induction j <;> grind [rdE]
theorem QuS {s : List UInt8} {p0 k j : Nat} {r : RdS} (h : rdE s p0 k = some r) (hs : YT s r.p = false) (hj : k < j) : rdE s p0 j = none:=
 Qnx (k:=k + 1) (by simp only [rdE,h,hs];rfl) j hj
theorem Qc1 {s : List UInt8} {p0 k : Nat} {r : RdS} (h : rdE s p0 k = some r) (hs : YT s r.p = true) : rdE s p0 (k + 1) = some ⟨r.es ++ [Q3 s r.p],r.cs ++ [(ub4 s (r.p + 4) : Int)],r.p + ub2 s r.p⟩:=by grind [rdE]
theorem YV {s : List UInt8} {p : Nat} : YT s p = true ↔ (p + 8 ≤ s.length ∧ ub2 s p = QT (Q9 s p) ∧ p + ub2 s p ≤ s.length) ∧ zer (Ql s (p + Q9 s p) (ub2 s p - Q9 s p)) = true ∧ Yt (Q3 s p) (ub4 s (p + 4)) = true:=by grind [YT]
theorem QaW {s : List UInt8} {p0 : Nat} (h0 : p0 ≤ s.length) : ∀ {k : Nat} {r : RdS},rdE s p0 k = some r → r.es.length = k ∧ r.cs.length = k ∧ p0 ≤ r.p ∧ r.p ≤ s.length ∧ r.p ≤ p0 + 96 * k ∧ (∀ x ∈ r.es,Yt x 0 = true) ∧ ∀ c ∈ r.cs,0 ≤ c ∧ c ≤ 120
 | 0,r,h=>by
  injection h with h
  grind
 | k + 1,r,h=>by
  cases hk : rdE s p0 k with
  | none=>simp only [rdE,hk] at h;cases h
  | some q=>
   obtain ⟨h1,h2,h3,h4,h5,h6,h7⟩:=QaW h0 hk;cases hs : YT s q.p with
   | false=>simp only [rdE,hk,hs] at h;cases h
   | true=>
    rw [Qc1 hk hs] at h;injection h with h
    subst h;obtain ⟨⟨g1,g2,g3⟩,g4,g5⟩:=YV.1 hs
    grind [Y1,Q9,QcE,Yt,ub1,QT]
def YS (cs : List Int) (i : Nat) : Int:=if cs.length = 0 then 0 else cs.getD i 0
def XU (n : Nd) : Nat → List UInt8
 | 0=>[]
 | k + 1=>XU n k ++ Qcr (nth n.es k) (YS n.cs k)
def YG (n : Nd) : List UInt8:=XU n n.es.length ++ Qd5 (YS n.cs n.es.length)
theorem Qg9 {s : List UInt8} {p0 : Nat} (h0 : p0 ≤ s.length) {n : Nd} : ∀ {k : Nat} {r : RdS},rdE s p0 k = some r → k ≤ n.es.length → (∀ i,i < k → nth n.es i = nth r.es i ∧ YS n.cs i = r.cs.getD i 0) → XU n k = Ql s p0 (r.p - p0)
 | 0,r,h,_,_=>by
  injection h with h
  subst h;simp [XU,Ql]
 | k + 1,r,h,hk,hn=>by
  cases hq : rdE s p0 k with
  | none=>simp only [rdE,hq] at h;cases h
  | some q=>
   obtain ⟨h1,h2,h3,h4,_⟩:=QaW h0 hq;cases hs : YT s q.p with
   | false=>simp only [rdE,hq,hs] at h;cases h
   | true=>
    rw [Qc1 hq hs] at h;injection h with h
    subst h;obtain ⟨⟨g1,g2,g3⟩,g4,g5⟩:=YV.1 hs;have hp:=Y1 (Q9 s q.p)
    have ih:=Qg9 h0 (n:=n) hq (by omega) (fun i hi=>by
     obtain ⟨a1,a2⟩:=hn i (by omega);rw [a1,a2];constructor
     ·unfold nth;rw [List.getD_eq_getElem?_getD,List.getElem?_append_left (by omega),← List.getD_eq_getElem?_getD]
     ·rw [List.getD_eq_getElem?_getD,List.getElem?_append_left (by omega),← List.getD_eq_getElem?_getD])
    obtain ⟨a1,a2⟩:=hn k (by omega);have ub1' : nth (q.es ++ [Q3 s q.p]) k = Q3 s q.p:=by grind [nth]
    have ub2' : (q.cs ++ [(ub4 s (q.p + 4) : Int)]).getD k 0 = (ub4 s (q.p + 4) : Int):=by grind
    rw [XU,ih,a1,a2,ub1',ub2',(Qlv g3 (by omega)).2 ⟨g2,g4⟩];simp only [];rw [show q.p + ub2 s q.p - p0 = (q.p - p0) + ub2 s q.p by omega,Xl,show p0 + (q.p - p0) = q.p by omega]
theorem QhA {s : List UInt8} {p0 k : Nat} (h0 : p0 ≤ s.length) {n : Nd} {e : Nat} (h : rdN s p0 k = some (n,e)) : YG n = Ql s p0 (e - p0) ∧ p0 + 8 ≤ e ∧ e ≤ s.length ∧ e ≤ p0 + 96 * k + 8 ∧ n.us = true ∧ n.es.length = k ∧ (n.cs.length = 0 ∨ n.cs.length = k + 1) ∧ (∀ x ∈ n.es,Yt x 0 = true) ∧ ∀ c ∈ n.cs,1 ≤ c ∧ c ≤ 120:=by
 unfold rdN at h;cases hq : rdE s p0 k with
 | none=>rw [hq] at h;cases h
 | some r=>
  rw [hq] at h;simp only [] at h;obtain ⟨h1,h2,h3,h4,h5,h6,h7⟩:=QaW h0 hq;split at h
  ·rename_i he;simp only [YR,decide_eq_true_eq] at he;obtain ⟨g1,g2,g3,g4⟩:=he;have hb2 : ub2 s (r.p + 2) = ub1 s (r.p + 2) + ub1 s (r.p + 3) * 256:=rfl;have hsz : Q9 s r.p = 8 + ub1 s (r.p + 2) + ub1 s (r.p + 3):=rfl;have hend:=(Qkv (s:=s) (p:=r.p) g1 (by omega) (by omega)).2 ⟨g2,g3⟩;rw [g2] at hend
   have hfin : Ql s p0 (r.p + 8 - p0) = Ql s p0 (r.p - p0) ++ Ql s r.p 8:=by
    rw [show r.p + 8 - p0 = (r.p - p0) + 8 by omega,Xl,show p0 + (r.p - p0) = r.p by omega]
   split at h
   ·rename_i hz;injection h with h
    injection h with e1 e2
    subst e1 e2
    grind [YS,ub4,YG,Qg9,hi,noz]
   ·split at h
    ·rename_i hz;injection h with h
     injection h with e1 e2
     subst e1 e2;refine ⟨?_,by omega,by omega,by omega,rfl,h1,.inl rfl,h6,by simp⟩
     have hall : ∀ i,i ≤ k → (r.cs ++ [(ub4 s (r.p + 4) : Int)]).getD i 0 = 0:=fun i hi=>by
      simp only [Qdm,List.all_eq_true,decide_eq_true_eq] at hz;have hl : i < (r.cs ++ [(ub4 s (r.p + 4) : Int)]).length:=by simp;omega
      have:=hz _ (List.getElem_mem hl);rw [List.getD_eq_getElem?_getD,List.getElem?_eq_getElem hl];exact this
     have hlast:=hall k (Nat.le_refl _);rw [List.getD_eq_getElem?_getD,List.getElem?_append_right (by omega),h2,Nat.sub_self] at hlast;have hlast : (ub4 s (r.p + 4) : Int) = 0:=hlast;unfold YG;simp only []
     rw [h1,Qg9 h0 (n:=⟨true,r.es,[]⟩) hq (Nat.le_of_eq h1.symm) (fun i hi=>⟨rfl,by
      have:=hall i (by omega);rw [List.getD_eq_getElem?_getD,List.getElem?_append_left (by omega),← List.getD_eq_getElem?_getD] at this;rw [this];rfl⟩),hfin,← hend,hlast]
     rfl
    ·cases h
  ·cases h
theorem Qmf {s : List UInt8} {i n j m : Nat} (h : j + m ≤ n) : Ql (Ql s i n) j m = Ql s (i + j) m:=by
 simp only [Ql,List.drop_take,List.take_take,List.drop_drop]
 grind
theorem QtQ {s : List UInt8} {p n j : Nat} (h : j < n) : ub1 (Ql s p n) j = ub1 s (p + j):=by grind [ub1,Zd]
theorem QuZ {s : List UInt8} {p n j : Nat} (h : j + 1 < n) : ub2 (Ql s p n) j = ub2 s (p + j):=by grind [ub2,QtQ]
structure NdW (n : Nd) : Prop where
 us : n.us = true
 es : ∀ x ∈ n.es,Yt x 0 = true
 cl : n.cs.length = 0 ∨ n.cs.length = n.es.length + 1
 cs : ∀ c ∈ n.cs,1 ≤ c ∧ c ≤ 120
def QC (s : List UInt8) (at' : Nat) (l : List UInt8) : List UInt8:=s.take at' ++ l ++ s.drop (at' + l.length)
theorem Xw {s l : List UInt8} {a : Nat} (h : a + l.length ≤ s.length) : (QC s a l).length = s.length:=by grind [QC]
theorem Yh {s l : List UInt8} {a : Nat} (h : a + l.length ≤ s.length) (j : Nat) : (QC s a l)[j]? = if j < a then s[j]? else if j < a + l.length then l[j - a]? else s[j]?:=by grind [QC]
theorem QaG {s l : List UInt8} {a i n : Nat} (h : a + l.length ≤ s.length) (hd : i + n ≤ a ∨ a + l.length ≤ i) : Ql (QC s a l) i n = Ql s i n:=by
 apply List.ext_getElem?
 grind [Zd,Yh,Ql]
def tlA (i : Nat) : Nat:=64 * i + 62
def prI (s : List UInt8) (u : Int) : Nat → List UInt8
 | 0=>QC s 40 (le2 u)
 | i + 1=>QC (QC (prI s u i) (42 + 2 * i) (Ql (prI s u i) (tlA i) 2)) (tlA i) (le2 u)
def Qa1 (s : List UInt8) (u : Int) : List UInt8:=prI s u 8
def opI (s : List UInt8) : Nat → List UInt8
 | 0=>s
 | i + 1=>QC (opI s i) (tlA i) (Ql (opI s i) (42 + 2 * i) 2)
def Qat (s : List UInt8) (i : Nat) : Bool:=decide (ub2 s 40 = 0 ∨ ub2 s (tlA i) ≠ ub2 s 40)
def Xr (s : List UInt8) : Bool:=(List.range 8).any (Qat s)
def QE (s : List UInt8) : List UInt8:=QC (opI s 8) 40 (List.replicate 18 0)
theorem Qc0 {s : List UInt8} {u : Int} (h : s.length = 512) : ∀ i,i ≤ 8 → (prI s u i).length = 512
 | 0,_=>by
  show (QC s 40 (le2 u)).length = _
  grind [Xw,le2]
 | i + 1,hi=>by
  have ih:=Qc0 (u:=u) h i (by omega);have h2 : (Ql (prI s u i) (tlA i) 2).length = 2:=Xh (by unfold tlA;omega);show (QC (QC _ _ _) _ (le2 u)).length = _
  grind [Xw,le2,tlA]
theorem ZE {s : List UInt8} (h : s.length = 512) : ∀ i,i ≤ 8 → (opI s i).length = 512
 | 0,_=>h
 | i + 1,hi=>by
  have ih:=ZE h i (by omega)
  grind [Ql,opI,Xh,QC,Xw,tlA]
theorem Qlz {s : List UInt8} {u : Int} (h : s.length = 512) : ∀ i,i ≤ 8 → ∀ j,(prI s u i)[j]? = if j < 40 then s[j]? else if j < 42 then (le2 u)[j - 40]? else if j < 42 + 2 * i then s[tlA ((j - 42) / 2) + (j - 42) % 2]? else if j < 64 * i ∧ 62 ≤ j % 64 then (le2 u)[j % 64 - 62]? else s[j]?
 | 0,_,j=>by
  have hle : (le2 u).length = 2:=rfl;show (QC s 40 (le2 u))[j]? = _
  grind [Yh]
 | i + 1,hi,j=>by
  have hl:=Qc0 (u:=u) h i (by omega);have ih:=Qlz (u:=u) h i (by omega);have h2 : (Ql (prI s u i) (tlA i) 2).length = 2:=Xh (by unfold tlA;omega);have h3 : (QC (prI s u i) (42 + 2 * i) (Ql (prI s u i) (tlA i) 2)).length = 512:=by rw [Xw (by rw [h2,hl];omega),hl]
  show (QC (QC _ _ _) _ (le2 u))[j]? = _;rw [Yh (by rw [h3];simp only [le2,List.length_cons,List.length_nil,tlA];omega),Yh (by rw [h2,hl];omega),h2];have hle : (le2 u).length = 2:=rfl;rw [hle]
  have e1 : ∀ k,(Ql (prI s u i) (tlA i) 2)[k]? = if k < 2 then s[tlA i + k]? else none:=fun k=>by
   by_cases hk : k < 2
   ·rw [if_pos hk,Zd hk,ih];unfold tlA;rw [if_neg (by omega)]
    by_cases hi0 : 64 * i + 62 + k < 42
    ·omega
    ·rw [if_neg hi0];rw [if_neg (by omega),if_neg (by omega)]
   ·rw [if_neg hk,List.getElem?_eq_none (by rw [h2];omega)]
  rw [e1,ih];unfold tlA
  repeat' split
  all_goals first | rfl | (exfalso;omega) | (congr 1;omega)
theorem Qnn {s : List UInt8} {i j : Nat} (h : i = j) : s[i]? = s[j]?:=by rw [h]
theorem QkR {s : List UInt8} (h : s.length = 512) : ∀ i,i ≤ 8 → ∀ j,(opI s i)[j]? = if j < 64 * i ∧ 62 ≤ j % 64 then s[42 + 2 * (j / 64) + (j % 64 - 62)]? else s[j]?
 | 0,_,j=>by
  rw [if_neg (by omega)];rfl
 | i + 1,hi,j=>by
  have hl:=ZE h i (by omega);have ih:=QkR h i (by omega);have h2 : (Ql (opI s i) (42 + 2 * i) 2).length = 2:=Xh (by omega);show (QC _ _ _)[j]? = _;rw [Yh (by rw [h2,hl];unfold tlA;omega),h2];unfold tlA
  by_cases c1 : 64 * i + 62 ≤ j ∧ j < 64 * i + 64
  ·rw [if_neg (by omega),if_pos (by omega),if_pos (by omega),Zd (by omega),ih,if_neg (by omega)];congr 1;omega
  ·have e : (if j < 64 * i + 62 then (opI s i)[j]? else if j < 64 * i + 62 + 2 then (Ql (opI s i) (42 + 2 * i) 2)[j - (64 * i + 62)]? else (opI s i)[j]?) = (opI s i)[j]?:=by
    split
    ·rfl
    ·rw [if_neg (by omega)]
   refine e.trans ?_;rw [ih]
   by_cases d : j < 64 * i ∧ 62 ≤ j % 64
   ·rw [if_pos d,if_pos (by omega)]
   ·rw [if_neg d,if_neg (by omega)]
theorem YU {s : List UInt8} (h : s.length = 512) : (QE s).length = 512:=by
 unfold QE;rw [Xw (by rw [ZE h 8 (by omega)];simp),ZE h 8 (by omega)]
theorem Qaj {s : List UInt8} (h : s.length = 512) (j : Nat) : (QE s)[j]? = if 40 ≤ j ∧ j < 58 then some 0 else if j < 512 ∧ 62 ≤ j % 64 then s[42 + 2 * (j / 64) + (j % 64 - 62)]? else s[j]?:=by
 unfold QE;rw [Yh (by rw [ZE h 8 (by omega)];simp),QkR h 8 (by omega),List.length_replicate]
 by_cases c : 40 ≤ j ∧ j < 58
 ·rw [if_pos c,if_neg (by omega),if_pos (by omega),List.getElem?_replicate,if_pos (by omega)]
 ·rw [if_neg c];split
  ·rfl
  ·rw [if_neg (by omega)]
theorem QmC {s : List UInt8} {u : Int} (h : s.length = 512) : (Qa1 s u).length = 512:=Qc0 h 8 (by omega)
theorem YW {s : List UInt8} {u : Int} (h : s.length = 512) (j : Nat) : (Qa1 s u)[j]? = if j < 40 then s[j]? else if j < 42 then (le2 u)[j - 40]? else if j < 58 then s[tlA ((j - 42) / 2) + (j - 42) % 2]? else if j < 512 ∧ 62 ≤ j % 64 then (le2 u)[j % 64 - 62]? else s[j]?:=Qlz h 8 (by omega) j
theorem Qp0 {s t : List UInt8} {i j : Nat} (h : s[i]? = t[j]?) : ub1 s i = ub1 t j:=by simp only [ub1,List.getD_eq_getElem?_getD,h]
theorem Qp1 {s t : List UInt8} {i j : Nat} (h : s[i]? = t[j]?) (h2 : s[i + 1]? = t[j + 1]?) : ub2 s i = ub2 t j:=by simp only [ub2,Qp0 h,Qp0 h2]
theorem QnS {u : Int} (h : 0 ≤ u ∧ u < 65536) : (ub2 (le2 u) 0 : Int) = u:=by
 have e0 : ub1 (le2 u) 0 = (by8 u).toNat:=rfl;have e1 : ub1 (le2 u) 1 = (by8 (u / 256)).toNat:=rfl;have f0:=Qbx u;have f1:=Qbx (u / 256);unfold ub2;rw [e0,e1];omega
theorem QqH {s : List UInt8} {u : Int} (h : s.length = 512) (hu : 0 ≤ u ∧ u < 65536) : (ub2 (Qa1 s u) 40 : Int) = u:=by
 rw [Qp1 (t:=le2 u) (j:=0) (by rw [YW h,if_neg (by omega),if_pos (by omega)]) (by rw [YW h,if_neg (by omega),if_pos (by omega)])];exact QnS hu
theorem Qmk {s : List UInt8} {u : Int} (h : s.length = 512) (hu : 0 ≤ u ∧ u < 65536) {i : Nat} (hi : i < 8) : (ub2 (Qa1 s u) (tlA i) : Int) = u:=by
 rw [Qp1 (t:=le2 u) (j:=0) (by unfold tlA;rw [YW h,if_neg (by omega),if_neg (by omega),if_neg (by omega),if_pos (by omega)];congr 1;omega) (by unfold tlA;rw [YW h,if_neg (by omega),if_neg (by omega),if_neg (by omega),if_pos (by omega)];congr 1;omega)];exact QnS hu
theorem Qu9 {s : List UInt8} {u : Int} (h : s.length = 512) (hu : 1 ≤ u ∧ u < 65536) : Xr (Qa1 s u) = false:=by
 cases hb : Xr (Qa1 s u) with
 | false=>rfl
 | true=>
  simp only [Xr,List.any_eq_true,List.mem_range,Qat,decide_eq_true_eq] at hb;obtain ⟨i,hi,hh⟩:=hb;have h1:=QqH h (u:=u) (by omega);have h2:=Qmk h (u:=u) (by omega) hi;omega
theorem Qop {s : List UInt8} {i n : Nat} (h : zer (Ql s i n) = true) (hl : i + n ≤ s.length) {j : Nat} (h1 : i ≤ j) (h2 : j < i + n) : s[j]? = some 0:=by
 have h3 : s[j]? = (Ql s i n)[j - i]?:=by rw [Zd (by omega)];congr 1;omega
 rw [QaL,Xh hl] at h;rw [h3,h,List.getElem?_replicate,if_pos (by omega)]
theorem Qm9 {s : List UInt8} {u : Int} (h : s.length = 512) (hz : zer (Ql s 40 18) = true) : QE (Qa1 s u) = s:=by
 have hl:=QmC (u:=u) h;apply List.ext_getElem?;intro j;rw [Qaj hl]
 by_cases c : 40 ≤ j ∧ j < 58
 ·rw [if_pos c,Qop hz (by omega) c.1 (by omega)]
 ·rw [if_neg c]
  by_cases c2 : j < 512 ∧ 62 ≤ j % 64
  ·rw [if_pos c2,YW h,if_neg (by omega),if_neg (by omega),if_pos (by omega)];exact Qnn (by unfold tlA;omega)
  ·rw [if_neg c2,YW h]
   by_cases d1 : j < 40
   ·rw [if_pos d1]
   ·rw [if_neg d1,if_neg (by omega),if_neg (by omega),if_neg (by omega)]
theorem QiA {s : List UInt8} : Xr s = false ↔ ub2 s 40 ≠ 0 ∧ ∀ i,i < 8 → ub2 s (tlA i) = ub2 s 40:=by
 constructor
 ·intro h
  have h2 : ∀ i,i < 8 → ¬ (ub2 s 40 = 0 ∨ ub2 s (tlA i) ≠ ub2 s 40):=by
   intro i hi hb;have : Xr s = true:=List.any_eq_true.2 ⟨i,List.mem_range.2 hi,decide_eq_true hb⟩;rw [this] at h;cases h
  have:=h2 0 (by omega);exact ⟨by omega,fun i hi=>by have:=h2 i hi;omega⟩
 ·rintro ⟨h1,h2⟩;cases hb : Xr s with
  | false=>rfl
  | true=>
   simp only [Xr,List.any_eq_true,List.mem_range,Qat,decide_eq_true_eq] at hb;obtain ⟨i,hi,hh⟩:=hb;have:=h2 i hi;omega
theorem Qil {s : List UInt8} {i j : Nat} (h : ub2 s i = ub2 s j) : ub1 s i = ub1 s j ∧ ub1 s (i + 1) = ub1 s (j + 1):=by
 have h1:=XV s i;have h2:=XV s (i + 1);have h3:=XV s j;have h4:=XV s (j + 1);unfold ub2 at h;omega
theorem QjM {s t : List UInt8} {i j : Nat} (hi : i < s.length) (hj : j < t.length) (h : ub1 s i = ub1 t j) : s[i]? = t[j]?:=by
 simp only [ub1,List.getD_eq_getElem?_getD,List.getElem?_eq_getElem hi,List.getElem?_eq_getElem hj,Option.getD_some] at h;rw [List.getElem?_eq_getElem hi,List.getElem?_eq_getElem hj];exact congrArg _ (UInt8.toNat_inj.1 h)
theorem QlS {s : List UInt8} {i j : Nat} (hi : i + 1 < s.length) (hj : j < 2) : (le2 (ub2 s i : Int))[j]? = s[i + j]?:=by
 rw [← Qfg (by omega),Zd hj]
theorem QmA {s : List UInt8} (h : s.length = 512) (ht : Xr s = false) : Qa1 (QE s) (ub2 s 40 : Int) = s:=by
 have hl:=YU h;obtain ⟨h1,h2⟩:=QiA.1 ht;apply List.ext_getElem?;intro j;rw [YW hl]
 by_cases c1 : j < 40
 ·rw [if_pos c1,Qaj h,if_neg (by omega),if_neg (by omega)]
 ·rw [if_neg c1]
  by_cases c2 : j < 42
  ·rw [if_pos c2,QlS (by omega) (by omega)];exact Qnn (by omega)
  ·rw [if_neg c2]
   by_cases c3 : j < 58
   ·rw [if_pos c3];unfold tlA;rw [Qaj h,if_neg (by omega),if_pos (by omega)];exact Qnn (by omega)
   ·rw [if_neg c3]
    by_cases c4 : j < 512 ∧ 62 ≤ j % 64
    ·rw [if_pos c4,QlS (by omega) (by omega)];have h3:=Qil (h2 (j / 64) (by omega));unfold tlA at h3
     by_cases c5 : j % 64 = 62
     ·rw [c5];exact QjM (by omega) (by omega) (by rw [show j = 64 * (j / 64) + 62 by omega];exact h3.1.symm)
     ·rw [show j % 64 - 62 = 1 by omega];exact QjM (by omega) (by omega) (by rw [show j = 64 * (j / 64) + 62 + 1 by omega];exact h3.2.symm)
    ·rw [if_neg c4,Qaj h,if_neg (by omega),if_neg c4]
theorem QjF {s : List UInt8} (h : s.length = 512) : zer (Ql (QE s) 40 18) = true:=by
 have hl:=YU h;rw [QaL,Xh (by omega)];apply List.ext_getElem?;intro j;rcases Nat.lt_or_ge j 18 with hj | hj
 ·rw [Zd hj,Qaj h,if_pos (by omega),List.getElem?_replicate,if_pos hj]
 ·rw [List.getElem?_eq_none (by rw [Xh (by omega)];omega),List.getElem?_eq_none (by simp;omega)]
def Qc4 : List UInt8:=[73,78,68,88]
def hdB (num lsn : Int) (count : Nat) : List UInt8:=Qc4 ++ List.replicate 4 0 ++ le4 lsn ++ le4 num ++ le2 count ++ List.replicate 46 0
def Qch (n : Nd) (num lsn : Int) : List UInt8:=hdB num lsn n.es.length ++ YG n ++ List.replicate (448 - (YG n).length) 0
def Qf1 (n : Nd) (num lsn usn : Int) : List UInt8:=Qa1 (Qch n num lsn) usn
theorem QaA (num lsn : Int) (c : Nat) : (hdB num lsn c).length = 64:=rfl
theorem Qji {n : Nd} {num lsn : Int} (h : (YG n).length ≤ 448) : (Qch n num lsn).length = 512:=by
 unfold Qch;rw [List.length_append,List.length_append,QaA,List.length_replicate];omega
theorem Qr3 {n : Nd} {num lsn : Int} : Ql (Qch n num lsn) 0 64 = hdB num lsn n.es.length:=by
 unfold Qch Ql;rw [List.append_assoc,List.drop_zero,show (64 : Nat) = (hdB num lsn n.es.length).length from rfl,List.take_left]
theorem Qgy {n : Nd} {num lsn : Int} : zer (Ql (Qch n num lsn) 40 18) = true:=by
 have h : Ql (Ql (Qch n num lsn) 0 64) 40 18 = Ql (hdB num lsn n.es.length) 40 18:=by rw [Qr3]
 rw [Qmf (by omega),Nat.zero_add] at h;rw [h];rfl
def QfW (s : List UInt8) (num : Int) : Bool:=decide (s.take 4 = Qc4) && (zer (Ql s 4 4) && (decide (ub4 s 8 ≤ 2147483647) && (decide ((ub4 s 12 : Int) = num) && (zer (Ql s 18 22) && zer (Ql s 58 6)))))
theorem Qt7 {s : List UInt8} {num : Int} {c : Nat} (h : 64 ≤ s.length) (hc : c = ub2 s 16) (hn : 0 ≤ num ∧ num < 4294967296) (hz : zer (Ql s 40 18) = true) (hlsn : ub4 s 8 ≤ 2147483647) : hdB num (ub4 s 8 : Int) c = Ql s 0 64 ↔ QfW s num = true:=by
 subst hc
 have e : Ql s 0 64 = s.take 4 ++ Ql s 4 4 ++ le4 (ub4 s 8 : Int) ++ le4 (ub4 s 12 : Int) ++ le2 (ub2 s 16 : Int) ++ (Ql s 18 22 ++ (Ql s 40 18 ++ Ql s 58 6)):=by
  rw [show 64 = 4 + (4 + (4 + (4 + (2 + (22 + (18 + 6)))))) from rfl,Xl,Xl,Xl,Xl,Xl,Xl,Xl];simp only [Nat.zero_add,Nat.reduceAdd];rw [QhH (i:=8) (by omega),QhH (i:=12) (by omega),Qfg (i:=16) (by omega),show Ql s 0 4 = s.take 4 by simp [Ql]];simp only [List.append_assoc]
 have z18:=(QaL _).1 hz;rw [Xh (by omega)] at z18;have er : List.replicate 46 (0 : UInt8) = List.replicate 22 0 ++ (List.replicate 18 0 ++ List.replicate 6 0):=rfl;have l4 : (s.take 4).length = 4:=by simp only [List.length_take];omega
 have l44 : (Ql s 4 4).length = 4:=Xh (by omega);constructor
 ·intro hh;rw [e] at hh;unfold hdB at hh;obtain ⟨hh,f6⟩:=List.append_inj hh (by simp only [List.length_append,l4,l44];rfl);obtain ⟨hh,f5⟩:=List.append_inj hh (by simp only [List.length_append,l4,l44];rfl);obtain ⟨hh,f4⟩:=List.append_inj hh (by simp only [List.length_append,l4,l44];rfl);obtain ⟨hh,f3⟩:=List.append_inj hh (by simp only [List.length_append,l4,l44];rfl);obtain ⟨f1,f2⟩:=List.append_inj hh (by rw [l4];rfl);rw [er] at f6;obtain ⟨g1,f6⟩:=List.append_inj f6 (by rw [Xh (by omega)];rfl);obtain ⟨g2,g3⟩:=List.append_inj f6 (by rw [Xh (by omega)];rfl);have f4':=QrV f4;have hb:=QlQ s 12;simp only [QfW,Bool.and_eq_true,decide_eq_true_eq];refine ⟨f1.symm,?_,hlsn,by omega,?_,?_⟩
  ·rw [← f2];rfl
  ·rw [← g1];rfl
  ·rw [← g3];rfl
 ·intro hh;simp only [QfW,Bool.and_eq_true,decide_eq_true_eq] at hh;obtain ⟨f1,f2,_,f4,f5,f6⟩:=hh;rw [QaL,Xh (by omega)] at f2 f5 f6;rw [e,f1,f2,f4,f5,z18,f6];rfl
def rdB (s : List UInt8) : Option (Nd × Nat):=if 1 ≤ ub2 s 16 ∧ ub2 s 16 ≤ 4 then rdN s 64 (ub2 s 16) else none
def QtV : Nd:=⟨false,[],[]⟩
structure NdR where
 n : Nd
 lsn : Int
 usn : Int
 e : Int
def ndE (e : Int) : NdR:=⟨QtV,0,0,e⟩
def XD (b : List UInt8) (num : Int) : NdR:=
 if b.length = 512 then
  if 1 ≤ num ∧ num ≤ 120 then
   if Xr b then ndE 31
   else match rdB (QE b) with
    | some (n,last)=>if QfW (QE b) num && zer ((QE b).drop last) then ⟨n,(ub4 (QE b) 8 : Int),(ub2 b 40 : Int),0⟩ else ndE 3
    | none=>ndE 3
  else ndE 2
 else ndE 10
theorem QcO {s : List UInt8} {n : Nd} {last : Nat} (hl : s.length = 512) (h : rdB s = some (n,last)) : YG n = Ql s 64 (last - 64) ∧ 72 ≤ last ∧ last ≤ 512 ∧ n.es.length = ub2 s 16 ∧ (1 ≤ ub2 s 16 ∧ ub2 s 16 ≤ 4) ∧ NdW n:=by
 unfold rdB at h;split at h
 ·rename_i hc;obtain ⟨h1,h2,h3,h4,h5,h6,h7,h8,h9⟩:=QhA (by omega) h;exact ⟨h1,by omega,by omega,h6,hc,⟨h5,h8,by omega,h9⟩⟩
 ·cases h
theorem QiG {s : List UInt8} {n : Nd} {last : Nat} (hl : s.length = 512) (h : rdB s = some (n,last)) : (YG n).length = last - 64:=by
 obtain ⟨h1,h2,h3,_⟩:=QcO hl h;rw [h1,Xh (by omega)]
theorem Qlm {b : List UInt8} {num : Int} {n : Nd} {last : Nat} (hl : b.length = 512) (ht : Xr b = false) (hn : 0 ≤ num ∧ num < 4294967296) (h : rdB (QE b) = some (n,last)) (hlsn : ub4 (QE b) 8 ≤ 2147483647) :
  Qf1 n num (ub4 (QE b) 8 : Int) (ub2 b 40 : Int) = b ↔ (QfW (QE b) num && zer ((QE b).drop last)) = true:=by
 have ho:=YU hl;obtain ⟨h1,h2,h3,h4,h5,h6⟩:=QcO ho h;have hc:=QiG ho h;have hz:=QjF hl;have hu:=QcW b 40;have hN : (Qch n num (ub4 (QE b) 8 : Int)).length = 512:=Qji (by omega)
 have hiff : Qf1 n num (ub4 (QE b) 8 : Int) (ub2 b 40 : Int) = b ↔ Qch n num (ub4 (QE b) 8 : Int) = QE b:=by
  constructor
  ·intro hh;have:=congrArg QE hh;unfold Qf1 at this
   rwa [Qm9 hN Qgy] at this
  ·intro hh;unfold Qf1;rw [hh];exact QmA hl ht
 rw [hiff]
 have hs : QE b = Ql (QE b) 0 64 ++ YG n ++ (QE b).drop last:=by
  rw [h1]
  have e1 : Ql (QE b) 0 64 ++ Ql (QE b) 64 (last - 64) = (QE b).take last:=by
   have:=Xl (QE b) 0 64 (last - 64);rw [Nat.zero_add] at this;rw [← this,show 64 + (last - 64) = last by omega];simp [Ql]
  rw [e1,List.take_append_drop]
 have hd:=Qt7 (s:=QE b) (num:=num) (c:=n.es.length) (by omega) h4 hn hz hlsn;have l64 : (Ql (QE b) 0 64).length = 64:=Xh (by omega);have hdl : ((QE b).drop last).length = 448 - (YG n).length:=by rw [List.length_drop,ho,hc];omega
 constructor
 ·intro hh;rw [hs] at hh;have hh' : hdB num (ub4 (Ql (QE b) 0 64 ++ YG n ++ (QE b).drop last) 8 : Int) n.es.length ++ YG n ++ List.replicate (448 - (YG n).length) 0 = Ql (QE b) 0 64 ++ YG n ++ (QE b).drop last:=hh;rw [← hs] at hh';have hh2 : hdB num (ub4 (QE b) 8 : Int) n.es.length ++ YG n ++ List.replicate (448 - (YG n).length) 0 = Ql (QE b) 0 64 ++ YG n ++ (QE b).drop last:=by rw [hh',← hs]
  obtain ⟨f1,f2⟩:=List.append_inj hh2 (by rw [List.length_append,List.length_append,l64];rfl);have f3:=List.append_cancel_right f1;rw [Bool.and_eq_true];refine ⟨hd.1 f3,?_⟩;rw [← f2];exact Qln _
 ·intro hh;rw [Bool.and_eq_true] at hh;have f1:=hd.2 hh.1;have f2:=(QaL _).1 hh.2;rw [hdl] at f2;unfold Qch;rw [f1,← f2,← hs]
def Qa6 : List UInt8:=[82,79,79,84]
def rutB (t : Tre) : List UInt8:=Qa6 ++ [by8 t.co,by8 t.mo,by8 t.rm,by8 (nth t.ns 0).es.length] ++ YG (nth t.ns 0)
def noT : Tre:=⟨0,0,0,[]⟩
def Qaz (co : Int) (es : List TEnt) (i : Nat) : Bool:=Qz co (nth es i).key && decide (i = 0 ∨ Xo co (nth es (i - 1)).key (nth es i).key < 0)
def QdB (co : Int) (es : List TEnt) : Bool:=(List.range es.length).all (Qaz co es)
theorem Qbu {co : Int} {es : List TEnt} : QdB co es = true ↔ ∀ i,i < es.length → Qaz co es i = true:=by grind [QdB]
theorem Ql1 {co : Int} {es : List TEnt} {i : Nat} (hi : i < es.length) (h : Qaz co es i = false) : QdB co es = false:=by
 cases hb : QdB co es with
 | false=>rfl
 | true=>rw [Qbu.1 hb i hi] at h;cases h
def Qa (s : List UInt8) : Tre × Int:=
 if s.length < 16 then (noT,10)
 else if s.take 4 = Qa6 then
  if Qw (at1 s 4) = 0 then
   if Zr (at1 s 5) (at1 s 6) = 0 then
    if at1 s 5 ≤ 4 then
     if at1 s 7 ≤ at1 s 6 then
      match rdN s 8 (ub1 s 7) with
      | some (n,last)=>if last = s.length ∧ QdB (at1 s 4) n.es = true then (⟨at1 s 4,at1 s 5,at1 s 6,[n]⟩,0) else (noT,3)
      | none=>(noT,3)
     else (noT,16)
    else (noT,8)
   else (noT,Zr (at1 s 5) (at1 s 6))
  else (noT,Qw (at1 s 4))
 else (noT,3)
def QdE (x : TEnt) : Bool:=decide (x.key.length + x.val.length ≤ 88)
def Qpi (n : Nd) : Bool:=n.es.all QdE
def Qmj (t : Tre) : Int:=if (Qqt t).2 = 0 then if t.mo ≤ 4 ∧ t.ns.all Qpi = true then 0 else 8 else (Qqt t).2
structure Ixs where
 ro : List UInt8
 al : List UInt8
 bm : List UInt8
deriving DecidableEq,Inhabited
def Ixs.n (x : Ixs) : Nat:=x.al.length / 512
def Ixs.blk (x : Ixs) (i : Nat) : List UInt8:=Ql x.al ((i - 1) * 512) 512
def ZH (bm : List UInt8) (j : Nat) : Bool:=decide (ub1 bm (j / 8) / 2 ^ (j % 8) % 2 = 1)
def Y7 (x : Ixs) (i : Nat) : Bool:=decide (1 ≤ i ∧ i ≤ x.n) && ZH x.bm (i - 1)
def QdP (x : Ixs) : Bool:=(List.range (8 * x.bm.length)).any fun j=>decide (x.n ≤ j) && ZH x.bm j
def ixE (x : Ixs) : Int:=
 if x.al.length ≤ 61440 ∧ x.ro.length ≤ 200000 then
  if x.al.length % 512 = 0 ∧ x.bm.length = QT ((x.n + 7) / 8) then
   if (Qa x.ro).2 = 0 then
    if QdP x then 3 else if x.n = 0 ∨ ZH x.bm (x.n - 1) = true then 0 else 3
   else (Qa x.ro).2
  else 10
 else 8
def bkN (x : Ixs) (i : Nat) : Nd:=if Y7 x i then (XD (x.blk i) i).n else QtV
def bkE (x : Ixs) (i : Nat) : Int:=if Y7 x i then (XD (x.blk i) i).e else if zer (x.blk i) then 0 else 3
def badF (x : Ixs) : Nat → Nat → Option Nat
 | 0,_=>none
 | f + 1,i=>if bkE x i = 0 then badF x f (i + 1) else some i
def QvE (x : Ixs) (k : Nat) : List Nd:=(Qa x.ro).1.ns ++ (List.range k).map fun j=>bkN x (j + 1)
def Qrd (x : Ixs) : Tre:=⟨(Qa x.ro).1.co,(Qa x.ro).1.mo,(Qa x.ro).1.rm,QvE x x.n⟩
def rdI (x : Ixs) : (Tre × Int) × Int:=
 if ixE x = 0 then
  match badF x x.n 1 with
  | some i=>((noT,(i : Int)),bkE x i)
  | none=>if (Qqt (Qrd x)).2 = 0 then ((Qrd x,0),0) else ((noT,(Qqt (Qrd x)).1),(Qqt (Qrd x)).2)
 else ((noT,0),ixE x)
theorem Qds {s : List UInt8} (h : (Qa s).2 = 0) : ∃ n last,rdN s 8 (ub1 s 7) = some (n,last) ∧ last = s.length ∧ QdB (at1 s 4) n.es = true ∧ Qa s = (⟨at1 s 4,at1 s 5,at1 s 6,[n]⟩,0) ∧ 16 ≤ s.length ∧ s.take 4 = Qa6 ∧ Qw (at1 s 4) = 0 ∧ Zr (at1 s 5) (at1 s 6) = 0 ∧ at1 s 5 ≤ 4 ∧ at1 s 7 ≤ at1 s 6:=by grind [Qa]
theorem QgN {x : Ixs} (h : ixE x = 0) : (x.al.length ≤ 61440 ∧ x.ro.length ≤ 200000) ∧ (x.al.length % 512 = 0 ∧ x.bm.length = QT ((x.n + 7) / 8)) ∧ (Qa x.ro).2 = 0 ∧ QdP x = false ∧ (x.n = 0 ∨ ZH x.bm (x.n - 1) = true):=by grind [ixE]
def QuH (ns : List Nd) (g : Nat) : Nat → Nat
 | 0=>0
 | i + 1=>QuH ns g i + (if (nth ns (8 * g + i + 1)).us = true ∧ 8 * g + i + 1 < ns.length then 2 ^ i else 0)
def QvJ (ns : List Nd) : Nat:=QT ((ns.length - 1 + 7) / 8)
def bmB (ns : List Nd) : List UInt8:=(List.range (QvJ ns)).map fun g=>by8 (QuH ns g 8 : Nat)
def Qo8 (blk : Nat → List UInt8) : Nat → List UInt8
 | 0=>[]
 | k + 1=>Qo8 blk k ++ blk (k + 1)
def QoE : List UInt8:=List.replicate 512 0
def newB (t : Tre) (i : Nat) : List UInt8:=if (nth t.ns i).us = true then Qf1 (nth t.ns i) i 0 1 else QoE
def wrI (t : Tre) : Ixs:=⟨rutB t,Qo8 (newB t) (t.ns.length - 1),bmB t.ns⟩
structure Holds (t : Tre) (blk : Nat → List UInt8) : Prop where
 len : ∀ i,(blk i).length = 512
 us : ∀ i,1 ≤ i → i < t.ns.length → (nth t.ns i).us = true → (XD (blk i) i).n = nth t.ns i ∧ (XD (blk i) i).e = 0
 free : ∀ i,1 ≤ i → i < t.ns.length → (nth t.ns i).us = false → zer (blk i) = true
def ixOf (t : Tre) (blk : Nat → List UInt8) : Ixs:=⟨rutB t,Qo8 blk (t.ns.length - 1),bmB t.ns⟩
end Gx
namespace Go.Proofs
open Go Go.RowKit Gx
attribute [local irreducible] Go.Calls Gx.S Gx.O Gx.D Gx.OpP Gx.OpQ Gx.OpH
set_option maxRecDepth 20000
instance : TFn Tryz.prog 87:=⟨by kernel_rfl⟩
theorem Qc5 : QM Tryz.prog 60 = true:=by kernel_rfl
instance : TFn Tryz.prog 60:=⟨Qc5⟩
instance : TFn Tryz.prog 192:=⟨by kernel_rfl⟩
theorem Qg6 : QM Tryz.prog 131 = true:=by kernel_rfl
instance : TFn Tryz.prog 131:=⟨Qg6⟩
theorem Qa9 : QL Tryz.prog 5 = some [.int .u8 0]:=by kernel_rfl
theorem QjH : QM Tryz.prog 152 = true:=by kernel_rfl
theorem Qqd : QM Tryz.prog 153 = true:=by kernel_rfl
theorem c87 (w : World) (n lo hi : Int) : Calls Tryz.prog 87 #[.int .i64 n,.int .i64 lo,.int .i64 hi] w fun en w'=>en = .returned (.bool (decide (lo ≤ n) && decide (n ≤ hi))) ∧ Below w.heap.size w w':=by
 refine eN3 Tryz.func87 Tryz.ntmps87 ?_
 refine QaP ?_
 refine YH 4 10 14 rfl
  (fun hg1 _=>by
   refine aU6 ?_
   exact oJt 4 14)
  (fun hg3 _=>by
   refine aU3 ?_
   exact oJf 4 14) ?_
 refine aU2 ?_
 exact rT rfl rfl (fun w' h'=>⟨rfl,h'.below⟩)
theorem c205 (w : World) (n lo hi : Int) : Calls Tryz.prog 205 #[.int .i64 n,.int .i64 lo,.int .i64 hi] w fun en w'=>en = .returned (.bool (decide (lo ≤ n) && decide (n ≤ hi))) ∧ Below w.heap.size w w':=by
 refine eN3 Tryz.func205 Tryz.ntmps205 ?_
 refine QaP ?_
 refine YH 4 10 14 rfl
  (fun hg1 _=>by
   refine aU6 ?_
   exact oJt 4 14)
  (fun hg3 _=>by
   refine aU3 ?_
   exact oJf 4 14) ?_
 refine aU2 ?_
 exact rT rfl rfl (fun w' h'=>⟨rfl,h'.below⟩)
theorem c60 (w : World) (ok : Bool) (e : Int) : Calls Tryz.prog 60 #[.bool ok,.int .i64 e] w fun en w'=>en = .returned (.int .i64 (cond ok 0 e)) ∧ Below w.heap.size w w':=by
 refine eN2 Tryz.func60 Tryz.ntmps60 ?_
 refine aU9 ?_
 refine sCd rfl (fun h1=>?_) fun h1=>?_
 ·refine aU4 ?_
  exact rT rfl rfl (fun w' h'=>⟨by simp_all [Xd],h'.below⟩)
 refine aU6 ?_
 exact rT rfl rfl (fun w' h'=>⟨by simp_all [Xd],h'.below⟩)
theorem QuA (w : World) (ok : Bool) (e : Int) : Calls Tryz.prog 192 #[.bool ok,.int .i64 e] w fun en w'=>en = .returned (.int .i64 (cond ok 0 e)) ∧ Below w.heap.size w w':=by
 refine eN2 Tryz.func192 Tryz.ntmps192 ?_
 refine aU9 ?_
 refine sCd rfl (fun h1=>?_) fun h1=>?_
 ·refine aU4 ?_
  exact rT rfl rfl (fun w' h'=>⟨by simp_all [Xd],h'.below⟩)
 refine aU6 ?_
 exact rT rfl rfl (fun w' h'=>⟨by simp_all [Xd],h'.below⟩)
theorem c59 (w : World) (a : Option Addr) (cap : Nat) (es : List Int) (hs : Sl w [] a 1 es.length (fun i=>[.int .i64 (es.getD i 0)])) (hm : es.length ≤ 1000) : Calls Tryz.prog 59 #[.slice a es.length cap] w fun en w'=>en = .returned (.int .i64 (Yk es)) ∧ Below w.heap.size w w':=by
 refine eN1 Tryz.func59 Tryz.ntmps59 ?_
 refine QaE ?_
 refine Qo (α:=Nat) [2,4,7,8,9,10,11,12,13,14] (fun k=>[(7,.int .i64 (k : Int))]) (fun _=>_) (fun k=>k ≤ es.length ∧ Yk es = Yk (es.drop k)) (fun k=>es.length - k) 0 ⟨by omega,rfl⟩ aSx (fun w h=>h) (fun k hk=>?_)
 obtain ⟨hk1,hk2⟩:=hk
 refine aU5 ?_
 refine sCd rfl (fun h1=>?_) fun h1=>?_
 ·refine aU5 ?_
  refine o_p (Qc rfl rfl rfl Zp _ rfl (by omega) (hs.some (by omega))) rfl ?_
  refine o_q (QG rfl rfl QpY (hs.rd (i:=k) (j:=0) (by omega) rfl)) rfl ?_
  refine aU7 ?_
  refine sCd rfl (fun h2=>?_) fun h2=>?_
  ·refine aU5 ?_
   exact rT rfl rfl (fun w' h'=>⟨by simp only [Xd];rw [hk2,YE (by omega),if_neg (by assumption)],h'.below⟩)
  refine aT4 ?_
  refine aU2 ?_
  exact Qu (k+1) (by omega) ⟨by omega,by rw [hk2,YE (by omega),if_pos (by assumption)]⟩ aSx (fun w h=>h)
 refine Qh rfl ?_
 refine aU4 ?_
 exact rT rfl rfl (fun w' h'=>⟨by simp only [Xd];rw [hk2,Qcp (by omega)],h'.below⟩)
theorem f59 {w0 w : World} {M : List Nat} {As As' : List HA} {b cap n : Nat} {t : TypeId} {tot : Nat} {cs : List Value} (h : HS w0 M As w) (hp : QD As (.blk b t tot cs) As') (hc : cs.all QgF = true) (hn : cs.length = n) (hl : n ≤ 1000) :
    Calls Tryz.prog 59 #[.slice (some ⟨b,0,none⟩) n cap] w fun en w'=>en = .returned (.int .i64 (Xx cs)) ∧ Below w.heap.size w w':=by
  subst hn;have:=c59 w (some ⟨b,0,none⟩) cap (cs.map Go.RowKit.intOf) (by simpa using h.sl_ints hp hc) (by simpa using hl);rw [QbG hc] at this
  simpa using this
theorem c203 (w : World) (a : Option Addr) (cap : Nat) (es : List Int) (hs : Sl w [] a 1 es.length (fun i=>[.int .i64 (es.getD i 0)])) (hm : es.length ≤ 1000) : Calls Tryz.prog 203 #[.slice a es.length cap] w fun en w'=>en = .returned (.int .i64 (Yk es)) ∧ Below w.heap.size w w':=by
 refine eN1 Tryz.func203 Tryz.ntmps203 ?_
 refine QaE ?_
 refine Qo (α:=Nat) [2,4,7,8,9,10,11,12,13,14] (fun k=>[(7,.int .i64 (k : Int))]) (fun _=>_) (fun k=>k ≤ es.length ∧ Yk es = Yk (es.drop k)) (fun k=>es.length - k) 0 ⟨by omega,rfl⟩ aSx (fun w h=>h) (fun k hk=>?_)
 obtain ⟨hk1,hk2⟩:=hk
 refine aU5 ?_
 refine sCd rfl (fun h1=>?_) fun h1=>?_
 ·refine aU5 ?_
  refine o_p (Qc rfl rfl rfl Zp _ rfl (by omega) (hs.some (by omega))) rfl ?_
  refine o_q (QG rfl rfl QpY (hs.rd (i:=k) (j:=0) (by omega) rfl)) rfl ?_
  refine aU7 ?_
  refine sCd rfl (fun h2=>?_) fun h2=>?_
  ·refine aU5 ?_
   exact rT rfl rfl (fun w' h'=>⟨by simp only [Xd];rw [hk2,YE (by omega),if_neg (by assumption)],h'.below⟩)
  refine aT4 ?_
  refine aU2 ?_
  exact Qu (k+1) (by omega) ⟨by omega,by rw [hk2,YE (by omega),if_pos (by assumption)]⟩ aSx (fun w h=>h)
 refine Qh rfl ?_
 refine aU4 ?_
 exact rT rfl rfl (fun w' h'=>⟨by simp only [Xd];rw [hk2,Qcp (by omega)],h'.below⟩)
theorem f203 {w0 w : World} {M : List Nat} {As As' : List HA} {b cap n : Nat} {t : TypeId} {tot : Nat} {cs : List Value} (h : HS w0 M As w) (hp : QD As (.blk b t tot cs) As') (hc : cs.all QgF = true) (hn : cs.length = n) (hl : n ≤ 1000) :
    Calls Tryz.prog 203 #[.slice (some ⟨b,0,none⟩) n cap] w fun en w'=>en = .returned (.int .i64 (Xx cs)) ∧ Below w.heap.size w w':=by
  subst hn;have:=c203 w (some ⟨b,0,none⟩) cap (cs.map Go.RowKit.intOf) (by simpa using h.sl_ints hp hc) (by simpa using hl);rw [QbG hc] at this
  simpa using this
theorem c88 (w : World) (x : TEnt) (hk : x.key.length ≤ 1000000) (hv : x.val.length ≤ 1000000) : Calls Tryz.prog 88 #[.agg #[.string (bs x.key),.string (bs x.val)]] w fun en w'=>en = .returned (.bool (QdE x)) ∧ Below w.heap.size w w':=by
 refine eN1 Tryz.func88 Tryz.ntmps88 ?_
 refine aU2 ?_
 refine oBx fun b1 _=>?_
 refine aU6 ?_
 refine o_p (Qj rfl rfl Tryz.underlying9) rfl ?_
 refine aU2 ?_
 refine o_p (Qj rfl rfl Tryz.underlying9) rfl ?_
 refine aT ?_
 refine aU3 ?_
 exact rT rfl rfl (fun w' h'=>⟨by simp only [Xd,QdE];congr 2;congr 1;first | omega | (rw [eq_iff_iff];omega) | (apply decide_eq_decide.2;omega),h'.below⟩)
theorem QuT (w : World) (s : List UInt8) : Calls Tryz.prog 129 #[.string (bs s)] w fun en w'=>en = .returned (.int .i64 (cond (decide ((s.length : Int) = 512)) 0 10)) ∧ Below w.heap.size w w':=by
 refine eN1 Tryz.func129 Tryz.ntmps129 ?_
 refine aU7 ?_
 refine o_p (Qj rfl rfl Tryz.underlying9) rfl ?_
 refine aU ?_
 refine oCq rfl (fun w1 h1=>QuA w1 _ _) ?_
 refine aU2 ?_
 exact rT rfl rfl (fun w' h'=>⟨rfl,h'.below⟩)
theorem Qrs (w : World) (a : Option Addr) (m cap : Nat) (x : List UInt8) (hs : Vl w a (x.map bv)) (hm : x.length = m) (h2 : 2 ≤ m) (hc : m ≤ cap) (hc9 : cap ≤ 9223372036854775807) : Calls Tryz.prog 131 #[.slice a m cap] w fun en w'=>en = .returned (.int .u16 (at2 x 0)) ∧ Below w.heap.size w w':=by
 refine eN1 Tryz.func131 Tryz.ntmps131 ?_
 refine aU5 ?_
 refine QF [] QV ?_
 refine dP 0 ?_
 refine dV 1 rfl (Qc rfl rfl rfl Qy 0 rfl (by omega) (hs.some (by rw [List.length_map];omega))) ?_
 refine dQ 2 [] rfl (QG rfl rfl Qdq ((hs.rd (i:=0) (ZO (l:=x) (k:=0) (by omega))))) ?_
 refine dV 3 rfl (Qg rfl rfl Zm XW) ?_
 refine dP 4 ?_
 refine dV 5 rfl (Qc rfl rfl rfl Qy 1 rfl (by omega) (hs.some (by rw [List.length_map];omega))) ?_
 refine dQ 6 [] rfl (QG rfl rfl Qdq ((hs.rd (i:=1) (ZO (l:=x) (k:=1) (by omega))))) ?_
 refine dV 7 rfl (Qg rfl rfl Zm XW) ?_
 refine dV 8 rfl (QfG rfl rfl rfl (by decide) 8 rfl) ?_
 refine dP 9 ?_
 refine dP 10 ?_
 refine dNi ?_
 exact rT rfl rfl (fun w' h'=>⟨by rw [← Qik];rfl,h'.below⟩)
theorem c132 (w : World) (a : Option Addr) (m cap : Nat) (x : List UInt8) (hs : Vl w a (x.map bv)) (hm : x.length = m) (h2 : 4 ≤ m) (hc : m ≤ cap) (hc9 : cap ≤ 9223372036854775807) : Calls Tryz.prog 132 #[.slice a m cap] w fun en w'=>en = .returned (.int .u32 (at4 x 0)) ∧ Below w.heap.size w w':=by
 have hx2:=Qae x 0
 have hx3:=Qae x 2
 refine eN1 Tryz.func132 Tryz.ntmps132 ?_
 refine aU5 ?_
 refine QF [] QV ?_
 refine dP 0 ?_
 refine dQ 1 [] rfl (Q1 rfl Qg6 rfl (fun w1 h1=>Qrs w1 a m cap x (hs.later h1) hm (by omega) hc hc9)) ?_
 refine dV 2 rfl (Qg rfl rfl XW YA) ?_
 refine dP 3 ?_
 refine dV 4 rfl (Qp _ _ 2 m rfl rfl Qy ⟨_,_,rfl,rfl⟩ rfl (by omega) (by omega)) ?_
 refine dQ 5 [] rfl (Q1 rfl Qg6 rfl (fun w1 h1=>Qrs w1 (Xy a cap 2 1) (m - 2) (cap - 2) (x.drop 2) (by rw [List.map_drop];exact (hs.later h1).drop (by rw [List.length_map];omega) (by omega)) (by rw [List.length_drop];omega) (by omega) (by omega) (by omega))) ?_
 refine dV 6 rfl (Qg rfl rfl XW YA) ?_
 refine dV 7 rfl (QfG rfl rfl rfl (by decide) 16 rfl) ?_
 refine dP 8 ?_
 refine dP 9 ?_
 refine dNi ?_
 exact rT rfl rfl (fun w' h'=>⟨by have h9:=QhZ (at2 x 0) (at2 (x.drop 2) 0) (Qae _ _) (Qae _ _);rw [Qap] at h9 ⊢;exact (congrArg Ending.returned h9),h'.below⟩)
theorem QtZ (w : World) (a : Option Addr) (cap : Nat) (l : List UInt8) (n : Int) (hw : HS w (fps [.byz a cap (l)]) [.byz a cap (l)] w) (hn : 0 ≤ n ∧ n < 65536) (hl : l.length ≤ 1000000) : Calls Tryz.prog 152 #[.slice a l.length cap,.int .u16 n] w fun en w'=>∃ g : Option Addr × Nat,en = .returned (.slice g.1 (l ++ le2 n).length g.2) ∧ Qbo a cap g (l ++ le2 n).length ∧ HS w (fps [.byz a cap (l)]) [.byz g.1 g.2 (l ++ le2 n)] w':=by
 refine eW2 Tryz.func152 Tryz.ntmps152 hw ?_
 refine aU8 ?_
 refine o_p (Qg rfl rfl XW Zm) rfl ?_
 refine Qf (YO _) ?_
 refine aU ?_
 refine o_p (Qam rfl rfl rfl (by decide) 8 rfl) rfl ?_
 refine o_p (Qg rfl rfl XW Zm) rfl ?_
 refine Qf (show _ = bv (by8 (n / 256)) from YO _) ?_
 refine o_h (Qm (cs:=[_,_]) rfl rfl Qy Qa9 rfl rfl rfl) rfl (fun b1 _=>?_)
 refine o_h (Qau [by8 n,by8 (n / 256)] rfl rfl rfl Qy Tryz.underlying139 Qa9 aPk (Xa aPk) (by simp only [List.length_append,List.length_cons,List.length_nil,le2,le4] <;> omega) (by simp only [maxLen,List.length_append,List.length_cons,List.length_nil,le2,le4] <;> omega)) rfl (fun ⟨b2,c3⟩ h4=>?_)
 refine aU2 ?_
 exact rT rfl rfl (fun w' h'=>⟨(b2,c3),rfl,h4,h'.ent aEt⟩)
theorem QvH (w : World) (a : Option Addr) (cap : Nat) (l : List UInt8) (n : Int) (hw : HS w (fps [.byz a cap (l)]) [.byz a cap (l)] w) (hn : 0 ≤ n) (hl : l.length ≤ 1000000) : Calls Tryz.prog 152 #[.slice a l.length cap,.int .u16 (n % 65536)] w fun en w'=>∃ g : Option Addr × Nat,en = .returned (.slice g.1 (l ++ le2 n).length g.2) ∧ Qbo a cap g (l ++ le2 n).length ∧ HS w (fps [.byz a cap (l)]) [.byz g.1 g.2 (l ++ le2 n)] w':=by
  have h9:=QtZ w a cap l (n % 65536) hw (by omega) hl;rw [QpS] at h9;exact h9
theorem c153 (w : World) (a : Option Addr) (cap : Nat) (l : List UInt8) (n : Int) (hw : HS w (fps [.byz a cap (l)]) [.byz a cap (l)] w) (hn : 0 ≤ n ∧ n < 4294967296) (hl : l.length ≤ 1000000) : Calls Tryz.prog 153 #[.slice a l.length cap,.int .u32 n] w fun en w'=>∃ g : Option Addr × Nat,en = .returned (.slice g.1 (l ++ le4 n).length g.2) ∧ Qbo a cap g (l ++ le4 n).length ∧ HS w (fps [.byz a cap (l)]) [.byz g.1 g.2 (l ++ le4 n)] w':=by
 have he9 : l ++ le4 n = (l ++ le2 n) ++ [by8 (n / 65536),by8 (n / 16777216)]:=by rw [QsU,List.append_assoc]
 refine eW2 Tryz.func153 Tryz.ntmps153 hw ?_
 refine aU8 ?_
 refine o_p (Qg rfl rfl YA XW) rfl ?_
 refine Qf (show _ = Value.int .u16 (n % 65536) from by rw [Qh5]) ?_
 refine o_h (QH (Cs:=[.byz a cap (l)]) rfl QjH rfl aPs (fun w1 h1 hf=>QvH w1 a cap l n hf (by omega) hl)) rfl (fun ⟨b1,c2⟩ hz3=>?_)
 refine aU ?_
 refine o_p (Qam rfl rfl rfl (by decide) 16 rfl) rfl ?_
 refine o_p (Qg rfl rfl YA Zm) rfl ?_
 refine Qf (show _ = bv (by8 (n / 65536)) from YO _) ?_
 refine aU ?_
 refine o_p (Qam rfl rfl rfl (by decide) 24 rfl) rfl ?_
 refine o_p (Qg rfl rfl YA Zm) rfl ?_
 refine Qf (show _ = bv (by8 (n / 16777216)) from YO _) ?_
 refine o_h (Qm (cs:=[_,_]) rfl rfl Qy Qa9 rfl rfl rfl) rfl (fun b4 _=>?_)
 refine o_h (Qau (l:=l ++ le2 n) [by8 (n / 65536),by8 (n / 16777216)] rfl rfl rfl Qy Tryz.underlying139 Qa9 aPk (Xa aPk) (by simp only [List.length_append,List.length_cons,List.length_nil,le2,le4] <;> omega) (by simp only [maxLen,List.length_append,List.length_cons,List.length_nil,le2,le4] <;> omega)) rfl (fun ⟨b5,c6⟩ h7=>?_)
 refine aU2 ?_
 exact rT rfl rfl (fun w' h'=>⟨(b5,c6),by rw [he9];rfl,by rw [he9];exact (hz3).trans h7 (by simp only [List.length_append];omega),by rw [he9];exact h'.ent aEt⟩)
theorem c154 (w : World) (a : Option Addr) (cap : Nat) (l : List UInt8) (hw : HS w (fps [.byz a cap (l)]) [.byz a cap (l)] w) (hl : l.length ≤ 1000000) : Calls Tryz.prog 154 #[.slice a l.length cap] w fun en w'=>∃ g : Option Addr × Nat,en = .returned (.slice g.1 (l ++ List.replicate (QT l.length - l.length) 0).length g.2) ∧ Qbo a cap g (l ++ List.replicate (QT l.length - l.length) 0).length ∧ HS w (fps [.byz a cap (l)]) [.byz g.1 g.2 (l ++ List.replicate (QT l.length - l.length) 0)] w':=by
 have hp8:=Y1 l.length
 have hm8 : QT l.length % 8 = 0:=by unfold QT;omega
 refine eW1 Tryz.func154 Tryz.ntmps154 hw ?_
 refine aU6 ?_
 refine Qo (α:=Nat × Option Addr × Nat) [0,3,4,5,6,7,8,9] (fun x=>[(0,.slice x.2.1 (l ++ List.replicate x.1 0).length x.2.2)]) (fun x=>HS w (fps [.byz a cap (l)]) [.byz x.2.1 x.2.2 (l ++ List.replicate x.1 0)]) (fun x=>x.1 ≤ (QT l.length - l.length) ∧ Qbo a cap (x.2.1,x.2.2) (l ++ List.replicate x.1 0).length) (fun x=>(QT l.length - l.length) - x.1) (0,a,cap) ⟨Nat.zero_le _,fun _=>⟨rfl,rfl⟩⟩ (by simp only [List.replicate_zero,List.append_nil];exact aSx) (fun w h=>(by simp only [List.replicate_zero,List.append_nil];exact h.ent aEt)) (fun ⟨k,a2,c2⟩ hk1=>?_)
 dsimp only
 simp only [] at hk1
 obtain ⟨hk2,hk3⟩:=hk1
 have hlk : (l ++ List.replicate k 0).length = l.length + k:=by simp
 refine aU5 ?_
 refine o_p (Zc rfl rfl rfl (by omega) (by omega)) rfl ?_
 refine aU2 ?_
 refine sCd rfl (fun h1=>?_) fun h1=>?_
 ·have hk : k < (QT l.length - l.length):=by have hq:=h1;rw [hlk] at hq;omega
  have hrep : l ++ List.replicate (k + 1) 0 = (l ++ List.replicate k 0) ++ [0]:=by rw [List.replicate_succ',List.append_assoc]
  refine aU4 ?_
  refine o_h (Qm (cs:=[_]) rfl rfl Qy Qa9 rfl rfl rfl) rfl (fun b2 _=>?_)
  refine o_h (Qau (l:=l ++ List.replicate k 0) [0] rfl rfl rfl Qy Tryz.underlying139 Qa9 aPk (Xa aPk) (by simp only [List.length_replicate,List.length_append,List.length_cons,List.length_nil,le2,le4] <;> omega) (by simp only [maxLen,List.length_replicate,List.length_append,List.length_cons,List.length_nil,le2,le4] <;> omega)) rfl (fun ⟨b3,c4⟩ h5=>?_)
  refine aU3 ?_
  exact Qu (k + 1,b3,c4) (by (try simp only []);omega) (by simp only [];rw [hrep];exact ⟨by omega,hk3.trans h5 (by simp only [List.length_append];omega)⟩) (by dsimp only;rw [hrep];exact aSx) (fun w h=>by dsimp only;rw [hrep];exact h.ent aEt)
 have hk : k = (QT l.length - l.length):=by have hq:=h1;rw [hlk] at hq;omega
 subst hk
 refine Qh rfl ?_
 refine aU5 ?_
 exact rT rfl rfl (fun w' h'=>⟨(a2,c2),rfl,hk3,h'.ent aEt⟩)
theorem c156 (w : World) (a : Option Addr) (cap : Nat) (l : List UInt8) (c : Int) (hw : HS w (fps [.byz a cap (l)]) [.byz a cap (l)] w) (hc9 : 0 ≤ c ∧ c < 4294967296) (hl : l.length ≤ 900000) : Calls Tryz.prog 156 #[.slice a l.length cap,.int .i64 c] w fun en w'=>∃ g : Option Addr × Nat,en = .returned (.slice g.1 (l ++ Qd5 c).length g.2) ∧ Qbo a cap g (l ++ Qd5 c).length ∧ HS w (fps [.byz a cap (l)]) [.byz g.1 g.2 (l ++ Qd5 c)] w':=by
 have he9 : l ++ Qd5 c = ((l ++ le2 8) ++ [0,0]) ++ le4 c:=by simp only [Qd5,List.append_assoc]
 have l2 : (l ++ le2 8).length = l.length + 2:=by rw [List.length_append];rfl
 have l3 : ((l ++ le2 8) ++ [0,0]).length = l.length + 4:=by rw [List.length_append,l2];rfl
 refine eW2 Tryz.func156 Tryz.ntmps156 hw ?_
 refine aU7 ?_
 refine o_h (QH (Cs:=[.byz a cap (l)]) rfl QjH rfl aPs (fun w1 h1 hf=>QtZ w1 a cap l 8 hf (by omega) (by omega))) rfl (fun ⟨b1,c2⟩ hz3=>?_)
 refine aU5 ?_
 refine o_h (Qm (cs:=[_,_]) rfl rfl Qy Qa9 rfl rfl rfl) rfl (fun b4 _=>?_)
 refine o_h (Qau (l:=l ++ le2 8) [0,0] rfl rfl rfl Qy Tryz.underlying139 Qa9 aPk (Xa aPk) (by simp only [List.length_append,List.length_cons,List.length_nil,le2,le4] <;> omega) (by simp only [maxLen,List.length_append,List.length_cons,List.length_nil,le2,le4] <;> omega)) rfl (fun ⟨b5,c6⟩ h7=>?_)
 refine aU6 ?_
 refine o_p (Qg rfl rfl Yf YA) rfl ?_
 refine Qf (show _ = Value.int .u32 c from by rw [QdW];congr 1;omega) ?_
 refine o_h (QH (Cs:=[.byz b5 c6 ((l ++ le2 8) ++ [0,0])]) rfl Qqd rfl aPs (fun w1 h1 hf=>c153 w1 b5 c6 ((l ++ le2 8) ++ [0,0]) c hf hc9 (by omega))) rfl (fun ⟨b8,c9⟩ hz10=>?_)
 refine aU2 ?_
 exact rT rfl rfl (fun w' h'=>⟨(b8,c9),by rw [he9];rfl,by rw [he9];exact ((hz3).trans h7 (by simp only [List.length_append];omega)).trans hz10 (by simp only [List.length_append];omega),by rw [he9];exact h'.ent aEt⟩)
end Go.Proofs
namespace Gx
open Go Go.RowKit
theorem QnO {s : List UInt8} {k : Nat} (h : k < s.length) : zer (s.take (k + 1)) = (zer (s.take k) && decide (s.getD k 0 = 0)):=by
 unfold zer;rw [List.take_add_one,List.getElem?_eq_getElem h,List.all_append,List.getD_eq_getElem?_getD,List.getElem?_eq_getElem h];simp
theorem Qtv {s : List UInt8} {k : Nat} (h : k < s.length) (h2 : ¬ s.getD k 0 = 0) : zer s = false:=by
 cases hb : zer s with
 | false=>rfl
 | true=>
  unfold zer at hb;have:=List.all_eq_true.1 hb _ (List.getElem_mem h)
  grind
theorem QhT {u : UInt8} : (u.toNat : Int) = 0 ↔ u = 0:=by
 constructor
 ·intro h;exact UInt8.toNat_inj.1 (by have : (0 : UInt8).toNat = 0:=rfl;omega)
 simp_all
def ZM (x : TEnt) (c : Int) : Int:=if 1 ≤ x.key.length ∧ x.key.length ≤ 40 then if x.key.length + x.val.length ≤ 88 then if 0 ≤ c ∧ c ≤ 120 then 0 else 2 else 8 else 3
structure NdP (n : Nd) : Prop where
 el : n.es.length ≤ 1000
 es : ∀ x ∈ n.es,x.key.length ≤ 300 ∧ x.val.length ≤ 300
 cl : n.cs.length = 0 ∨ n.cs.length = n.es.length + 1
 cs : ∀ c ∈ n.cs,0 ≤ c ∧ c < 4294967296
theorem NdW.ndp {n : Nd} (h : NdW n) (hl : n.es.length ≤ 1000) : NdP n:=
 ⟨hl,fun x hx=>by have:=h.es x hx;simp only [Yt,decide_eq_true_eq] at this;omega,h.cl,fun c hc=>by have:=h.cs c hc;omega⟩
theorem NdP.kid {n : Nd} (h : NdP n) {i : Nat} (hi : i ≤ n.es.length) : 0 ≤ YS n.cs i ∧ YS n.cs i < 4294967296:=by
 unfold YS;split
 ·omega
 ·have hl : i < n.cs.length:=by have:=h.cl;omega
  rw [List.getD_eq_getElem?_getD,List.getElem?_eq_getElem hl];exact h.cs _ (List.getElem_mem hl)
theorem QqA {n m : Nat} (h : n ≤ 8 * m) : QT n ≤ 8 * m:=by unfold QT;omega
theorem Qou {n m : Nat} (h : n % 8 = 0) : QT (n + m) = n + QT m:=by unfold QT;omega
theorem NdP.ents {n : Nd} (h : NdP n) : ∀ k,k ≤ n.es.length → (XU n k).length ≤ 608 * k ∧ (XU n k).length % 8 = 0
 | 0,_=>by simp [XU]
 | k + 1,hk=>by
  have ih:=h.ents k (by omega);have hx:=h.es _ (Xg (show k < n.es.length by omega));have hsz : (nth n.es k).sz = 8 + (nth n.es k).key.length + (nth n.es k).val.length:=rfl
  grind [QqA,nth,QT,XU,Qn6]
def conP (n : Nd) (k : Nat) : List UInt8:=if k ≤ n.es.length then XU n k else YG n
end Gx
