/- Contracts of the program's functions, proved by walking them with the rules of the Gx texts; without conditions beyond those that each contract names. -/
import Derived.WalkKit
import Derived.Deep.Draws
import Derived.TacticsIn
import Derived.OrdersIn
import Derived.RangeFuncLeaves
import Derived.Lib.Strings
import Derived.Laws.BytesArg
import Derived.Laws.IdiomStrings
import Derived.Deep.Quiet
import Derived.ProofKit
import Derived.OpenShut
import Derived.Laws.StructEq
import Derived.ChangeKeysEq
import Derived.Laws.Externs
import Derived.Lib.Overlaps
import Derived.Carry
import Derived.Laws.Small
import Derived.Lib.Bytealg
import Derived.Shelf.Small.Strs
import Derived.Shelf.Small.Wraps
import Derived.Shelf.Strconv.Itoa0
import Derived.Shelf.Strconv.Itoa1
import Derived.Shelf.LaysM
import Derived.Shelf.Strconv.Itoa2
import Derived.Shelf.Strconv.Itoa3
import Derived.Shelf.Strings.Search1
import Derived.Shelf.Strings.Search2
import Derived.Shelf.Strings.Cut
import Derived.Shelf.Strings.Shaped
import Derived.Shelf.Strings.LastIndex
import Derived.Shelf.Strings.LastIndexAll
import Derived.Shelf.Strings.Prefix
import Derived.Shelf.Slices.Turned
import Derived.Shelf.Slices.Reverse
import Derived.Shelf.Slices.Equal
import Derived.Ground.Names2Prog
import Derived.Shelf.Slices.Clone
import Derived.Shelf.Slices.SearchI
import Derived.Shelf.Slices.Delete
import Derived.Shelf.Slices.Cells
import Derived.Shelf.Slices.Empties
import Derived.Shelf.Slices.Empties2
import Derived.Ground.SlgnProg
import Derived.Shelf.SlicesE.Reverse
import Derived.Shelf.SlicesE.Delete
import Derived.Shelf.SlicesE.Clone
import Derived.Test.YtmhkomoiamljeaaGreatDoorProg
import Derived.KernelRfl
import Derived.Lib.LastIndexByte
import Derived.Lib.ItoaNum
import Derived.Lib.SmallJoins
import Derived.Lib.AppendIntMem
import Derived.RangeFuncRecord
import Derived.Lib.Builder
import Derived.Laws.Pointers
import Derived.Test.YtmhkomoiamljeaaGreatDoorTie
import Derived.Test.YtmhkomoiamljeaaGreatDoorCards
import Derived.SevenTiedAt
import Derived.LaidMore
import Derived.Lay
import Derived.Stop.Joined
import Derived.Test.YtmhkomoiamljeaaGreatDoorP2
set_option linter.unusedSimpArgs false
set_option maxHeartbeats 1000000
set_option linter.unusedVariables false
set_option linter.unusedSectionVars false
set_option linter.unnecessarySimpa false
namespace Gx
namespace Ev
open Go Go.RowKit
def QlT(P:Program)(Z:FuncId->Bool):Op->Bool
 | .alloc _=>true
 | .box _ _=>true
 | .store _ _ _=>true
 | .buildSlice _ _ _=>true
 | .makeSlice _ _ _=>true
 | .makeMap _ _=>true
 | .mapUpdate _ _ _ _=>true
 | .convert _ dst _=>match P.underlying dst with
  | some (.slice _)=>true
  | _=>false
 | .call ⟨.value (.func g),_,_⟩=>QJ P g&& !Z g
 | .call ⟨.value _,_,_⟩=>true
 | .call ⟨.builtin b,_,_⟩=>match b with
  | .append=>true
  | .copy=>true
  | .clear=>true
  | _=>false
 | _=>false
def isQ:Op->Bool
 | .load _ _=>true
 | .lookup _ _ _ _=>true
 | .convert _ _ _=>true
 | .call ⟨.value _,_,_⟩=>true
 | _=>false
noncomputable def at'(ops:List Oper)(i:Nat):Option Oper:=List.rec (λ_=>none) (λo _ ih i=>Nat.rec (some o) (λj _=>ih j) i) ops i
noncomputable def Qrt(P:Program)(Z:FuncId->Bool)(ops:List Oper)(M:Nat)(rows:List Row):Option Nat:=List.rec none (λr _ ih=>Bool.rec (Bool.rec ih (match at' ops r.i with
 | some o=>Bool.rec (some r.i) ih (QlT P Z o.op||isQ o.op)
 | none=>ih) (YH r.need M)) ih (has M r.i)) rows
noncomputable def Qq9(P:Program)(Z:FuncId->Bool)(ops:List Oper)(M:Nat)(rows:List Row):Option Nat:=List.rec none (λr _ ih=>Bool.rec (Bool.rec ih (match at' ops r.i with
 | some o=>Bool.rec (some r.i) ih (QlT P Z o.op)
 | none=>ih) (YH r.need M)) ih (has M r.i)) rows
noncomputable def QoQ(P:Program)(Z:FuncId->Bool)(ops:List Oper)(M:Nat)(rows:List Row):Option Nat:=match Qrt P Z ops M rows with
 | some i=>some i
 | none=>Qq9 P Z ops M rows
noncomputable def Qpe(M:Nat)(rows:List Row):Option Nat:=List.rec none (λr _ ih=>Bool.rec (Bool.rec ih (some r.i) (YH r.em M)) ih (has M r.i)) rows
def isNw:Op->Bool
 | .makeMap _ none=>true
 | .alloc _=>true
 | _=>false
noncomputable def QqF(M j:Nat)(rows:List Row):Option Nat:=List.rec none (λr _ ih=>Bool.rec (Bool.rec (Bool.rec ih (some r.i) (YH r.em M)) ih (has M r.i)) ih (Nat.beq r.i j)) rows
noncomputable def psR(P:Program)(Z:FuncId->Bool)(ops:List Oper)(rows:List Row)(j:Nat)(f:Nat):Nat->List Nat:=Nat.rec (λ_=>[]) (λ_ ih M=>match QoQ P Z ops M rows with
 | some i=>i::ih (Xg M i)
 | none=>(match QqF M j rows with
  | some i=>i::ih (Xg M i)
  | none=>[])) f
noncomputable def Qq2(P:Program)(Z:FuncId->Bool)(ops:List Oper)(allr:List Row)(M i:Nat)(ni:Bool)(rows:List Row):Option It:=List.rec none (λr _ ih=>Bool.rec (Bool.rec (Bool.rec ih (match at' ops r.i with
 | some o=>Bool.rec (Bool.rec ih (some (.two r.i i (psR P Z ops allr i ops.length (Xg M r.i)))) ni) (some (.two i r.i (psR P Z ops allr r.i ops.length (Xg M i)))) (isNw o.op)
 | none=>ih) (YH r.em M)) ih (has M r.i)) ih (Nat.beq r.i i)) rows
noncomputable def makR(P:Program)(Z:FuncId->Bool)(ops:List Oper)(rows:List Row)(M i:Nat):It:=Bool.rec (match at' ops i with
 | some o=>(match Qq2 P Z ops rows M i (isNw o.op) rows with
  | some x=>x
  | none=>.one i)
 | none=>.one i) (.one i) (Qhz M i rows)
noncomputable def addI(M:Nat):It->Nat
 | .one i=>Xg M i
 | .two i j ps=>Xg (addL ps (Xg M i)) j
noncomputable def Qdm(P:Program)(Z:FuncId->Bool)(ops:List Oper)(rows:List Row)(f:Nat):Nat->List It:=Nat.rec (λ_=>[]) (λ_ ih M=>match QoQ P Z ops M rows with
 | some i=>.one i::ih (Xg M i)
 | none=>(match Qpe M rows with
  | some i=>makR P Z ops rows M i::ih (addI M (makR P Z ops rows M i))
  | none=>[])) f
noncomputable def Qis(tm:Nat)(qs:List Nat):Bool:=List.rec true (λq _ ih=>Bool.rec false ih (has tm q)) qs
noncomputable def Qeu(P:Program)(Z:FuncId->Bool)(ops:List Oper)(fs:List (Nat×Inf))(rows:List Row)(order:List It):List Nat->List Fin1:=List.rec (λ_=>[]) (λx _ ih qs=>match x with
 | .two _ _ _=>ih qs
 | .one i=>match at' ops i,QbD i rows with
 | some o,some r=>Bool.rec (ih (Bool.rec qs (i::qs) (isQ o.op))) (Bool.rec (ih (Bool.rec qs (i::qs) (isQ o.op))) (⟨i,Qdl fs r.em⟩::ih []) (Qis (Qdl fs r.em) qs)) (QlT P Z o.op)
 | _,_=>ih qs) order
theorem Z7{P:Program}{Z:FuncId->Bool}{ops:List Oper}{fs:List (Nat×Inf)}:∀(order:List It)(qs:List Nat),∀f∈Qeu P Z ops fs (Qo fs fs) order qs,Qfa fs f
 | [],qs,f,h=>by cases h
 | .two _ _ _::order,qs,f,h=>Z7 order qs f h
 | .one i::order,qs,f,h=>by
  have hu:Qeu P Z ops fs (Qo fs fs) (.one i::order) qs=(match at' ops i,QbD i (Qo fs fs)with
   | some o,some r=>Bool.rec (Qeu P Z ops fs (Qo fs fs) order (Bool.rec qs (i::qs) (isQ o.op))) (Bool.rec (Qeu P Z ops fs (Qo fs fs) order (Bool.rec qs (i::qs) (isQ o.op))) (⟨i,Qdl fs r.em⟩::Qeu P Z ops fs (Qo fs fs) order []) (Qis (Qdl fs r.em) qs)) (QlT P Z o.op)
   | _,_=>Qeu P Z ops fs (Qo fs fs) order qs):=rfl
  rw[hu]at h;split at h
  ·rename_i o r h1 h2;cases hk:QlT P Z o.op with
   | false=>rw[hk]at h;exact Z7 order _ f h
   | true=>
    rw[hk]at h;cases hh:Qis (Qdl fs r.em) qs with
    | false=>rw[hh]at h;exact Z7 order _ f h
    | true=>
     rw[hh]at h;rcases List.mem_cons.1 h with rfl|h
     ·obtain⟨g1,g2⟩:=X6 h2;exact⟨r,g1,g2,rfl⟩
     ·exact Z7 order _ f h
  ·exact Z7 order _ f h
noncomputable def ltI(n:Nat):It->Bool
 | .one i=>Nat.blt i n
 | .two i j ps=>Nat.blt i n&&(Nat.blt j n&&ps.all λq=>Nat.blt q n)
noncomputable def QgK(n:Nat)(l:List It):Bool:=List.rec true (λi _ ih=>Bool.rec false ih (ltI n i)) l
theorem Qfb{n:Nat}:∀{l:List It},QgK n l=true->∀i∈l,QnZ n i
 | a::l,h,i,hi=>by
  have hu:QgK n (a::l)=(Bool.rec false (QgK n l) (ltI n a):Bool):=rfl;rw[hu]at h;cases hb:ltI n a with
  | false=>rw[hb]at h;cases h
  | true=>
   rw[hb]at h;rcases List.mem_cons.1 hi with rfl|hi
   ·cases i with
    | one i=>simpa[ltI,QnZ,Nat.blt_eq]using hb
    | two i j ps=>simpa[ltI,QnZ,Nat.blt_eq]using hb
   ·exact Qfb h i hi
 | [],_,i,hi=>by cases hi
noncomputable def Qlv(P:Program)(Z:FuncId->Bool)(nt:Nat):Array Oper->CS
 | ⟨ops⟩=>match Qah ops 0 ops with
  | some fs=>Bool.rec noC (match Qeu P Z ops fs (Qo fs fs) (Qdm P Z ops (Qo fs fs) ops.length 0) []with
    | []=>⟨λF T H n=>(QaH P nt ⟨ops⟩ (mkF (Qo fs fs) [] none 0 (Qdm P Z ops (Qo fs fs) ops.length 0))).run F T H n []⟩
    | f::Fs=>⟨λF T H n=>(QaH P nt ⟨ops⟩ (mkF (Qo fs fs) Fs (some f) 0 (Qdm P Z ops (Qo fs fs) ops.length 0))).run F T H n []⟩)
   (Nat.beq (QeO (Qdm P Z ops (Qo fs fs) ops.length 0)) ops.length&&(Nat.beq (QmV 0 (Qdm P Z ops (Qo fs fs) ops.length 0)) (2^ops.length-1)&&QgK ops.length (Qdm P Z ops (Qo fs fs) ops.length 0)))
  | none=>noC
theorem QkH{P:Program}{Z:FuncId->Bool}(hm:P.follows .mixedOrders=true):Qiv P (Qlv P Z):=by
 intro l id r0 w0 X k F T H n ρ L' As hP hF ht hs;unfold Qlv at ht;simp only[]at ht;split at ht
 ·rename_i fs hf;cases hc:(Nat.beq (QeO (Qdm P Z l (Qo fs fs) l.length 0)) l.length&&(Nat.beq (QmV 0 (Qdm P Z l (Qo fs fs) l.length 0)) (2^l.length-1)&&QgK l.length (Qdm P Z l (Qo fs fs) l.length 0)))with
  | false=>rw[hc]at ht;exact ht.elim
  | true=>
   rw[hc]at ht;simp only[Bool.and_eq_true]at hc;have hlen:=Nat.eq_of_beq_eq_true hc.1
   have key:∀(Fs:List Fin1)(F':Option Fin1),(∀f,F'=some f->Qfa fs f)->(∀f∈Fs,Qfa fs f)->QR r0 w0 ρ X k ((QaH P X.n ⟨l⟩ (mkF (Qo fs fs) Fs F' 0 (Qdm P Z l (Qo fs fs) l.length 0))).run F T H n [])->S X (.c (.region id ⟨l⟩ true)::k) L' (HS w0 [] As):=by
    intro Fs F' h1 h2 h;refine QoC ([]++ρ.ex) (QaN F') (by rw[hP];exact hm) ?_;have:=Qca (w0:=w0) (k:=k) hF hP hf (Qdm P Z l (Qo fs fs) l.length 0) Fs F' (Array.replicate l.length false) 0 (Lm.start _) (Qfb hc.2.2) (Nat.eq_of_beq_eq_true hc.2.1) h1 h2 T H n [] [] ρ L' As [] h hs rfl trivial;rw[hlen]at this;exact this
   split at ht<;>grind[Z7,Qdm,Qo]
 ·exact ht.elim
def extCS(c:Nat):FuncId->List Value->Option Value:=λf vs=>match vs with
 | [.string ⟨⟨a⟩⟩,.string ⟨⟨b⟩⟩]=>bif Nat.beq f c then some (.int .i64 (QeK a b))else none
 | _=>none
theorem extCS_ok{P:Program}{c:Nat}(hc:QpP P c):Qfd P (extCS c):=by
 intro f vs v h w0 ρ us As hvs o L' args ts ho hev;unfold extCS at h;split at h
 ·rename_i a b;obtain⟨h1,rfl⟩:=bif_some h;have hf:=Nat.eq_of_beq_eq_true h1;subst hf;injection hvs with hvs
  subst hvs
  obtain⟨x,y,hxy,hx,hy⟩:∃x y,args.toList=[x,y]/\Gx.ev L' x=some (.string (bs a))/\Gx.ev L' y=some (.string (bs b)):=by
   match hl:args.toList with
   | []=>rw[hl]at hev;cases hev
   | [x]=>grind[evs]
   | [x,y]=>
    rw[hl]at hev;simp only[evs]at hev;split at hev
    ·rename_i v vs h1 h2;split at h2
     ·rename_i v' vs' h3 h4;injection h4 with h4
      injection h2 with h2
      subst h4 h2;injection hev with hev
      injection hev with e1 e2
      injection e2 with e2 e3
      subst e1 e2;exact⟨x,y,rfl,h1,h3⟩
     ·cases h2
    ·cases hev
   | x::y::z::r=>grind[evs]
  rw[Qb6 hxy]at ho;exact⟨_,rfl,Qc4 ho hx hy hc⟩
 ·cases h
theorem ev_run{P:Program}{K:CallF}{Z:FuncId->Bool}{m f:Nat}{g:FuncId}{vs:List Value}{v:Value}(hK:KnOk P K)(hm:P.follows .mixedOrders=true)(hvs:QS vs=true)(hv:YV v=true)(h:(match(evF P K Z m (Qlv P Z) f).f noY g vs .lf 0 with
  | some r=>some r.1
  | none=>none)=some v):∀w,Calls P g vs.toArray w (λe w'=>e=.returned v/\HS w [] [] w'):=by
 intro w;split at h
 ·rename_i r hr;injection h with h
  subst h;obtain⟨v,H',n'⟩:=r
  have:=((Qk9 (Z:=Z) (m:=m) hK (QkH hm) f ⟨λ_=>none,[]⟩).f _ _ QbV) g vs .lf 0 v H' n' hr w ⟨λ_=>none,[]⟩ vs [] (Rho.le_refl _) (Q3 (λa b e=>Qde (Qb4 e)) (Xy hvs)) ⟨[],[],(λm r hm=>by
   have h':Ye (pth m) m (.lf:Hp)=some r:=hm;rw[Yp]at h';cases h'),rfl,rfl⟩ (λ_ _=>rfl) w (HS.refl w [])
  refine Calls.mono this λe w'⟨ρ',As',u,h1,h2,h3,h4,h5,h6⟩=>?_;rw[ZB hv]at h3;injection h3 with h3
  subst h3;exact⟨h5,h6.sub (List.nil_sublist _)⟩
 ·cases h
end Ev
namespace Ev
open Go Go.RowKit
def InsC(P:Program)(f e sz by':Nat):Prop:=∀(w:World)(a:Option Addr)(i n m cap:Nat)(xs news:List Value)(b0 c0 tot2:Nat),HS w (fps [.own (.slice a n cap) e sz n xs,.blk b0 e tot2 news]) [.own (.slice a n cap) e sz n xs,.blk b0 e tot2 news] w->0<m->news.length=m*sz->(∀u∈news,u.oneCell'=true)->(∀u∈xs,u.oneCell'=true)->(n+m)*by'<=140737488355328->i<=n ->
 Calls P f #[.slice a n cap,.int .i64 (i:Int),.slice (some ⟨b0,0,none⟩) m c0] w λen w'=>∃g:Option Addr×Nat,en=.returned (.slice g.1 (n+m) g.2)/\True/\HS w (fps [.own (.slice a n cap) e sz n xs,.blk b0 e tot2 news]) [.own (.slice g.1 (n+m) g.2) e sz (n+m) (xs.take (i*sz)++news++xs.drop (i*sz)),.blk b0 e tot2 news] w'
noncomputable def insV(e sz by':Nat)(H:Hp)(n:Nat):List Value->Option (Value×Hp×Nat)
 | [.slice none l c,.int .i64 (.ofNat i),.slice (some ⟨q,0,_⟩) m _]=>match XH H q with
  | some rq=>bif (Nat.beq rq.ty e&&(Nat.beq rq.cs.length (m*sz)&&(Nat.blt 0 m&&Nat.ble i l)))&&((Nat.beq l 0&&Nat.beq c 0)&&Nat.ble ((l+m)*by') 140737488355328)then some (.slice (some ⟨n,0,none⟩) (l+m) (l+m),XJ H n ⟨e,sz,rq.cs⟩,n+1)else none
  | none=>none
 | [.slice (some ⟨p,0,none⟩) l c,.int .i64 (.ofNat i),.slice (some ⟨q,0,_⟩) m _]=>match XH H p,XH H q with
  | some r,some rq=>bif (Nat.beq rq.ty e&&(Nat.beq rq.cs.length (m*sz)&&(Nat.blt 0 m&&Nat.ble i l)))&&((!Nat.beq q p&&(Nat.beq r.ty e&&(Nat.beq r.sz sz&&(Nat.beq r.cs.length (c*sz)&&Nat.blt 0 sz))))&&((Nat.ble l c&&Nat.ble c maxLen)&&Nat.ble ((l+m)*by') 140737488355328))then some (.slice (some ⟨n,0,none⟩) (l+m) (l+m),XJ (Qev H p) n ⟨e,sz,(r.cs.take (l*sz)).take (i*sz)++rq.cs++(r.cs.take (l*sz)).drop (i*sz)⟩,n+1)else none
  | _,_=>none
 | _=>none
noncomputable def insK:List (Nat×Nat×Nat×Nat)->Qa3
 | [],_,_,_,_=>none
 | (f,e,sz,by')::l,g,vs,H,n=>bif Nat.beq g f then insV e sz by' H n vs else insK l g vs H n
theorem Qin{ρ:Rho}{p o l c:Nat}{u:Value}(h:den ρ (.slice (some ⟨p,o,none⟩) l c)=some u):∃b d,ρ p=some (b,d)/\u=.slice (some ⟨b,o,none⟩) l (c+d):=by grind[den,Q0,QE,Xn]
theorem Qi2{ρ:Rho}{p o l c:Nat}{q:Option Nat}{u:Value}(h:den ρ (.slice (some ⟨p,o,q⟩) l c)=some u):∃b d c',ρ p=some (b,d)/\u=.slice (some ⟨b,o,none⟩) l c':=by cases q<;>grind[Qin,den,Q0,QE,Xn]
theorem Xj{α β:Type}{f:α->Option β}{a:α}{l:List α}{m:List β}(h:Qq f (a::l)=some m):∃b m',f a=some b/\Qq f l=some m'/\m=b::m':=by grind[Qq]
theorem QnI{P:Program}{f e sz by':Nat}(hI:InsC P f e sz by'){vs:List Value}{H:Hp}{n:Nat}{v:Value}{H':Hp}{n':Nat}(h:insV e sz by' H n vs=some (v,H',n'))(w0:World)(ρ:Rho)(us:List Value)(As:List HA)(hus:Qq (den ρ) vs=some us)(hH:HM ρ H As)(hf:QB ρ n)(w:World)(hw:HS w0 [] As w):Calls P f us.toArray w (QiG w0 ρ v H' n'):=by
 unfold insV at h;split at h
 ·rename_i l c i q x m y;obtain⟨u1,m1,d1,hus1,rfl⟩:=Xj hus;obtain⟨u2,m2,d2,hus2,rfl⟩:=Xj hus1;obtain⟨u3,m3,d3,hus3,rfl⟩:=Xj hus2;cases hus3;cases d1;cases d2;obtain⟨b0,d0,c0,e1,rfl⟩:=Qi2 d3;split at h
  ·rename_i rq hq;obtain⟨hc,he⟩:=bif_some h
   clear h
   simp only[Bool.and_eq_true]at hc;obtain⟨⟨k1,k2,k3,k4⟩,⟨k5,k6⟩,k7⟩:=hc;have hl0:=Nat.eq_of_beq_eq_true k5;have hc0:=Nat.eq_of_beq_eq_true k6;have hi0:i=0:=by have:=Nat.le_of_ble_eq_true k4;omega
   have hty:=Nat.eq_of_beq_eq_true k1;subst hl0 hc0 hi0 hty;injection he with h1 h2
   injection h2 with h2 h3
   subst h1 h2 h3;obtain⟨b,d,cu,Rs,g1,g2,g3,g4,_,_⟩:=Xv hH hq;rw[g1]at e1;injection e1 with e1
   injection e1 with e1 e3
   subst e1 e3;have hw2:=((hw.perm g4.perm).own_nil rq.ty sz);have hlen:cu.length=m*sz:=by rw[QP g2];exact Nat.eq_of_beq_eq_true k2
   have hfoc:=HS.focus (Cs:=[.own (.slice none 0 0) rq.ty sz 0 [],.blk b rq.ty (cu.length+d*rq.sz) cu]) (Ds:=Rs) hw2;refine Calls.mono (hI w none 0 0 m 0 [] cu b c0 _ hfoc (by simpa[Nat.blt_eq]using k3) hlen (List.all_eq_true.1 (Yl g2)) (λ_ h=>by cases h) (Nat.le_of_ble_eq_true k7) (Nat.le_refl _)) λen w'⟨g,h1,_,h2⟩=>?_;have h3:=HS.callM (Cs:=[.own (.slice none 0 0) rq.ty sz 0 [],.blk b rq.ty (cu.length+d*rq.sz) cu]) (As:=Rs) hw2 (λb hb=>by obtain⟨A,hA,hb⟩:=List.mem_flatMap.1 hb;exact⟨A,hA,hb⟩) h2;have hpos:0<0+m:=by simpa[Nat.blt_eq]using k3
   obtain⟨gg,ga,_,hn,hcm,hxl,h4⟩:=h3.own_blk hpos .here;have h5:HS w0 [] (.blk gg rq.ty (g.2*sz) ([].take (0*sz)++cu++[].drop (0*sz))::As) w':=h4.perm (.cons _ g4.perm.symm);obtain⟨ρ',As',o1,o2,o3,o4,o5⟩:=Qcq (w0:=w0) (e:=rq.ty) (sz:=sz) (k:=0) (m:=m) (g:=(gg,g.2)) (xs:=cu) ⟨As,hH,.refl _⟩ hf g2 hn hcm (by rw[hlen,Nat.zero_add]);refine⟨ρ',As',_,o1,o2,o3,o4,?_,o5 _ (by simpa using h5)⟩;rw[h1,ga]
  ·cases h
 ·rename_i p l c i q x m y;obtain⟨u1,m1,d1,hus1,rfl⟩:=Xj hus;obtain⟨u2,m2,d2,hus2,rfl⟩:=Xj hus1;obtain⟨u3,m3,d3,hus3,rfl⟩:=Xj hus2;cases hus3;cases d2;obtain⟨b9,d9,e9,rfl⟩:=Qin d1;obtain⟨b0,d0,c0,e1,rfl⟩:=Qi2 d3;split at h
  ·rename_i r rq hp hq;obtain⟨hc,he⟩:=bif_some h
   clear h
   simp only[Bool.and_eq_true]at hc;obtain⟨⟨k1,k2,k3,k4⟩,⟨k5,k6,k7,k8,k9⟩,⟨k10,k11⟩,k12⟩:=hc;have hty:=Nat.eq_of_beq_eq_true k1;have hty2:=Nat.eq_of_beq_eq_true k6;have hsz2:=Nat.eq_of_beq_eq_true k7;have hlenr:=Nat.eq_of_beq_eq_true k8;have hsz0:0<sz:=by simpa[Nat.blt_eq]using k9
   have hlc:=Nat.le_of_ble_eq_true k10;have hcm:=Nat.le_of_ble_eq_true k11;have hqp:q≠p:=λh=>by subst h;simp[Nat.beq_refl]at k5
   injection he with h1 h2
   injection h2 with h2 h3
   subst h1 h2 h3;obtain⟨b,d,rs,Rs,g1,g2,g3,g4,_,As3,g6,g7⟩:=Xv hH hp;rw[g1]at e9;injection e9 with e9
   injection e9 with e9 e3
   subst e9 e3;obtain⟨b',d',cu,Rs2,f1,f2,f3,f4,_,_⟩:=Xv g6 (by unfold XH;rw[Qbb hqp];exact hq);rw[f1]at e1;injection e1 with e1
   injection e1 with e1 e3
   subst e1 e3;have hlr:=QP g2
   have hcd:c+d<=maxLen:=by
    unfold Qcu at g3;rcases g3 with g3|g3
    ·omega
    ·rw[hlenr,hsz2,<-Nat.add_mul]at g3;exact Nat.le_of_mul_le_mul_right g3 hsz0
   have htot:rs.length+d*r.sz=(c+d)*sz:=by rw[hlr,hlenr,hsz2,Nat.add_mul]
   rw[hty2,htot]at g4;rw[hty]at f4;have hw2:=HS.to_own (n:=l) g4 hw (List.take_append_drop (l*sz) rs).symm (by rw[List.length_take,hlr,hlenr];exact Nat.min_eq_left (Nat.mul_le_mul_right _ hlc)) om hcd;have hw3:=hw2.perm (.cons _ (g7.trans f4.perm));have hlen:cu.length=m*sz:=by rw[QP f2];exact Nat.eq_of_beq_eq_true k2
   have hfoc:=HS.focus (Cs:=[.own (.slice (some ⟨b,0,none⟩) l (c+d)) e sz l (rs.take (l*sz)),.blk b' e (cu.length+d'*rq.sz) cu]) (Ds:=Rs2) hw3;have hone:=List.all_eq_true.1 (Yl g2);refine Calls.mono (hI w _ i l m (c+d) (rs.take (l*sz)) cu b' c0 _ hfoc (by simpa[Nat.blt_eq]using k3) hlen (List.all_eq_true.1 (Yl f2)) (λu hu=>hone u (List.mem_of_mem_take hu)) (Nat.le_of_ble_eq_true k12) (Nat.le_of_ble_eq_true k4)) λen w'⟨g,h1,_,h2⟩=>?_;have h3:=HS.callM (Cs:=[.own (.slice (some ⟨b,0,none⟩) l (c+d)) e sz l (rs.take (l*sz)),.blk b' e (cu.length+d'*rq.sz) cu]) (As:=Rs2) hw3 (λb hb=>by obtain⟨A,hA,hb⟩:=List.mem_flatMap.1 hb;exact⟨A,hA,hb⟩) h2
   have hpos:0<l+m:=by
     have:0<m:=by simpa[Nat.blt_eq]using k3
     omega
   obtain⟨gg,ga,_,hn,hcm2,hxl,h4⟩:=h3.own_blk hpos .here;have h5:HS w0 [] (.blk gg e (g.2*sz) ((rs.take (l*sz)).take (i*sz)++cu++(rs.take (l*sz)).drop (i*sz))::As3) w':=h4.perm (.cons _ f4.perm.symm);have hcells:Qq (QE ρ) ((r.cs.take (l*sz)).take (i*sz)++rq.cs++(r.cs.take (l*sz)).drop (i*sz))=some ((rs.take (l*sz)).take (i*sz)++cu++(rs.take (l*sz)).drop (i*sz)):=Ym (Ym (Xb _ (Xb _ g2)) f2) (X2 _ (Xb _ g2));obtain⟨ρ',As',o1,o2,o3,o4,o5⟩:=Qcq (w0:=w0) (e:=e) (sz:=sz) (k:=l) (m:=m) (g:=(gg,g.2)) ⟨As3,g6,.refl _⟩ hf hcells hn hcm2 hxl;refine⟨ρ',As',_,o1,o2,o3,o4,?_,o5 _ h5⟩;rw[h1,ga]
  ·cases h
 ·cases h
theorem insK_ok{P:Program}{r0:Rho}:∀{l:List (Nat×Nat×Nat×Nat)},(∀x∈l,InsC P x.1 x.2.1 x.2.2.1 x.2.2.2)->Qcp P r0 (insK l)
 | [],_=>λ_ _ _ _ _ _ _ h=>by cases h
 | (f,e,sz,by')::l,hl=>by
  intro g vs H n v H' n' h;simp only[insK]at h;cases hb:Nat.beq g f with
  | true=>
   rw[hb]at h;have hg:=Nat.eq_of_beq_eq_true hb;subst hg;exactλw0 ρ us As _ hus hH hf w hw=>QnI (hl _ (List.mem_cons_self ..)) h w0 ρ us As hus hH hf w hw
  | false=>
   rw[hb]at h;exact insK_ok (λx hx=>hl x (List.mem_cons_of_mem _ hx)) g vs H n v H' n' h
end Ev
namespace Ev
open Go Go.RowKit
def QCon(P:Program)(f:FuncId)(φ:List Value->Option Value):Prop:=∀vs v,φ vs=some v->Qf3 vs=true/\den ⟨λ_=>none,[]⟩ v=some v/\∀w:World,Calls P f vs.toArray w λen w'=>en=.returned v/\Below w.heap.size w w'
noncomputable def knP(e:FuncId->List Value->Option Value):List (FuncId×(List Value->Option Value))->FuncId->List Value->Option Value
 | [],g,vs=>e g vs
 | x::l,g,vs=>bif Nat.beq g x.1 then x.2 vs else knP e l g vs
theorem knP_ok{P:Program}{e:FuncId->List Value->Option Value}(he:Qfd P e):∀{l:List (FuncId×(List Value->Option Value))},(∀x∈l,QJ P x.1=true/\QCon P x.1 x.2)->Qfd P (knP e l)
 | [],_=>he
 | x::l,hl=>by
  intro g vs v h w0 ρ us As hvs o L' args ts ho hev;simp only[knP]at h;cases hb:Nat.beq g x.1 with
  | true=>
   rw[hb]at h;have hg:=Nat.eq_of_beq_eq_true hb;subst hg;obtain⟨hfn,hq⟩:=hl x (List.mem_cons_self ..);obtain⟨h1,h2,h3⟩:=hq vs v h
   have hus:us=vs:=by
    have h4:=Qa0 (ρ:=ρ) h1;rw[h4]at hvs;exact(Option.some.inj hvs).symm
   subst hus
   have hmono:den ρ v=some v:=by
    have h4:=Z2 (ρ:=⟨λ_=>none,ρ.ex⟩) (ρ':=ρ) ⟨λn x h=>(by cases h),rfl⟩ v v h2;exact h4
   refine⟨v,hmono,?_⟩;intro a w hρ hw;rw[Zr ho hρ (show ev L' (.func x.1)=some (.func (.func x.1) #[] #[])from rfl) hfn hev];simp only[Array.empty_append,Array.append_empty];refine Calls.mono (h3 w) λe w'⟨h5,h6⟩=>?_;exact⟨_,h5,rfl,h6⟩
  | false=>
   rw[hb]at h;exact knP_ok he (λy hy=>hl y (List.mem_cons_of_mem _ hy)) g vs v h w0 ρ us As hvs o L' args ts ho hev
theorem QiC{g:FuncId}{vs:List Value}{v:Value}:∀{l:List (FuncId×(List Value->Option Value))},knP (λ_ _=>none) l g vs=some v->∃x∈l,g=x.1/\x.2 vs=some v
 | [],h=>by cases h
 | x::l,h=>by
  simp only[knP]at h;cases hb:Nat.beq g x.1 with
  | true=>
   rw[hb]at h;exact⟨x,List.mem_cons_self ..,Nat.eq_of_beq_eq_true hb,h⟩
  | false=>
   rw[hb]at h;obtain⟨y,hy,h2⟩:=QiC h;exact⟨y,List.mem_cons_of_mem _ hy,h2⟩
noncomputable def knR(K:Qa3)(l:List (FuncId×(List Value->Option Value))):Qa3:=λg vs H n=>match knP (λ_ _=>none) l g vs with
 | some v=>some (v,H,n)
 | none=>K g vs H n
theorem knR_ok{P:Program}{r0:Rho}{K:Qa3}(hK:Qcp P r0 K){l:List (FuncId×(List Value->Option Value))}(hl:∀x∈l,QCon P x.1 x.2):Qcp P r0 (knR K l):=by
 intro g vs H n v H' n' h w0 ρ us As hle hus hH hf w hw;unfold knR at h;split at h
 ·rename_i v2 hv;injection h with h
  injection h with h1 h
  injection h with h2 h3
  subst h1 h2 h3;obtain⟨x,hx,rfl,hφ⟩:=QiC hv;obtain⟨h1,h2,h3⟩:=hl x hx vs v2 hφ;rw[Qa0 h1]at hus;injection hus with hus
  subst hus;refine Calls.mono (h3 w) λe w'⟨h5,h6⟩=>⟨ρ,As,v2,Rho.le_refl _,hf,Z2 (ρ:=⟨λ_=>none,ρ.ex⟩) (ρ':=ρ) ⟨λn x h=>(by cases h),rfl⟩ v2 v2 h2,hH,h5,hw.stable h6⟩
 ·exact hK g vs H n v H' n' h w0 ρ us As hle hus hH hf w hw
noncomputable def Qjd:List Value->Option (List (List UInt8))
 | []=>some []
 | .string b::l=>match Qjd l with
  | some r=>some (b.data.toList::r)
  | none=>none
 | _=>none
theorem QgH:∀{cs:List Value}{l:List (List UInt8)},Qjd cs=some l->cs=l.map (λs=>Value.string (bs s))/\QS cs=true
 | [],l,h=>by
  injection h with h
  subst h;exact⟨rfl,rfl⟩
 | c::cs,l,h=>by
  cases c with
  | string b=>
   simp only[Qjd]at h;split at h
   ·rename_i r hr;injection h with h
    subst h;obtain⟨h1,h2⟩:=QgH hr;refine⟨by rw[List.map_cons,<-h1];rfl,?_⟩;simp only[QS,List.all_cons];rw[show YV (Value.string b)=true from rfl];exact h2
   ·cases h
  | _=>cases h
def SCon(P:Program)(f:FuncId)(φ:List UInt8->List UInt8->List (List UInt8)->Option Value):Prop:=∀t s l v,φ t s l=some v->den ⟨λ_=>none,[]⟩ v=some v/\∀(w:World)(a:Option Addr)(cap:Nat),Vl w a (l.map λs=>Value.string (bs s))->Calls P f #[.string (bs t),.string (bs s),.slice a l.length cap] w λen w'=>en=.returned v/\Below w.heap.size w w'
noncomputable def knS(K:Qa3)(f:FuncId)(φ:List UInt8->List UInt8->List (List UInt8)->Option Value):Qa3:=λg vs H n=>bif Nat.beq g f then(match vs with
 | [.string t,.string s,.slice (some ⟨p,0,none⟩) m c]=>match XH H p with
  | some r=>bif Nat.beq r.sz 1&&Nat.ble m r.cs.length then(match Qjd (r.cs.take m)with
   | some l=>(match φ t.data.toList s.data.toList l with
    | some v=>some (v,H,n)
    | none=>none)
   | none=>none)else none
  | none=>none
 | [.string t,.string s,.slice none 0 c]=>match φ t.data.toList s.data.toList []with
  | some v=>some (v,H,n)
  | none=>none
 | _=>none)else K g vs H n
theorem knS_ok{P:Program}{r0:Rho}{K:Qa3}(hK:Qcp P r0 K){f:FuncId}{φ:List UInt8->List UInt8->List (List UInt8)->Option Value}(hl:SCon P f φ):Qcp P r0 (knS K f φ):=by
 intro g vs H n v H' n' h w0 ρ us As hle hus hH hf w hw;unfold knS at h;cases hb:Nat.beq g f with
 | false=>
  rw[hb]at h;exact hK g vs H n v H' n' h w0 ρ us As hle hus hH hf w hw
 | true=>
  rw[hb]at h;simp only[cond_true]at h;have hg:=Nat.eq_of_beq_eq_true hb;subst hg;have self:∀{v2:Value},den ⟨λ_=>none,[]⟩ v2=some v2->den ρ v2=some v2:=λ{v2}h2=>Z2 (ρ:=⟨λ_=>none,ρ.ex⟩) (ρ':=ρ) ⟨λn x h=>(by cases h),rfl⟩ v2 v2 h2;split at h
  ·rename_i t s p m c;obtain⟨u1,m1,d1,hus1,rfl⟩:=Xj hus;obtain⟨u2,m2,d2,hus2,rfl⟩:=Xj hus1;obtain⟨u3,m3,d3,hus3,rfl⟩:=Xj hus2;cases hus3;cases d1;cases d2;obtain⟨b0,d0,e0,rfl⟩:=Qin d3;split at h
   ·rename_i r hr;obtain⟨hc,h⟩:=bif_in h;simp only[Bool.and_eq_true]at hc;have hsz:=Nat.eq_of_beq_eq_true hc.1;have hm:=Nat.le_of_ble_eq_true hc.2;split at h
    ·rename_i l hl2;split at h
     ·rename_i v2 hv;injection h with h
      injection h with h1 h
      injection h with h2 h3
      subst h1 h2 h3;obtain⟨b,d,cu,Rs,g1,g2,g3,g4,_,_⟩:=Xv hH hr;rw[g1]at e0;injection e0 with e0
      injection e0 with e0 e1
      subst e0 e1;obtain⟨k1,k2⟩:=QgH hl2;obtain⟨k3,k4⟩:=hl _ _ _ v2 hv
      have hcu:(cu.take m)=l.map λs=>Value.string (bs s):=by
       have h5:=Xb m g2;rw[Xy k2]at h5;injection h5 with h5
       rw[<-h5,k1]
      have hlen:m=l.length:=by
       have h6:=congrArg List.length hcu;rw[List.length_take,List.length_map,QP g2]at h6;omega
      have hV:Vl w (some ⟨b,0,none⟩) (l.map λs=>Value.string (bs s)):=by
       rw[<-hcu];have hlt:(cu.take m).length<=cu.length:=by rw[List.length_take];omega
       refine hw.sl_blk g4 (n:=(cu.take m).length) (cell:=λi=>((cu.take m)[i]?).toList) λi hi=>?_;have h7:=QfJ (vs:=cu.take m) hi;refine⟨h7.1,λj v hj=>?_⟩;have h8:=h7.2 j v hj;rw[List.getElem?_take]at h8;split at h8
       ·exact h8
       ·cases h8
      have hcall:=k4 w (some ⟨b,0,none⟩) (c+d) hV;rw[<-hlen]at hcall;exact Calls.mono hcall λe w'⟨h5,h6⟩=>⟨ρ,As,v2,Rho.le_refl _,hf,self k3,hH,h5,hw.stable h6⟩
     ·cases h
    ·cases h
   ·cases h
  ·rename_i t s c;obtain⟨u1,m1,d1,hus1,rfl⟩:=Xj hus;obtain⟨u2,m2,d2,hus2,rfl⟩:=Xj hus1;obtain⟨u3,m3,d3,hus3,rfl⟩:=Xj hus2;cases hus3;cases d1;cases d2;cases d3;split at h
   ·rename_i v2 hv;injection h with h
    injection h with h1 h
    injection h with h2 h3
    subst h1 h2 h3;obtain⟨k3,k4⟩:=hl _ _ _ v2 hv;have hV:Vl w none (([]:List (List UInt8)).map λs=>Value.string (bs s)):=⟨λhn=>absurd hn (Nat.lt_irrefl 0)⟩;have hcall:=k4 w none c hV;exact Calls.mono hcall λe w'⟨h5,h6⟩=>⟨ρ,As,v2,Rho.le_refl _,hf,self k3,hH,h5,hw.stable h6⟩
   ·cases h
  ·cases h
end Ev
end Gx
namespace Gx
open Go Go.RowKit
def mtF(t s:List UInt8):Nat->List UInt8->Nat->Bool
 | 0,_,_=>false
 | _+1,[],i=>decide (i=0)
 | f+1,c::r,0=>if c=42 then mtF t s f r 0 else false
 | f+1,c::r,i+1=>if c=42 then mtF t s f r (i+1)||mtF t s f (c::r) i else mtF t s f r i&&(decide (c=63)||decide (t.getD c.toNat 0=t.getD (s.getD i 0).toNat 0))
theorem Qd0{t s:List UInt8}:∀(f:Nat)(r:List UInt8)(i:Nat),r.length+i<f->mtF t s f r i=mtR t s r i
 | 0,_,_,h=>absurd h (Nat.not_lt_zero _)
 | f+1,[],i,h=>by rw[mtF,mtR]
 | f+1,c::r,0,h=>by
  simp only[List.length_cons]at h;rw[mtF,mtR,Qd0 f r 0 om]
 | f+1,c::r,i+1,h=>by
  simp only[List.length_cons]at h;rw[mtF,mtR,Qd0 f r (i+1) om,Qd0 f (c::r) i (by simp only[List.length_cons];omega),Qd0 f r i om]
def mtK(t p s:List UInt8):Bool:=mtF t s (p.length+s.length+1) p.reverse s.length
theorem Qqd(t p s:List UInt8):mtK t p s=mtU t p s:=Qd0 _ _ _ (by rw[List.length_reverse];omega)
end Gx
namespace Go.Proofs
open Go Go.RowKit Gx
theorem Qpo:Ev.InsC Tryz.prog 239 84 2 32:=λw a i n m cap xs news b0 c0 tot2=>c239 w a i n m cap xs news b0 c0 tot2
theorem Qqw:Ev.InsC Tryz.prog 302 3 1 8:=λw a i n m cap xs news b0 c0 tot2=>c302 w a i n m cap xs news b0 c0 tot2
def smB(b:ByteArray):Bool:=Nat.ble b.data.toList.length 1000000
theorem YF{b:ByteArray}(h:smB b=true):b.data.toList.length<=1000000:=Nat.le_of_ble_eq_true h
def Qqe:List Value->Option Value
  | [.string b]=>bif smB b then some (.int .i64 (Xt b.data.toList))else none
  | _=>none
theorem qc75:Ev.QCon Tryz.prog 75 Qqe:=λvs v h=>by
  unfold Qqe at h;split at h
  · rename_i b;obtain⟨h1,rfl⟩:=Ev.bif_some h;exact⟨rfl,rfl,λw=>c75 w b.data.toList (YF h1)⟩
  · cases h
def QqA:List Value->Option Value
  | []=>some (.string (bs QhI))
  | _=>none
theorem qc82:Ev.QCon Tryz.prog 82 QqA:=λvs v h=>by
  unfold QqA at h;split at h
  · injection h with h
    subst h;exact⟨rfl,rfl,λw=>c82 w⟩
  · cases h
def Qm3:List Value->Option Value
  | [.string b]=>bif smB b then some (.bool (Qa5 b.data.toList))else none
  | _=>none
theorem Qrx:Ev.QCon Tryz.prog 171 Qm3:=λvs v h=>by
  unfold Qm3 at h;split at h
  · rename_i b;obtain⟨h1,rfl⟩:=Ev.bif_some h;exact⟨rfl,rfl,λw=>Qp2 w b.data.toList (YF h1)⟩
  · cases h
def QlO:List Value->Option Value
  | [.string t,.string s]=>bif smB t&&smB s then some (.tuple #[.bool (if openE t.data.toList [s.data.toList]=0 then !Qa5 (up t.data.toList s.data.toList)else false),.int .i64 (openE t.data.toList [s.data.toList])])else none
  | _=>none
theorem Qrg:Ev.QCon Tryz.prog 169 QlO:=λvs v h=>by
  unfold QlO at h;split at h
  · rename_i t s;obtain⟨h1,rfl⟩:=Ev.bif_some h;rw[Bool.and_eq_true]at h1;exact⟨rfl,rfl,λw=>c169 w t.data.toList s.data.toList (YF h1.1) (YF h1.2)⟩
  · cases h
def QqT:List Value->Option Value
  | [.string t,.string p,.string s]=>bif smB t&&(smB p&&smB s)then some (.tuple #[.bool (if QfH t.data.toList p.data.toList s.data.toList=0 then mtK t.data.toList p.data.toList s.data.toList else false),.int .i64 (QfH t.data.toList p.data.toList s.data.toList)])else none
  | _=>none
theorem qc81:Ev.QCon Tryz.prog 81 QqT:=λvs v h=>by
  unfold QqT at h;split at h
  · rename_i t p s;obtain⟨h1,rfl⟩:=Ev.bif_some h;rw[Bool.and_eq_true,Bool.and_eq_true]at h1;refine⟨rfl,rfl,λw=>?_⟩;have h9:=c81 w t.data.toList p.data.toList s.data.toList (YF h1.1) (YF h1.2.1) (YF h1.2.2);rw[<-Qqd]at h9;exact h9
  · cases h
def QlX:List Value->Option Value
  | [.string a,.string b]=>bif smB a&&smB b then some (.int .i64 (QeK (a.data.toList.map QbZ) (b.data.toList.map QbZ)))else none
  | _=>none
theorem Qrd:Ev.QCon Tryz.prog 211 QlX:=λvs v h=>by
  unfold QlX at h;split at h
  · rename_i a b;obtain⟨h1,rfl⟩:=Ev.bif_some h;rw[Bool.and_eq_true]at h1;exact⟨rfl,rfl,λw=>c211 w a.data.toList b.data.toList (YF h1.1) (YF h1.2)⟩
  · cases h
def Qqb:List Value->Option Value
  | [.agg ⟨[.string a,.string b]⟩]=>bif smB a&&smB b then some (.tuple #[.agg #[.string (bs (dcD ⟨a.data.toList,b.data.toList⟩).nm),.int .i64 (dcD ⟨a.data.toList,b.data.toList⟩).sp,.string (bs (dcD ⟨a.data.toList,b.data.toList⟩).ot),.int .i64 (dcD ⟨a.data.toList,b.data.toList⟩).re,.int .i64 (dcD ⟨a.data.toList,b.data.toList⟩).sq,.int .i64 (dcD ⟨a.data.toList,b.data.toList⟩).fl,.int .i64 (dcD ⟨a.data.toList,b.data.toList⟩).tm,.int .i64 (dcD ⟨a.data.toList,b.data.toList⟩).al,.int .i64 (dcD ⟨a.data.toList,b.data.toList⟩).sz],.int .i64 (dcE ⟨a.data.toList,b.data.toList⟩)])else none
  | _=>none
theorem qc40:Ev.QCon Tryz.prog 40 Qqb:=λvs v h=>by
  unfold Qqb at h;split at h
  · rename_i a b;obtain⟨h1,rfl⟩:=Ev.bif_some h;rw[Bool.and_eq_true]at h1;exact⟨rfl,rfl,λw=>c40 w ⟨a.data.toList,b.data.toList⟩ (YF h1.1) (YF h1.2)⟩
  · cases h
def okI(n:Int):Bool:=decide (0<=n/\n<=9223372036854775807)
def QqI:List Value->Option Value
  | [.agg ⟨[.string a,.int .i64 sp,.string o,.int .i64 re,.int .i64 sq,.int .i64 fl,.int .i64 tm,.int .i64 al,.int .i64 sz]⟩]=>bif (smB a&&smB o)&&((okI re&&okI sq)&&(okI sp&&(okI fl&&(okI tm&&(okI al&&okI sz)))))then some (.agg #[.string (bs (Qnx ⟨a.data.toList,sp,o.data.toList,re,sq,fl,tm,al,sz⟩).key),.string (bs (Qnx ⟨a.data.toList,sp,o.data.toList,re,sq,fl,tm,al,sz⟩).val)])else none
  | _=>none
theorem qc98:Ev.QCon Tryz.prog 98 QqI:=λvs v h=>by
  unfold QqI at h;split at h
  · rename_i a sp o re sq fl tm al sz;obtain⟨h1,rfl⟩:=Ev.bif_some h;simp only[Bool.and_eq_true]at h1;obtain⟨⟨k1,k2⟩,⟨k3,k4⟩,k5,k6,k7,k8,k9⟩:=h1;exact⟨rfl,rfl,λw=>c98 w ⟨a.data.toList,sp,o.data.toList,re,sq,fl,tm,al,sz⟩ (YF k1) (YF k2) (of_decide_eq_true k3) (of_decide_eq_true k4) (of_decide_eq_true k5) (of_decide_eq_true k6) (of_decide_eq_true k7) (of_decide_eq_true k8) (of_decide_eq_true k9)⟩
  · cases h
def Qiw(t s:List UInt8)(ks:List (List UInt8)):Nat->Nat->Option Nat
  | 0,_=>none
  | f+1,k=>if up t (YQ t s k)∈ks then Qiw t s ks f (k+1)else some k
theorem Qhu{t s:List UInt8}{ks:List (List UInt8)}:∀{f k m:Nat},Qiw t s ks f k=some m->k<=m/\m<k+f/\¬up t (YQ t s m)∈ks
  | 0,k,m,h=>by cases h
  | f+1,k,m,h=>by
    unfold Qiw at h;split at h
    · obtain⟨h1,h2,h3⟩:=Qhu h;exact⟨om,om,h3⟩
    · rename_i hn;injection h with h
      subst h;exact⟨om,om,hn⟩
def Qm2(t s:List UInt8)(l:List (List UInt8)):Option Value:=bif Nat.ble t.length 1000000&&(Nat.ble s.length 1000000&&(Nat.ble l.length 1000000&&l.all λs=>Nat.ble s.length 1000000))then(match Qiw t s (l.map (up t)) 99 1 with
  | some _=>some (.tuple #[.string (bs (if Z5 t s l=0 then(ZD t s (l.map (up t))).1 else[])),.int .i64 (if Z5 t s l=0 then(ZD t s (l.map (up t))).2 else Z5 t s l)])
  | none=>none)else none
theorem Qq8:Ev.SCon Tryz.prog 118 Qm2:=λt s l v h=>by
  unfold Qm2 at h;obtain⟨h1,h⟩:=Ev.bif_in h;simp only[Bool.and_eq_true]at h1;obtain⟨k1,k2,k3,k4⟩:=h1;split at h
  · rename_i m hm;injection h with h
    subst h;obtain⟨f1,f2,f3⟩:=Qhu hm;exact⟨rfl,λw a cap hV=>c118 w t s a cap l (Nat.le_of_ble_eq_true k1) (Nat.le_of_ble_eq_true k2) hV (Nat.le_of_ble_eq_true k3) (λs hs=>Nat.le_of_ble_eq_true (List.all_eq_true.1 k4 s hs)) m ⟨f1,om⟩ f3⟩
  · cases h
noncomputable def K14:Ev.CallF:=⟨λ_=>Ev.knS (Ev.knR (Ev.insK [(239,84,2,32),(302,3,1,8)]) [(211,QlX)]) 118 Qm2,Ev.knP (Ev.extCS 308) [(75,Qqe),(81,QqT),(169,QlO),(40,Qqb),(98,QqI),(171,Qm3),(82,QqA)],Ev.noY⟩
theorem QqL:Ev.KnOk Tryz.prog K14:=⟨λr1 _=>Ev.knS_ok (Ev.knR_ok (Ev.insK_ok λx hx=>by
    rcases List.mem_cons.1 hx with rfl|hx
    · exact Qpo
    · rcases List.mem_cons.1 hx with rfl|hx
      · exact Qqw
      · cases hx) λx hx=>by
    rcases List.mem_cons.1 hx with rfl|hx
    · exact Qrd
    · cases hx) Qq8,Ev.knP_ok (Ev.extCS_ok QlA) λx hx=>by
  simp only[List.mem_cons,List.mem_nil_iff,or_false]at hx;rcases hx with rfl|rfl|rfl|rfl|rfl|rfl|rfl
  · exact⟨by kernel_rfl,qc75⟩
  · exact⟨by kernel_rfl,qc81⟩
  · exact⟨by kernel_rfl,Qrg⟩
  · exact⟨by kernel_rfl,qc40⟩
  · exact⟨by kernel_rfl,qc98⟩
  · exact⟨by kernel_rfl,Qrx⟩
  · exact⟨by kernel_rfl,qc82⟩⟩
theorem QoJ:Tryz.prog.follows .mixedOrders=true:=by kernel_rfl
end Go.Proofs
namespace Go.Proofs
open Go Go.RowKit Gx
set_option maxRecDepth 1000000 in
theorem c11(w:World):CR 11 #[] w (.bool true):=by
  have h:=Ev.ev_run (P:=Tryz.prog) (K:=K14) (Z:=λg=>Ev.memN g [145,40,98,75,81,82,169,171]) (m:=1000) (f:=60) (g:=11) (vs:=[]) (v:=.bool true) QqL QoJ rfl rfl (by kernel_rfl) w
  refine Calls.mono h ?_
  intro en w' hh
  obtain⟨h1,h2⟩:=hh
  exact⟨h1,HS.below h2⟩
end Go.Proofs
namespace Gx
open Go Go.RowKit
section
variable{P:Program}{w:World}
def tqF(q:TypeId->Option (List Nat))(P:Program):List Field->Nat->Option (List Nat)
 | [],_=>some []
 | f::fs,k=>if !(f.name== "_")&&Nat.beq f.offset k then
   match q f.type with
   | some ks=>if Nat.beq (P.cellsOf f.type) ks.length&&(P.info? f.type).isSome then(tqF q P fs (k+ks.length)).map (ks++ ·)else none
   | none=>none
  else none
def tqS(P:Program):Nat->TypeId->Option (List Nat)
 | 0,_=>none
 | d+1,t=>match P.underlying t with
  | some (.int _)=>some [0]
  | some .string=>some [1]
  | some .bool=>some [2]
  | some (.struct fs)=>if !P.stoodInHeld t then tqF (tqS P d) P fs.toList 0 else none
  | _=>none
def QhH(P:Program)(t:TypeId):Bool:=match P.underlying t with
 | some (.struct _)=>true
 | _=>false
def Qnj(P:Program)(t:TypeId):Option (List Nat):=if QhH P t&& !P.eqGuardType P.depth t then tqS P 4 t else none
def vOf(P:Program)(t:TypeId)(xs:List Value):Value:=if QhH P t then .agg xs.toArray else xs.headD default
theorem Qe2:∀{a a' c c':List Value}{b:Bool},a.length=c.length->eqC (a++a') (c++c')=some b->∃p q,eqC a c=some p/\eqC a' c'=some q/\b=(p&&q)
 | [],a',[],c',b,_,h=>⟨true,b,rfl,h,by simp⟩
 | x::a,a',y::c,c',b,hl,h=>by
  simp only[List.cons_append,eqC]at h;split at h
  ·rename_i p q e1 e2;cases h;obtain⟨p',q',h1,h2,h3⟩:=Qe2 (by simpa using hl) e2;refine⟨p&&p',q',by simp only[eqC,e1,h1],h2,by rw[h3,Bool.and_assoc]⟩
  ·cases h
theorem QgG{d:Nat}{t:TypeId}{ks:List Nat}(h:tqS P (d+1) t=some ks)(hs:QhH P t=false):lfT P t=true/\∃k,tlk P t=some k/\ks=[k]:=by
 unfold tqS at h;unfold QhH at hs;unfold lfT tlk;split at h<;>rename_i hu<;>simp only[hu]at hs ⊢ <;>first|(cases h;done)|(cases hs;done)|skip
 all_goals
  cases h;exact⟨trivial,_,rfl,rfl⟩
theorem QeX{t:TypeId}{k:Nat}{x:Value}(h:tlk P t=some k)(hx:Xs x=k):QdW P t x=true:=by
 unfold tlk at h;unfold QdW;split at h<;>first|(cases h;done)|skip
 all_goals
  rename_i hu;cases h;rw[hu];cases x<;>first|rfl|cases hx
theorem QiI{d:Nat}{t:TypeId}{ks:List Nat}(h:tqS P d t=some ks)(hc:P.cellsOf t=ks.length)(hi:(P.info? t).isSome=true){X:Array Value}{k:Nat}{a r:List Value}(hX:X.toList.drop k=a++r)(ha:a.length=ks.length):(part t X k).run P w=.ok (vOf P t a) w:=by
 cases d with
 | zero=>cases h
 | succ d=>
 cases hs:QhH P t with
 | false=>
  obtain⟨hl,kk,_,rfl⟩:=QgG h hs;obtain⟨x,rfl⟩:∃x,a=[x]:=List.length_eq_one_iff.1 ha;have hx:X[k]?=some x:=by rw[<-Array.getElem?_toList];exact Qab (xs:=r) (by simpa using hX)
  rw[Z3 hl hx];simp[vOf,hs]
 | true=>
  have hag:(isAgg t).run P w=.ok true w:=by
   unfold QhH at hs;split at hs
   ·rename_i fs hu;simp[isAgg,run_underlying hu]
   ·cases hs
  obtain⟨i,hi⟩:=Option.isSome_iff_exists.1 hi;have hsz:(Go.sizeOf t).run P w=.ok (P.cellsOf t) w:=by simp[Go.sizeOf,typeInfo,hi,Program.cellsOf]
  simp only[part,Sem.run_bind,hag,Result.andThen_ok,if_true,hsz,Sem.run_pure]
  have hex:X.extract k (k+P.cellsOf t)=a.toArray:=by
   apply Array.toList_inj.1;rw[Array.toList_extract,List.extract_eq_take_drop,hX,hc,Nat.add_sub_cancel_left,<-ha,List.take_left]
  rw[hex];simp[vOf,hs]
theorem Qjv{D d:Nat}(hq:∀(t:TypeId)(ks:List Nat)(a c:List Value)(b:Bool),tqS P d t=some ks->a.map Xs=ks->c.map Xs=ks->eqC a c=some b->(Op.equalIn D t (vOf P t a) (vOf P t c)).run P w=.ok b w)(X Y:Array Value) :
  ∀(fs:List Field)(k:Nat)(ks:List Nat)(xs ys:List Value)(b:Bool),tqF (tqS P d) P fs k=some ks->X.toList.drop k=xs->Y.toList.drop k=ys->xs.map Xs=ks->ys.map Xs=ks->eqC xs ys=some b->(Op.eqFields D X Y fs).run P w=.ok b w
 | [],k,ks,xs,ys,b,hf,hX,hY,h1,h2,h=>by
  cases hf;cases List.map_eq_nil_iff.1 h1;cases List.map_eq_nil_iff.1 h2;cases h;simp[Op.eqFields]
 | f::fs,k,ks,xs,ys,b,hf,hX,hY,h1,h2,h=>by
  unfold tqF at hf;split at hf
  ·rename_i hno;simp only[Bool.and_eq_true,Bool.not_eq_true',beq_eq_false_iff_ne]at hno;have ho:=Nat.eq_of_beq_eq_true hno.2;split at hf
   ·rename_i kf e1;split at hf
    ·rename_i hci;simp only[Bool.and_eq_true]at hci;have hc:=Nat.eq_of_beq_eq_true hci.1;obtain⟨kr,e2,e3⟩:=Option.map_eq_some_iff.1 hf;subst e3
     have sp:∀{zs:List Value},zs.map Xs=kf++kr->zs=zs.take kf.length++zs.drop kf.length/\(zs.take kf.length).map Xs=kf/\(zs.drop kf.length).map Xs=kr:=by
      intro zs hz;refine⟨(List.take_append_drop _ _).symm,?_,?_⟩
      ·rw[List.map_take,hz,List.take_left]
      ·rw[List.map_drop,hz,List.drop_left]
     obtain⟨s1,s2,s3⟩:=sp h1;obtain⟨t1,t2,t3⟩:=sp h2;have la:(xs.take kf.length).length=kf.length:=by rw[<-List.length_map (f:=Xs),s2]
     have lc:(ys.take kf.length).length=kf.length:=by rw[<-List.length_map (f:=Xs),t2]
     rw[s1,t1]at h;obtain⟨p,q,g1,g2,rfl⟩:=Qe2 (la.trans lc.symm) h;have pa:=QiI (w:=w) e1 hc hci.2 (X:=X) (k:=k) (a:=xs.take kf.length) (r:=xs.drop kf.length) (hX.trans s1) la;have pc:=QiI (w:=w) e1 hc hci.2 (X:=Y) (k:=k) (a:=ys.take kf.length) (r:=ys.drop kf.length) (hY.trans t1) lc;have ih:=Qjv hq X Y fs (k+kf.length) kr (xs.drop kf.length) (ys.drop kf.length) q e2 (by rw[<-List.drop_drop,hX]) (by rw[<-List.drop_drop,hY]) s3 t3 g2;have he:=hq f.type kf _ _ p e1 s2 t2 g1;simp only[Op.eqFields,ne_eq,hno.1,not_false_eq_true,if_true,Sem.run_bind,ho,pa,pc,Result.andThen_ok,he];cases p
     ·simp
     ·simpa using ih
    ·cases hf
   ·cases hf
  ·cases hf
theorem Qja:∀(d e:Nat)(t:TypeId)(ks:List Nat)(xs ys:List Value)(b:Bool),tqS P d t=some ks->xs.map Xs=ks->ys.map Xs=ks->eqC xs ys=some b->(Op.equalIn (d+e) t (vOf P t xs) (vOf P t ys)).run P w=.ok b w
 | 0,e,t,ks,xs,ys,b,ht,h1,h2,h=>by cases ht
 | d+1,e,t,ks,xs,ys,b,ht,h1,h2,h=>by
  rw[show d+1+e=(d+e)+1 from by omega];cases hs:QhH P t with
  | false=>
   obtain⟨hl,k,hk,rfl⟩:=QgG ht hs;obtain⟨x,rfl⟩:∃x,xs=[x]:=List.length_eq_one_iff.1 (by rw[<-List.length_map (f:=Xs),h1];rfl);obtain⟨y,rfl⟩:∃y,ys=[y]:=List.length_eq_one_iff.1 (by rw[<-List.length_map (f:=Xs),h2];rfl);simp only[List.map_cons,List.map_nil,List.cons.injEq,and_true]at h1 h2;simp only[vOf,hs,Bool.false_eq_true,if_false,List.headD_cons];refine Qfn (d+e) (QeX hk h1) (QeX hk h2) ?_;simp only[eqC]at h;split at h
   ·rename_i p q e1 e2;cases e2;cases h;rw[e1];simp
   ·cases h
  | true=>
   simp only[vOf,hs,if_true];have hs0:=hs;unfold QhH at hs;split at hs
   ·rename_i fs hu;unfold tqS at ht;simp only[hu]at ht;split at ht
    ·rename_i hc;simp only[Bool.not_eq_true']at hc;have hfo:P.fieldsOf t=fs:=by unfold Program.fieldsOf;rw[hu]
     rw[run_equalIn_struct w (d+e) t _ _ (by rw[hfo];exact hu) hc,hfo];exact Qjv (λt ks a c b q1 q2 q3 q4=>Qja d e t ks a c b q1 q2 q3 q4) _ _ fs.toList 0 ks xs ys b ht (by simp) (by simp) h1 h2 h
    ·cases ht
   ·cases hs
variable{o:Oper}{L:Qa}
theorem QlF{t:TypeId}{ks:List Nat}{xs ys:List Value}{b:Bool}(ht:Qnj P t=some ks)(h1:xs.map Xs=ks)(h2:ys.map Xs=ks)(h:eqC xs ys=some b):(Op.equalIn 10000 t (.agg xs.toArray) (.agg ys.toArray)).run P w=.ok b w/\P.eqGuardType P.depth t=false:=by
 unfold Qnj at ht;split at ht
 ·rename_i hc;simp only[Bool.and_eq_true,Bool.not_eq_true']at hc;have h9:=Qja (w:=w) 4 9996 t ks xs ys b ht h1 h2 h;simp only[vOf,hc.1,if_true]at h9;exact⟨h9,hc.2⟩
 ·cases ht
theorem Qia{t t':TypeId}{x y:Operand}{xs ys:List Value}{ks:List Nat}{b:Bool}(ho:o.op=.binOp .neq t x y t')(hx:ev L x=some (.agg xs.toArray))(hy:ev L y=some (.agg ys.toArray))(ht:Qnj P t=some ks)(h1:xs.map Xs=ks)(h2:ys.map Xs=ks)(h:eqC xs ys=some b):OpP P o L (.bool (!b)):=by
 intro ρ w hρ;obtain⟨g1,g2⟩:=QlF (w:=w) ht h1 h2 h;simp only[execOp,ho,hρ _ _ hx,hρ _ _ hy,Sem.run_bind,run_eqGuard_agg w _ _ _ _ _ _ g2,run_neq_struct,g1,Result.andThen_ok,Sem.run_pure]
end
end Gx
namespace Go.Proofs
open Go Go.RowKit Gx
attribute [local irreducible] Go.Calls Gx.S Gx.O Gx.D Gx.OpP Gx.OpQ Gx.OpH
set_option maxRecDepth 20000
instance:TFn Tryz.prog 11:=⟨by kernel_rfl⟩
instance:TFn Tryz.prog 42:=⟨by kernel_rfl⟩
instance:TFn Tryz.prog 44:=⟨by kernel_rfl⟩
theorem QqS:Qnj Tryz.prog 82=some [0,0,0,1]:=by kernel_rfl
end Go.Proofs
namespace Go.Proofs
open Go Go.RowKit Gx
theorem QoZ{α:Type}[Inhabited α]{vals:α->List Value}{sz n:Nat}{W:World}{a:Option Addr}{cell:Nat->List Value}{Q:α->Prop}(hs:Sl W [] a sz n cell)(hr:∀i,i<n->∃x,cell i=vals x/\Q x):∃l:List α,n=l.length/\Rw vals sz W [] a l/\(∀x∈l,Q x)/\∀i,i<n->cell i=vals (nth l i):=by
 have hr2:∀i,∃x,i<n->cell i=vals x/\Q x:=λi=>by
  by_cases hi:i<n
  ·obtain⟨x,h⟩:=hr i hi;exact⟨x,λ_=>h⟩
  ·exact⟨default,λh=>absurd h hi⟩
 obtain⟨f,hf⟩:=Classical.axiomOfChoice hr2
 have hg:∀i,i<n->nth ((List.range n).map f) i=f i:=λi hi=>by
  simp only[nth,List.getD_eq_getElem?_getD,List.getElem?_map,List.getElem?_range hi,Option.map_some,Option.getD_some]
 refine⟨(List.range n).map f,by simp,⟨λhn=>?_⟩,λx hx=>?_,λi hi=>?_⟩
 ·rw[List.length_map,List.length_range]at hn;obtain⟨b,o,e,h2⟩:=hs.at_ hn;refine⟨b,o,e,λi hi=>?_⟩;rw[List.length_map,List.length_range]at hi;have h3:=h2 i hi;rw[(hf i hi).1]at h3;rw[hg i hi];exact h3
 ·obtain⟨i,hi,rfl⟩:=List.mem_map.1 hx;exact(hf i (List.mem_range.1 hi)).2
 ·rw[hg i hi];exact(hf i hi).1
theorem Qjr:Tryz.prog.cellsOf 3=1:=by kernel_rfl
theorem Qn3:Tryz.prog.cellsOf 4=1:=by kernel_rfl
theorem Qon:Tryz.prog.cellsOf 9=1:=by kernel_rfl
section
variable{W:World}{d:Nat}
theorem ln2{cs:List Value}(h:cs.length=2):∃x0 x1,cs=[x0,x1]:=by
 match cs,h with
 | [x0,x1],_=>exact⟨x0,x1,rfl⟩
theorem Qay{x:Value}(h:okT Tryz.prog W d 3 [x]):∃n,x=.int .i64 n:=by
 obtain⟨n,e,_⟩:=Qod h Tryz.underlying3;cases e;exact⟨n,rfl⟩
theorem Qn4{x:Value}(h:okT Tryz.prog W d 4 [x]):∃n,x=.bool n:=by
 obtain⟨n,e⟩:=QkE h Tryz.underlying4;cases e;exact⟨n,rfl⟩
theorem QlP{x:Value}(h:okT Tryz.prog W d 9 [x]):∃l:List UInt8,x=.string (bs l)/\l.length<=maxLen:=by
 obtain⟨l,e,g⟩:=Qnh h Tryz.underlying9;cases e;exact⟨l,rfl,g⟩
end
end Go.Proofs
namespace Gx
open Go Go.RowKit
def QbC(s:List UInt8)(at':Nat)(l:List UInt8):List UInt8:=s.take at'++l++s.drop (at'+l.length)
theorem Qex{s l:List UInt8}{a:Nat}(h:a+l.length<=s.length):(QbC s a l).length=s.length:=by grind[QbC]
end Gx
namespace Gx
open Go Go.RowKit
theorem Rw.cut{α:Type}[Inhabited α]{vals:α->List Value}{sz:Nat}{w:World}{M:List Nat}{a:Option Addr}{l:List α}(h:Rw vals sz w M a l){cap i:Nat}(hc:l.length<=cap):Rw vals sz w M (YA a cap i sz) (l.drop i):=
 ⟨λhn=>by
  rw[List.length_drop]at hn;obtain⟨b,o,rfl,h2⟩:=h.at_ om;refine⟨b,o+i*sz,?_,λj hj=>?_⟩
  ·unfold YA;rw[if_neg om];simp[Q8]
  ·rw[List.length_drop]at hj;have e:nth (l.drop i) j=nth l (i+j):=Zq (by rw[List.getElem?_drop];exact X4 om);have h3:=h2 (i+j) om;simp only[e];refine⟨h3.1,λq v hv=>?_⟩;have h4:=h3.2 q v hv;rw[show o+(i+j)*sz+q=o+i*sz+j*sz+q by rw[Nat.add_mul];omega]at h4;exact h4⟩
theorem Qox{P:List Nat}{k:Nat}(h:k<P.length):P.reverse[k]?=some (nth P (P.length-1-k)):=by grind[X4]
theorem rev_take{P:List Nat}{k:Nat}(h:k<P.length):P.reverse.take (k+1)=P.reverse.take k++[nth P (P.length-1-k)]:=by
 rw[List.take_add_one,Qox h];rfl
end Gx
namespace Gx
open Go Go.RowKit
theorem Qaz{f:Nat->Int}{n k:Nat}(hk:k<n):Qx (((List.range n).map f).drop k) k=if f k=0 then Qx (((List.range n).map f).drop (k+1)) (k+1)else((k:Int),f k):=by
 have h:((List.range n).map f).drop k=f k::((List.range n).map f).drop (k+1):=by
  rw[List.drop_eq_getElem_cons (by simpa using hk)];simp
 rw[h];rfl
theorem Qfe{f:Nat->Int}{n:Nat}:Qx (((List.range n).map f).drop n) n=(0,0):=by
 rw[List.drop_of_length_le (by simp)];rfl
theorem Qns{f:Nat->Int}{n:Nat}(h:(Qx ((List.range n).map f) 0).2=0){k:Nat}(hk:k<n):f k=0:=
 Qbu.1 h _ (List.mem_map.2 ⟨k,List.mem_range.2 hk,rfl⟩)
structure Rn where
 st:Int
 ln:Int
deriving DecidableEq,Inhabited
def Rn.vals(r:Rn):List Value:=[.int .i64 r.st,.int .i64 r.ln]
theorem rv2(r:Rn):r.vals.length=2:=rfl
theorem rv1(r:Rn):∀u∈r.vals,u.oneCell'=true:=by
 intro u hu;simp only[Rn.vals,List.mem_cons,List.mem_nil_iff,or_false]at hu;rcases hu with rfl|rfl<;>rfl
def XC(r:Rn):Bool:=if r.st= -1 then decide (1<=r.ln)&&decide (r.ln<=4096)else(decide (0<=r.st)&&decide (r.st<=511))&&(decide (1<=r.ln)&&decide (r.ln<=512-r.st))
theorem QcR{r:Rn}(h:XC r=true):(r.st= -1/\1<=r.ln/\r.ln<=4096)\/(¬r.st= -1/\0<=r.st/\1<=r.ln/\r.st+r.ln<=512):=by
 unfold XC at h;split at h
 ·rename_i h0;simp only[Bool.and_eq_true,decide_eq_true_eq]at h;exact .inl ⟨h0,h.1,h.2⟩
 ·rename_i h0;simp only[Bool.and_eq_true,decide_eq_true_eq]at h;exact .inr ⟨h0,h.1.1,h.2.1,om⟩
theorem Zb{r:Rn}(h:XC r=true): -1<=r.st/\r.st<=511/\1<=r.ln/\r.ln<=4096:=by
 rcases QcR h with h|h<;>omega
def Ya(a b:Rn):Bool:=if a.st= -1\/b.st= -1 then decide (a.st=b.st)else decide (b.st=a.st+a.ln)
theorem Qh0{a b:Rn}:Ya a b=((decide (a.st= -1)==decide (b.st= -1))&&(decide (a.st= -1)||decide (a.st+a.ln=b.st))):=by
 unfold Ya
 by_cases h1:a.st= -1<;>by_cases h2:b.st= -1
 ·simp[h1,h2]
 ·have h3:¬(-1:Int)=b.st:=λe=>h2 e.symm;simp[h1,h2,h3]
 ·simp[h1,h2]
 ·simp[h1,h2];exact eq_comm
def shB(a b:Rn):Bool:=((!decide (a.st= -1)&& !decide (b.st= -1))&&decide (a.st<b.st+b.ln))&&decide (b.st<a.st+a.ln)
def Qa2(l:List Rn)(i:Nat):Bool:=(l.take i).any λr=>shB r (nth l i)
theorem Qni{l:List Rn}{i k:Nat}(hk:k<i)(h:shB (nth l k) (nth l i)=true)(hi:i<l.length):Qa2 l i=true:=by
 unfold Qa2;rw[List.any_eq_true];refine⟨nth l k,?_,h⟩;have h1:nth l k=(l.take i)[k]'(by rw[List.length_take];omega):=by rw[List.getElem_take];exact Zq (List.getElem?_eq_getElem om)
 rw[h1];exact List.getElem_mem _
def rnE(l:List Rn)(i:Nat):Int:=if XC (nth l i)=true then if 0<i/\Ya (nth l (i-1)) (nth l i)=true then 3 else if Qa2 l i=true then 23 else 0 else 2
theorem QnP{l:List Rn}{i:Nat}(h:rnE l i=0):XC (nth l i)=true:=by
 unfold rnE at h;split at h
 ·assumption
 ·cases h
def X9:List Rn->Int
 | []=>0
 | r::l=>r.ln+X9 l
theorem Qg7:∀a b:List Rn,X9 (a++b)=X9 a+X9 b
 | [],b=>by simp[X9]
 | r::a,b=>by rw[List.cons_append,X9,X9,Qg7 a b];omega
theorem Qbt{l:List Rn}{k:Nat}(hk:k<l.length):X9 (l.take (k+1))=X9 (l.take k)+(nth l k).ln:=by
 rw[XX (d:=default) hk,Qg7];simp only[X9];show _+((l.getD k default).ln+0)=_;rw[Int.add_zero];rfl
theorem Qcc{l:List Rn}:∀{k:Nat},(∀i,i<k->XC (nth l i)=true)->k<=l.length->0<=X9 (l.take k)/\X9 (l.take k)<=4096*(k:Int)
 | 0,_,_=>by simp[X9]
 | k+1,h,hk=>by
  have h1:=Qcc (k:=k) (λi hi=>h i om) om;have h2:=Zb (h k om);rw[Qbt om];omega
def Yg(l:List Rn):Int×Int:=if l.length<=64 then if(Qx ((List.range l.length).map (rnE l)) 0).2=0 then(0,if X9 l<=4096 then 0 else 8)else Qx ((List.range l.length).map (rnE l)) 0 else(0,8)
section
variable{l:List Rn}{k:Nat}{e:Int}
theorem YJ(h64:l.length<=64)(hk:k<l.length)(h2:Qx ((List.range l.length).map (rnE l)) 0=Qx (((List.range l.length).map (rnE l)).drop k) k)(hv:rnE l k=e)(he:¬e=0):Yg l=((k:Int),e):=by
 have h3:Qx ((List.range l.length).map (rnE l)) 0=((k:Int),e):=by rw[h2,Qaz hk,hv,if_neg he]
 unfold Yg;rw[if_pos h64,h3,if_neg he]
theorem QfC(hk:k<l.length)(h2:Qx ((List.range l.length).map (rnE l)) 0=Qx (((List.range l.length).map (rnE l)).drop k) k)(hv:rnE l k=0):Qx ((List.range l.length).map (rnE l)) 0=Qx (((List.range l.length).map (rnE l)).drop (k+1)) (k+1):=by rw[h2,Qaz hk,hv,if_pos rfl]
theorem QiU(h64:l.length<=64)(h2:Qx ((List.range l.length).map (rnE l)) 0=Qx (((List.range l.length).map (rnE l)).drop l.length) l.length):Yg l=(0,if X9 l<=4096 then 0 else 8):=by
 unfold Yg;rw[if_pos h64,h2,Qfe,if_pos rfl]
theorem rn_2(h:¬XC (nth l k)=true):rnE l k=2:=if_neg h
theorem Qn0(h:XC (nth l k)=true)(hj:0<k/\Ya (nth l (k-1)) (nth l k)=true):rnE l k=3:=by unfold rnE;rw[if_pos h,if_pos hj]
theorem Qjy(h:XC (nth l k)=true)(hj:¬(0<k/\Ya (nth l (k-1)) (nth l k)=true))(hd:Qa2 l k=true):rnE l k=23:=by unfold rnE;rw[if_pos h,if_neg hj,if_pos hd]
theorem QnD(h:XC (nth l k)=true)(hj:¬(0<k/\Ya (nth l (k-1)) (nth l k)=true))(hd:¬Qa2 l k=true):rnE l k=0:=by unfold rnE;rw[if_pos h,if_neg hj,if_neg hd]
end
theorem Qha{l:List Rn}(h:(Yg l).2=0):l.length<=64/\(∀i,i<l.length->rnE l i=0)/\X9 l<=4096:=by
 unfold Yg at h;split at h
 ·rename_i h0;split at h
  ·rename_i h1;refine⟨h0,λi hi=>Qns h1 hi,?_⟩;simp only[]at h;split at h
   ·assumption
   ·cases h
  ·rename_i h1;exact absurd h h1
 ·cases h
theorem Zh{l:List Rn}(h:(Yg l).2=0):∀i,i<l.length->XC (nth l i)=true:=λi hi=>QnP ((Qha h).2.1 i hi)
theorem Qdo{l:List Rn}(h:(Yg l).2=0):0<=X9 l/\X9 l<=4096:=by
 have h1:=Qcc (Zh h) (Nat.le_refl _);rw[List.take_length]at h1;exact⟨h1.1,(Qha h).2.2⟩
def QdM(r:Rn)(c:Nat):Bool:=!decide (r.st= -1)&&(decide (r.st<=(c:Int))&&decide ((c:Int)<r.st+r.ln))
def usB(l:List Rn)(i:Nat):List Bool:=(List.range 512).map λc=>(l.take i).any λr=>QdM r c
def tkJ(U:List Bool)(s j:Nat):List Bool:=(List.range 512).map λc=>U.getD c false||(decide (s<=c)&&decide (c<s+j))
def tkF(U:List Bool)(s j:Nat):Bool:=(List.range j).all λq=>!U.getD (s+q) false
def tkU(U:List Bool)(r:Rn):List Bool:=if r.st= -1 then U else tkJ U r.st.toNat r.ln.toNat
def tkB(U:List Bool)(r:Rn):Bool:=if r.st= -1 then true else tkF U r.st.toNat r.ln.toNat
theorem Qjf(l:List Rn)(i:Nat):(usB l i).length=512:=by unfold usB;rw[List.length_map,List.length_range]
theorem ZO(U:List Bool)(s j:Nat):(tkJ U s j).length=512:=by unfold tkJ;rw[List.length_map,List.length_range]
theorem Qq4(l:List Rn):usB l 0=List.replicate 512 false:=by
 show(List.range 512).map (λ_=>false)=_;rw[List.map_const',List.length_range]
theorem Qdp{U:List Bool}{s j c:Nat}(hc:c<512):(tkJ U s j).getD c false=(U.getD c false||(decide (s<=c)&&decide (c<s+j))):=by
 unfold tkJ;rw[YU (d:=0) (by rw[List.length_range];exact hc)];rw[show(List.range 512).getD c 0=c by rw[List.getD_eq_getElem?_getD,List.getElem?_range hc];rfl]
theorem Qgg{U V:List Bool}(h:U.length=V.length)(he:∀c,c<V.length->U.getD c false=V.getD c false):U=V:=by
 refine List.ext_getElem h λc h1 h2=>?_;have h3:=he c h2
 rwa[List.getD_eq_getElem?_getD,List.getD_eq_getElem?_getD,List.getElem?_eq_getElem h1,List.getElem?_eq_getElem h2]at h3
theorem Qrp{U:List Bool}{s:Nat}(h:U.length=512):tkJ U s 0=U:=by
 refine Qgg (by rw[ZO,h]) λc hc=>?_;rw[Qdp om]
 have e:(decide (s<=c)&&decide (c<s+0))=false:=by
  by_cases h9:s<=c
  ·rw[decide_eq_false (show¬c<s+0 by omega),Bool.and_false]
  ·rw[decide_eq_false h9,Bool.false_and]
 rw[e,Bool.or_false]
theorem Qmm{U:List Bool}{i c:Nat}{b:Bool}(hi:i<U.length):(U.set i b).getD c false=if i=c then b else U.getD c false:=by
 rw[List.getD_eq_getElem?_getD,List.getD_eq_getElem?_getD,List.getElem?_set]
 by_cases e:i=c
 ·subst e;simp[hi]
 ·simp[e]
theorem Qmu{U:List Bool}{s j:Nat}(h:s+j<512):(tkJ U s j).set (s+j) true=tkJ U s (j+1):=by
 refine Qgg (by rw[List.length_set,ZO,ZO]) λc hc=>?_;rw[ZO]at hc;rw[Qmm (by rw[ZO];exact h),Qdp hc,Qdp hc];split
 ·rename_i e;subst e;rw[decide_eq_true (show s<=s+j by omega),decide_eq_true (show s+j<s+(j+1) by omega),Bool.and_true,Bool.or_true]
 ·rename_i e;congr 2;exact decide_eq_decide.2 om
theorem QkX{U:List Bool}{s j:Nat}:tkF U s (j+1)=(tkF U s j&& !U.getD (s+j) false):=by
 unfold tkF;rw[List.range_succ,List.all_append];simp
theorem Qf7{l:List Rn}{i c:Nat}(hc:c<512):(usB l i).getD c false=(l.take i).any λr=>QdM r c:=by
 unfold usB;rw[YU (d:=0) (by rw[List.length_range];exact hc)];rw[show(List.range 512).getD c 0=c by rw[List.getD_eq_getElem?_getD,List.getElem?_range hc];rfl]
theorem Qgs{l:List Rn}{i:Nat}(hi:i<l.length)(h:XC (nth l i)=true):tkU (usB l i) (nth l i)=usB l (i+1):=by
 have hs:∀c,(l.take (i+1)).any (λr=>QdM r c)=((l.take i).any (λr=>QdM r c)||QdM (nth l i) c):=λc=>by
  rw[List.take_add_one,X4 hi,List.any_append];simp
 unfold tkU;split
 ·rename_i h0;unfold usB;refine List.map_congr_left λc _=>?_;rw[hs];simp[QdM,h0]
 ·rename_i h0;have hb:=(QcR h).resolve_left (λh9=>h0 h9.1);unfold tkJ;rw[show usB l (i+1)=(List.range 512).map λc=>(l.take (i+1)).any λr=>QdM r c from rfl];refine List.map_congr_left λc hc=>?_;rw[Qf7 (List.mem_range.1 hc),hs];congr 1;unfold QdM;rw[decide_eq_false h0];simp only[Bool.not_false,Bool.true_and];congr 1<;>exact decide_eq_decide.2 om
theorem Qbq{l:List Rn}{i:Nat}(hi:i<l.length)(h:∀k,k<=i->XC (nth l k)=true):tkB (usB l i) (nth l i)= !Qa2 l i:=by
 have hb:=QcR (h i (Nat.le_refl _));unfold tkB;split
 ·rename_i h0
  have:Qa2 l i=false:=by
   unfold Qa2;rw[List.any_eq_false];intro r hr;simp[shB,h0]
  rw[this];rfl
 ·rename_i h0;have hb:=hb.resolve_left (λh9=>h0 h9.1)
  have hmem:∀r∈l.take i,XC r=true:=λr hr=>by
   obtain⟨k,hk,rfl⟩:=List.getElem_of_mem hr;rw[List.length_take]at hk;rw[List.getElem_take];have h1:=h k om
   rwa[show nth l k=l[k]from Zq (List.getElem?_eq_getElem om)]at h1
  cases hd:Qa2 l i with
  | true=>
   unfold Qa2 at hd;rw[List.any_eq_true]at hd;obtain⟨r,hr,hs⟩:=hd;unfold shB at hs;simp only[Bool.and_eq_true,Bool.not_eq_true',decide_eq_false_iff_not,decide_eq_true_eq]at hs;obtain⟨⟨⟨h1,h2⟩,h3⟩,h4⟩:=hs;have hrb:=(QcR (hmem r hr)).resolve_left (λh9=>h1 h9.1)
   have hq:∃q,q<(nth l i).ln.toNat/\r.st<=(nth l i).st+(q:Int)/\(nth l i).st+(q:Int)<r.st+r.ln:=by
    rcases Int.le_total r.st (nth l i).st with h5|h5
    ·exact⟨0,om,om,om⟩
    ·exact⟨(r.st-(nth l i).st).toNat,om,om,om⟩
   obtain⟨q,hq1,hq2,hq3⟩:=hq;show tkF _ _ _=false;unfold tkF;rw[List.all_eq_false];refine⟨q,List.mem_range.2 hq1,?_⟩;rw[Qf7 om];simp only[Bool.not_eq_true',Bool.not_eq_false];rw[List.any_eq_true];refine⟨r,hr,?_⟩;unfold QdM;simp only[Bool.and_eq_true,Bool.not_eq_true',decide_eq_false_iff_not,decide_eq_true_eq];exact⟨h1,om,om⟩
  | false=>
   unfold Qa2 at hd;rw[List.any_eq_false]at hd;show tkF _ _ _=true;unfold tkF;rw[List.all_eq_true];intro q hq;have hq:=List.mem_range.1 hq;rw[Qf7 om];cases ha:(l.take i).any λr=>QdM r ((nth l i).st.toNat+q)with
   | false=>rfl
   | true=>
    exfalso;rw[List.any_eq_true]at ha;obtain⟨r,hr,hc⟩:=ha;unfold QdM at hc;simp only[Bool.and_eq_true,Bool.not_eq_true',decide_eq_false_iff_not,decide_eq_true_eq]at hc;refine hd r hr ?_;unfold shB;simp only[Bool.and_eq_true,Bool.not_eq_true',decide_eq_false_iff_not,decide_eq_true_eq];exact⟨⟨⟨hc.1,h0⟩,om⟩,om⟩
def szN(n:Int):Nat:=if -128<=n/\n<=127 then 1 else 2
theorem QcS(n:Int):1<=szN n/\szN n<=2:=by unfold szN;split<;>omega
def rnK(l:List Rn):Nat->Nat×Int
 | 0=>(0,0)
 | k+1=>if(nth l k).st= -1 then((rnK l k).1+(1+szN (nth l k).ln),(rnK l k).2)else((rnK l k).1+(1+szN (nth l k).ln+szN ((nth l k).st-(rnK l k).2)),(nth l k).st)
theorem Qhx{l:List Rn}{k:Nat}:rnK l (k+1)=if(nth l k).st= -1 then((rnK l k).1+(1+szN (nth l k).ln),(rnK l k).2)else((rnK l k).1+(1+szN (nth l k).ln+szN ((nth l k).st-(rnK l k).2)),(nth l k).st):=rfl
theorem QcM{l:List Rn}:∀{k:Nat},(∀i,i<k->XC (nth l i)=true)->(rnK l k).1<=5*k/\0<=(rnK l k).2/\(rnK l k).2<=511
 | 0,_=>by simp[rnK]
 | k+1,h=>by
  have h1:=QcM (k:=k) (λi hi=>h i om);have h2:=QcR (h k om);have h3:=QcS (nth l k).ln;have h4:=QcS ((nth l k).st-(rnK l k).2);rw[rnK];split
  ·exact⟨by simp only[];omega,h1.2⟩
  ·rename_i h0;have h2:=h2.resolve_left (λh9=>h0 h9.1);exact⟨by simp only[];omega,by simp only[];omega⟩
def rnN(l:List Rn):Nat:=(rnK l l.length).1+1
theorem Qp6{l:List Rn}(h:(Yg l).2=0):rnN l<=321:=by
 have h1:=(QcM (Zh h)).1;have h2:=(Qha h).1;unfold rnN;omega
end Gx
namespace Gx
open Go Go.RowKit
section
variable{α:Type}[DecidableEq α]{K:α->Value}
def lkV:List (α×Value)->α->Option Value
 | [],_=>none
 | p::r,a=>if a=p.1 then some p.2 else lkV r a
def insV:List (α×Value)->α->Value->List (α×Value)
 | [],a,v=>[(a,v)]
 | p::r,a,v=>if a=p.1 then(a,v)::r else p::insV r a v
def Qq5(r:Nat)(K:α->Value)(ks:List (α×Value))(w:World):Prop:=∃es clock,w.heap[r]?=some (.map es clock)/\es.toList.map (λe=>(e.key,e.val))=ks.map λp=>(K p.1,p.2)
def HA.mpv(r:Nat)(K:α->Value)(ks:List (α×Value)):HA:=⟨[r],Qq5 r K ks,λw w' h ha=>by
 obtain⟨es,clock,h1,h2⟩:=ha;exact⟨es,clock,(h r (List.mem_singleton.2 rfl)).trans h1,h2⟩⟩
theorem HA.fp_mpv(r:Nat)(ks:List (α×Value)):(HA.mpv r K ks).fp=[r]:=rfl
theorem Qbn{d:TypeDesc}(hd:∀a b,(Instr.sameNow d (K a) (K b)=some true ↔ a=b)/\(Instr.sameNow d (K a) (K b)=some false ↔ a≠b))(a:α):∀(es:List MapEntry)(ks:List (α×Value))(i:Nat),es.map (λe=>(e.key,e.val))=ks.map (λp=>(K p.1,p.2)) ->
  (lkV ks a=none/\(∀v,insV ks a v=ks++[(a,v)])/\Instr.findNow d (K a) es i=some none)\/(∃j v,lkV ks a=some v/\ks[j]?=some (a,v)/\(∀u,insV ks a u=ks.set j (a,u))/\Instr.findNow d (K a) es i=some (some (i+j,v)))
 | [],[],i,_=>.inl ⟨rfl,λ_=>rfl,rfl⟩
 | [],_::_,i,h=>by cases h
 | _::_,[],i,h=>by cases h
 | e::es,p::ks,i,h=>by
  simp only[List.map_cons,List.cons.injEq,Prod.mk.injEq]at h;obtain⟨⟨hk,hv⟩,hr⟩:=h
  by_cases e1:a=p.1
  ·obtain⟨k,v⟩:=p;simp only[]at e1 hk hv;subst e1;refine .inr ⟨0,v,by simp[lkV],rfl,λu=>by simp[insV],?_⟩;rw[Instr.findNow,hk,(hd a a).1.2 rfl,hv];rfl
  ·have h1:=(hd a p.1).2.2 e1;rcases Qbn hd a es ks (i+1) hr with⟨h2,h3,h4⟩|⟨j,v,h2,h3,h4,h5⟩
   ·refine .inl ⟨by rw[lkV,if_neg e1,h2],λv=>by rw[insV,if_neg e1,h3];rfl,?_⟩;rw[Instr.findNow,hk,h1];exact h4
   ·refine .inr ⟨j+1,v,by rw[lkV,if_neg e1,h2],by simpa using h3,λu=>by rw[insV,if_neg e1,h4];rfl,?_⟩;rw[Instr.findNow,hk,h1]
    grind
variable{P:Program}{o:Oper}{L:Qa}{w0:World}{M:List Nat}{As As':List HA}
theorem Qif{t:TypeId}(ho:o.op=.makeMap t none)(K:α->Value):OpH P o L (HS w0 M As) (λr:Nat=>.map (some r)) (λ_=>True) (λr=>HS w0 M (.mpv r K []::As)):=by
 intro ρ w hρ hw;simp only[execOp,ho,Option.map_none,run_makeMap,Sem.run_bind,Result.andThen_ok,Sem.run_pure];exact⟨w.heap.size,rfl,trivial,hw.alloc (.map #[] 0) (.mpv w.heap.size K []) rfl ⟨#[],0,heap_alloc_new w _,rfl⟩⟩
theorem Qi7{et:TypeId}{z:Value}{w:World}(hz:tzv P et=some z):(zeroValue et).run P w=.ok z w:=by
 unfold tzv at hz;cases hi:P.info? et with
 | none=>rw[hi]at hz;cases hz
 | some inf=>
  rw[hi]at hz;have hz':inf.zero=some z:=hz;simp[zeroValue,typeInfo,hi,hz']
theorem QjV{t kt et r:Nat}{m x:Operand}{ks:List (α×Value)}{a:α}{z:Value}(ho:o.op=.lookup t m x false)(hm:ev L m=some (.map (some r)))(hx:ev L x=some (K a))(ht:P.underlying t=some (.map kt et))(hz:tzv P et=some z)(hK:KeyK P kt K)(hp:QF As (.mpv r K ks) As'):OpQ P o L (HS w0 M As) ((lkV ks a).getD z):=by
 intro ρ w hρ hw;obtain⟨es,clock,h1,h2⟩:=(hw.pick hp).head;obtain⟨d,hd,hs⟩:=hK.und;have hzr:=Qi7 (w:=w) hz
 have hl:(Instr.lookup t (.map (some r)) (K a) false).run P w=.ok ((lkV ks a).getD z) w:=by
  unfold Instr.lookup;rcases Qbn hs a es.toList ks 0 h2 with⟨h3,_,h4⟩|⟨j,v,h3,_,_,h4⟩
  ·simp[run_underlying ht,Xr h1,hK.chk,Instr.findKey,run_underlying hd,h4,hzr,h3]
  ·simp[run_underlying ht,Xr h1,hK.chk,Instr.findKey,run_underlying hd,h4,h3]
 simp only[execOp,ho,hρ _ _ hm,hρ _ _ hx,Sem.run_bind,hl,Result.andThen_ok,Sem.run_pure];exact⟨rfl,Below.refl _ _⟩
theorem Qkr{t kt et r:Nat}{m x:Operand}{ks:List (α×Value)}{a:α}{z:Value}(ho:o.op=.lookup t m x true)(hm:ev L m=some (.map (some r)))(hx:ev L x=some (K a))(ht:P.underlying t=some (.map kt et))(hz:tzv P et=some z)(hK:KeyK P kt K)(hp:QF As (.mpv r K ks) As'):OpQ P o L (HS w0 M As) (.tuple #[(lkV ks a).getD z,.bool (lkV ks a).isSome]):=by
 intro ρ w hρ hw;obtain⟨es,clock,h1,h2⟩:=(hw.pick hp).head;obtain⟨d,hd,hs⟩:=hK.und;have hzr:=Qi7 (w:=w) hz
 have hl:(Instr.lookup t (.map (some r)) (K a) true).run P w=.ok (.tuple #[(lkV ks a).getD z,.bool (lkV ks a).isSome]) w:=by
  unfold Instr.lookup;rcases Qbn hs a es.toList ks 0 h2 with⟨h3,_,h4⟩|⟨j,v,h3,_,_,h4⟩
  ·simp[run_underlying ht,Xr h1,hK.chk,Instr.findKey,run_underlying hd,h4,hzr,h3]
  ·simp[run_underlying ht,Xr h1,hK.chk,Instr.findKey,run_underlying hd,h4,h3]
 simp only[execOp,ho,hρ _ _ hm,hρ _ _ hx,Sem.run_bind,hl,Result.andThen_ok,Sem.run_pure];exact⟨rfl,Below.refl _ _⟩
theorem QW{t kt et r:Nat}{m x y:Operand}{ks:List (α×Value)}{a:α}{v:Value}(ho:o.op=.mapUpdate t m x y\/o.op=.insert t m x y)(hm:ev L m=some (.map (some r)))(hx:ev L x=some (K a))(hy:ev L y=some v)(ht:P.underlying t=some (.map kt et))(hK:KeyK P kt K)(hp:Put As (.mpv r K ks) (.mpv r K (insV ks a v)) As') :
  OpH P o L (HS w0 M As) (λ_:Unit=>undef) (λ_=>True) (λ_=>HS w0 M As'):=by
 intro ρ w hρ hw;obtain⟨Rs,hp1,hp2⟩:=hp.ex;have hpk:=hw.pick hp1;obtain⟨es,clock,h1,h2⟩:=hpk.head;obtain⟨d,hd,hs⟩:=hK.und
 have hl:∃(es':Array MapEntry)(clock':Nat),(Instr.mapUpdate t (.map (some r)) (K a) v).run P w=.ok () (setO w r (.map es' clock'))/\es'.toList.map (λe=>(e.key,e.val))=(insV ks a v).map λp=>(K p.1,p.2):=by
  unfold Instr.mapUpdate;rcases Qbn hs a es.toList ks 0 h2 with⟨h3,h5,h4⟩|⟨j,u,h3,h6,h5,h4⟩
  ·refine⟨es.push {key:=K a,val:=v,born:=clock},clock+1,?_,?_⟩
   ·simp[run_underlying ht,Xr h1,Qap _ h1,hK.chk,Instr.findKey,run_underlying hd,h4]
   ·rw[h5,List.map_append,<-h2];simp
  ·rw[Nat.zero_add]at h4
   have hj:(es[j]?).map (·.key)=some (K a):=by
    have:=congrArg (λl:List (Value×Value)=>(l[j]?).map (·.1)) h2
    grind
   refine⟨es.modify j λe=>{e with key:=K a,val:=v},clock,?_,?_⟩
   ·simp[run_underlying ht,Xr h1,Qap _ h1,hK.chk,Instr.findKey,run_underlying hd,h4,hj,Instr.keyThatStays,hK.bits]
   ·rw[h5,List.map_set,<-h2];apply List.ext_getElem?
    grind
 obtain⟨es',clock',hr,he⟩:=hl
 have hex:(execOp ρ o).run P w=.ok (.value undef) (setO w r (.map es' clock'))\/(execOp ρ o).run P w=.ok .skip (setO w r (.map es' clock')):=by
  rcases ho with ho|ho<;>simp[execOp,ho,hρ _ _ hm,hρ _ _ hx,hρ _ _ hy,hr]
 have hc:HS w0 M As' (setO w r (.map es' clock')):=(HS.swap hpk (w':=setO w r (.map es' clock')) (B:=.mpv r K (insV ks a v)) (λ_ h=>h) rfl rfl rfl (by simp[setO]) (λb hb=>by
  have hb':b≠r:=by simpa[HA.fp_mpv]using hb
  simp[setO,Array.getElem?_setIfInBounds,Ne.symm hb']) ⟨es',clock',by
   have hlt:r<w.heap.size:=by
    rcases Nat.lt_or_ge r w.heap.size with h|h
    ·exact h
    ·rw[Array.getElem?_eq_none h]at h1;cases h1
   simp[setO,Array.getElem?_setIfInBounds,hlt],he⟩).perm hp2
 rcases hex with hex|hex<;>rw[hex]<;>exact⟨(),rfl,trivial,hc⟩
end
end Gx
namespace Gx
open Go Go.RowKit
structure Att where
 ty:Int
 nm:List UInt8
 id:Int
 fl:Int
 rs:Bool
 va:List UInt8
 fi:Int
 ra:Option Addr
 rl:List Rn
 rc:Nat
 al:Int
 sz:Int
 vd:Int
deriving Inhabited
def Att.vals(a:Att):List Value:=[.int .i64 a.ty,.string (bs a.nm),.int .i64 a.id,.int .i64 a.fl,.bool a.rs,.string (bs a.va),.int .i64 a.fi,.slice a.ra a.rl.length a.rc,.int .i64 a.al,.int .i64 a.sz,.int .i64 a.vd]
theorem av11(a:Att):a.vals.length=11:=rfl
def Att.pl(a:Att):Att:={a with ra:=none,rc:=0}
abbrev plA(L:List Att):List Att:=L.map Att.pl
theorem QaG(L:List Att):(plA L).length=L.length:=by simp
theorem Qck{L:List Att}{i:Nat}(h:i<L.length):nth (plA L) i=(nth L i).pl:=by simp_all[Zq,X4]
def AtM(w:World)(a:Option Addr)(L:List Att):Prop:=Rw Att.vals 11 w [] a L/\∀n∈L,Rw Rn.vals 2 w [] n.ra n.rl
theorem AtM.later{w w':World}{a:Option Addr}{L:List Att}{As:List HA}(h:AtM w a L)(hh:HS w [] As w'):AtM w' a L:=
 ⟨h.1.later hh,λn hn=>(h.2 n hn).later hh⟩
theorem AtM.rl{w:World}{a:Option Addr}{L:List Att}(h:AtM w a L){i:Nat}(hi:i<L.length):Rw Rn.vals 2 w [] (nth L i).ra (nth L i).rl:=h.2 _ (Qjb hi)
def QbU:List Int:=[16,32,48,64,96,112,128,144,160,176,192]
def Qcx:List Int:=[16,48,96,112,144]
def Qp8:List (Int×Value):=[(16,.bool true),(32,.bool false),(48,.bool true),(64,.bool false),(96,.bool true),(112,.bool true),(128,.bool false),(144,.bool true),(160,.bool false),(176,.bool false),(192,.bool false)]
theorem Qhw{α:Type}[DecidableEq α]{a:α}:∀{ks:List (α×Value)},(lkV ks a).isSome=decide (a∈ks.map Prod.fst)
 | []=>by simp[lkV]
 | p::r=>by
  rw[lkV]
  by_cases h:a=p.1
  ·rw[if_pos h];simp[h]
  ·rw[if_neg h,Qhw];simp[h]
theorem Qm8(n:Int):(lkV Qp8 n).isSome=decide (n∈QbU):=Qhw
theorem QnG(n:Int):(lkV Qp8 n).getD (.bool false)=.bool (decide (n∈Qcx)):=by
 by_cases h:n∈QbU
 ·simp only[QbU,List.mem_cons,List.mem_nil_iff,or_false]at h;rcases h with rfl|rfl|rfl|rfl|rfl|rfl|rfl|rfl|rfl|rfl|rfl<;>rfl
 ·have h1:=Qm8 n;rw[decide_eq_false h]at h1;rw[Option.isSome_eq_false_iff,Option.isNone_iff_eq_none]at h1;rw[h1]
  have h2:¬n∈Qcx:=λh9=>h (by
   simp only[Qcx,QbU,List.mem_cons,List.mem_nil_iff,or_false]at h9 ⊢;omega)
  rw[decide_eq_false h2];rfl
def Qec(s:List UInt8):Int:=if s=[]\/Xt s=0 then 0 else 4
def Qb0(a:Att):Int:=if a.rl.length=0/\a.fi=0/\a.al=0/\a.sz=0/\a.vd=0 then if a.va.length<=400 then 0 else 8 else 3
def XQ(a:Att):Int:=
 if a.ty∈Qcx then 20 else if a.va=[]then if 0<=a.fi/\a.fi<=4096 then if(Yg a.rl).2=0 then
  if 0<a.fi/\a.rl.length=0 then 17 else if a.fi+X9 a.rl<=4096 then
   if 0<a.fi/\(¬a.al=0\/¬a.sz=0\/¬a.vd=0)then 3 else
    if(0<=a.al/\a.al<=1048576)/\(0<=a.sz/\a.sz<=1048576)/\(0<=a.vd/\a.vd<=1048576)then if a.vd<=a.sz then 0 else 9 else 2
   else 8
  else(Yg a.rl).2 else 2 else 3
def QeM(x:Att):Int:=QC (if x.ty∈Qcx then 20 else 0) (QC (if x.va=[]then 0 else 3) (if 0<=x.fi/\x.fi<=4096 then 0 else 2))
def QnF(x:Att):Int:=QC (if 0<x.fi/\x.rl.length=0 then 17 else 0) (QC (if x.fi+X9 x.rl<=4096 then 0 else 8) (QC (if 0<x.fi/\(¬x.al=0\/¬x.sz=0\/¬x.vd=0)then 3 else 0) (QC (if(0<=x.al/\x.al<=1048576)/\(0<=x.sz/\x.sz<=1048576)/\(0<=x.vd/\x.vd<=1048576)then 0 else 2) (if x.vd<=x.sz then 0 else 9))))
theorem QqE{x:Att}(h:¬QeM x=0):XQ x=QeM x:=by
 unfold QeM QC at h ⊢;unfold XQ
 by_cases h1:x.ty∈Qcx
 ·simp[h1]
 by_cases h2:x.va=[]
 ·by_cases h3:0<=x.fi/\x.fi<=4096
  ·simp[h1,h2,h3]at h
  ·simp[h1,h2,h3]
 ·simp[h1,h2]
theorem Qh5{x:Att}(h:QeM x=0):¬x.ty∈Qcx/\x.va=[]/\0<=x.fi/\x.fi<=4096:=by
 unfold QeM QC at h
 by_cases h1:x.ty∈Qcx
 ·simp[h1]at h
 by_cases h2:x.va=[]
 ·by_cases h3:0<=x.fi/\x.fi<=4096
  ·exact⟨h1,h2,h3⟩
  ·simp[h1,h2,h3]at h
 ·simp[h1,h2]at h
theorem Qqq{x:Att}(h:QeM x=0)(h2:¬(Yg x.rl).2=0):XQ x=(Yg x.rl).2:=by
 obtain⟨h1,h3,h4⟩:=Qh5 h;unfold XQ;rw[if_neg h1,if_pos h3,if_pos h4,if_neg h2]
theorem QqG{x:Att}(h:QeM x=0)(h2:(Yg x.rl).2=0):XQ x=QnF x:=by
 obtain⟨h1,h3,h4⟩:=Qh5 h;unfold XQ QnF QC;rw[if_neg h1,if_pos h3,if_pos h4,if_pos h2]
 by_cases h5:0<x.fi/\x.rl.length=0
 ·rw[if_pos h5,if_pos h5];rfl
 rw[if_neg h5,if_neg h5,if_pos rfl]
 by_cases h6:x.fi+X9 x.rl<=4096
 ·rw[if_pos h6,if_pos h6,if_pos rfl]
  by_cases h7:0<x.fi/\(¬x.al=0\/¬x.sz=0\/¬x.vd=0)
  ·rw[if_pos h7,if_pos h7];rfl
  rw[if_neg h7,if_neg h7,if_pos rfl]
  by_cases h8:(0<=x.al/\x.al<=1048576)/\(0<=x.sz/\x.sz<=1048576)/\(0<=x.vd/\x.vd<=1048576)
  ·rw[if_pos h8,if_pos h8,if_pos rfl]
  ·rw[if_neg h8,if_neg h8];rfl
 ·rw[if_neg h6,if_neg h6];rfl
def al8(n:Nat):Nat:=(n+7)/8*8
def hdN(rs:Bool):Nat:=if rs=true then 24 else 40
def atN(a:Att):Nat:=al8 (hdN a.rs+a.nm.length)
def bdN(a:Att):Nat:=if a.rs=true then a.va.length else rnN a.rl
def lnN(a:Att):Nat:=al8 (atN a+bdN a)
def Zl(a:Att):Int:=if a.ty∈QbU then if Qec a.nm=0 then if(0<=a.id/\a.id<=65535)/\(0<=a.fl/\a.fl<=7)then 0 else 2 else 4 else 15
def Yw(a:Att):Int:=if a.rs=true then Qb0 a else XQ a
def Zg(a:Att):Int:=if Zl a=0 then if Yw a=0 then if lnN a<=440 then 0 else 16 else Yw a else Zl a
theorem QfX(n:Nat):n<=al8 n/\al8 n<=n+7:=by unfold al8;omega
theorem Qci{a:Att}(h:XQ a=0):¬a.ty∈Qcx/\a.va=[]/\(0<=a.fi/\a.fi<=4096)/\(Yg a.rl).2=0/\a.fi+X9 a.rl<=4096/\(0<=a.al/\a.al<=1048576)/\(0<=a.sz/\a.sz<=1048576)/\(0<=a.vd/\a.vd<=1048576):=by
 unfold XQ at h;split at h
 ·cases h
 rename_i h1;split at h
 ·rename_i h2;split at h
  ·rename_i h3;split at h
   ·rename_i h4;split at h
    ·cases h
    split at h
    ·rename_i h5;split at h
     ·cases h
     split at h
     ·rename_i h6;exact⟨h1,h2,h3,h4,h5,h6⟩
     ·cases h
    ·cases h
   ·rename_i h4;exact absurd h h4
  ·cases h
 ·cases h
theorem Qrq{a:Att}(h:Qb0 a=0):a.va.length<=400/\a.rl.length=0:=by
 unfold Qb0 at h
 grind
def szB(n:Int)(k:Nat):Bool:=if k=1 then decide (-128<=n)&&decide (n<=127)else decide (-32768<=n)&&decide (n<=32767)
theorem Ql6{a:Att}:hdN a.rs+a.nm.length<=atN a/\atN a+bdN a<=lnN a/\lnN a<=hdN a.rs+a.nm.length+bdN a+14/\hdN a.rs<=40/\24<=hdN a.rs/\atN a<=lnN a:=by
 have h1:=QfX (hdN a.rs+a.nm.length);have h2:=QfX (atN a+bdN a);have h3:atN a=al8 (hdN a.rs+a.nm.length):=rfl;have h4:lnN a=al8 (atN a+bdN a):=rfl;have h5:24<=hdN a.rs/\hdN a.rs<=40:=by unfold hdN;split<;>omega
 omega
theorem Ql3{a:Att}(h:Yw a=0):bdN a<=400:=by
 unfold Yw at h;unfold bdN;split
 ·rename_i h1;rw[if_pos h1]at h;exact(Qrq h).1
 ·rename_i h1;rw[if_neg h1]at h;have h2:=Qp6 (Qci h).2.2.2.1;omega
theorem QoY{a:Att}(h:Zl a=0):a.ty∈QbU/\a.nm.length<=32/\(0<=a.id/\a.id<=65535)/\(0<=a.fl/\a.fl<=7):=by
 unfold Zl at h;split at h
 ·rename_i h1;split at h
  ·rename_i h2;split at h
   ·rename_i h3;refine⟨h1,?_,h3⟩;unfold Qec at h2;split at h2
    ·rename_i h4;rcases h4 with h4|h4
     ·rw[h4];simp
     ·exact(Qhe h4).1
    ·cases h2
   ·cases h
  ·cases h
 ·cases h
theorem Rw.takeN{α:Type}[Inhabited α]{vals:α->List Value}{sz:Nat}{w:World}{M:List Nat}{a:Option Addr}{l:List α}(h:Rw vals sz w M a l)(n:Nat):Rw vals sz w M a (l.take n):=
 ⟨λhn=>by
  rw[List.length_take]at hn;obtain⟨b,o,rfl,h2⟩:=h.at_ om;refine⟨b,o,rfl,λj hj=>?_⟩;rw[List.length_take]at hj;have e:nth (l.take n) j=nth l j:=Zq (by rw[List.getElem?_take,if_pos om];exact X4 om);simp only[e];exact h2 j om⟩
def QaP(a b:List UInt8):Int:=if Op.bytesLess a b=true then -1 else if(!(Op.bytesLess a b||decide (a=b)))=true then 1 else 0
def Qag(a b:Att):Int:=QC (XL a.ty b.ty) (QC (QaP a.nm b.nm) (QC (XL a.fi b.fi) (XL a.id b.id)))
def XU(a b:Att):Bool:=(decide (a.ty=b.ty)&&decide (a.nm=b.nm))&&decide (a.fi=b.fi)
def Qdj(L:List Att)(i:Nat):Bool:=(L.take i).any λo=>decide (o.id=(nth L i).id)
def ZX(L:List Att)(i:Nat):Int:=QC (Zg (nth L i)) (if Qdj L i=true then 23 else 0)
def Qf8(e:Int)(a b:Att):Int:=QC e (QC (if Qag a b<=0 then 0 else 9) (if XU a b=true/\¬b.ty=48 then 5 else 0))
def oaE(L:List Att)(i:Nat):Int:=if 0<i then Qf8 (ZX L i) (nth L (i-1)) (nth L i)else ZX L i
def QaD(L:List Att):Int×Int:=if L.length<=32 then Qx ((List.range L.length).map (oaE L)) 0 else(0,8)
section
variable{L:List Att}{k:Nat}{e:Int}
theorem Yf(h32:L.length<=32)(hk:k<L.length)(h2:Qx ((List.range L.length).map (oaE L)) 0=Qx (((List.range L.length).map (oaE L)).drop k) k)(hv:oaE L k=e)(he:¬e=0):QaD L=((k:Int),e):=by
 unfold QaD;rw[if_pos h32,h2,Qaz hk,hv,if_neg he]
theorem Qad(hk:k<L.length)(h2:Qx ((List.range L.length).map (oaE L)) 0=Qx (((List.range L.length).map (oaE L)).drop k) k)(hv:oaE L k=0):Qx ((List.range L.length).map (oaE L)) 0=Qx (((List.range L.length).map (oaE L)).drop (k+1)) (k+1):=by rw[h2,Qaz hk,hv,if_pos rfl]
theorem Qjl(h32:L.length<=32)(h2:Qx ((List.range L.length).map (oaE L)) 0=Qx (((List.range L.length).map (oaE L)).drop L.length) L.length):QaD L=(0,0):=by
 unfold QaD;rw[if_pos h32,h2,Qfe]
end
theorem QnL{L:List Att}{i k:Nat}(hk:k<i)(h:(nth L k).id=(nth L i).id)(hi:i<L.length):Qdj L i=true:=by
 unfold Qdj;rw[List.any_eq_true];refine⟨nth L k,?_,decide_eq_true h⟩;have h1:nth L k=(L.take i)[k]'(by rw[List.length_take];omega):=by rw[List.getElem_take];exact Zq (List.getElem?_eq_getElem om)
 rw[h1];exact List.getElem_mem _
theorem oa_1{L:List Att}{k:Nat}(h:¬ZX L k=0):oaE L k=ZX L k:=by
 unfold oaE;split
 ·exact if_neg h
 ·rfl
theorem oa_2{L:List Att}{k:Nat}(h:ZX L k=0)(hk:0<k)(hc:0<Qag (nth L (k-1)) (nth L k)):oaE L k=9:=by
 unfold oaE Qf8;rw[if_pos hk,h,if_neg (show¬Qag (nth L (k-1)) (nth L k)<=0 by omega)];rfl
theorem QgD{L:List Att}{k:Nat}(h:ZX L k=0)(hn:¬(0<k/\0<Qag (nth L (k-1)) (nth L k)))(hk:0<k)(hs:XU (nth L (k-1)) (nth L k)=true)(ht:¬(nth L k).ty=48):oaE L k=5:=by
 unfold oaE Qf8;rw[if_pos hk,h,if_pos (show Qag (nth L (k-1)) (nth L k)<=0 by omega),if_pos ⟨hs,ht⟩];rfl
theorem Qg9{L:List Att}{k:Nat}(h:ZX L k=0)(hn:¬(0<k/\0<Qag (nth L (k-1)) (nth L k)))(h4:¬((0<k/\XU (nth L (k-1)) (nth L k)=true)/\¬(nth L k).ty=48)):oaE L k=0:=by
 unfold oaE Qf8;split
 ·rename_i hk;rw[h,if_pos (show Qag (nth L (k-1)) (nth L k)<=0 by omega),if_neg (λh9=>h4 ⟨⟨hk,h9.1⟩,h9.2⟩)];rfl
 ·exact h
theorem Qrl{L N:List Att}(h:plA N=plA L):N.length=L.length/\∀i,i<L.length->(nth N i).pl=(nth L i).pl:=by
 have h1:=congrArg List.length h;rw[QaG,QaG]at h1;refine⟨h1,λi hi=>?_⟩;rw[<-Qck om,<-Qck hi,h]
theorem Qru{L:List Att}{i:Nat}(hi:i<L.length):oaE (plA L) i=oaE L i:=by
 have hn:=Qck hi
 have hd:Qdj (plA L) i=Qdj L i:=by
  unfold Qdj;rw[hn,<-List.map_take,List.any_map];rfl
 have hs:ZX (plA L) i=ZX L i:=by
  unfold ZX;rw[hn,hd];rfl
 unfold oaE;rw[hs,hn];split
 ·rw[Qck om];rfl
 ·rfl
theorem QqO(L:List Att):QaD (plA L)=QaD L:=by
 unfold QaD;rw[QaG];have h:(List.range L.length).map (oaE (plA L))=(List.range L.length).map (oaE L):=List.map_congr_left λi hi=>Qru (List.mem_range.1 hi);rw[h]
def lnE:List Att->Int
 | []=>0
 | a::r=>if a.ty=48 then QC (dlE a.va) (lnE r)else lnE r
def lnL(L:List Att):List DLnk:=(L.filter λa=>decide (a.ty=48)).map λa=>dlD a.va
def lkE(L:List Att):Int:=QC (QaD L).2 (lnE L)
def lkL(L:List Att):List DLnk:=if lkE L=0 then lnL L else[]
theorem Qhq{L:List Att}{k:Nat}(hk:k<L.length):lnE (L.drop k)=if(nth L k).ty=48 then QC (dlE (nth L k).va) (lnE (L.drop (k+1)))else lnE (L.drop (k+1)):=by
 have h:L.drop k=nth L k::L.drop (k+1):=by
  rw[List.drop_eq_getElem_cons hk];rw[show nth L k=L[k]from Zq (List.getElem?_eq_getElem hk)]
 rw[h,lnE]
theorem QhD{L:List Att}{k:Nat}(hk:k<L.length):lnL (L.take (k+1))=if(nth L k).ty=48 then lnL (L.take k)++[dlD (nth L k).va]else lnL (L.take k):=by
 unfold lnL;rw[List.take_add_one,X4 hk,List.filter_append,List.map_append]
 by_cases h:(nth L k).ty=48<;>simp[h]
theorem QhV{L:List Att}:(lnL L).length<=L.length:=by
 unfold lnL;rw[List.length_map];exact List.length_filter_le _ _
theorem Qo8{L:List Att}:(lkL L).length<=L.length:=by
 unfold lkL;split
 ·exact QhV
 ·exact Nat.zero_le _
theorem Qk7:∀L:List Att,lnE (plA L)=lnE L
 | []=>rfl
 | a::r=>by
  show lnE (a.pl::plA r)=lnE (a::r);rw[lnE,lnE,Qk7 r];rfl
theorem QqY(L:List Att):lnL (plA L)=lnL L:=by
 unfold lnL;rw[List.filter_map,List.map_map];rfl
theorem QjB(L:List Att):lkE (plA L)=lkE L/\lkL (plA L)=lkL L:=by
 have h:lkE (plA L)=lkE L:=by
  unfold lkE;rw[QqO,Qk7]
 refine⟨h,?_⟩;unfold lkL;rw[h,QqY]
def Qd8(L:List Att):Prop:=L.length<=40/\∀i,i<L.length->(nth L i).va.length<=500/\(nth L i).rl.length<=80/\(nth L i).nm.length<=60
theorem QpI{L N:List Att}(h:plA N=plA L)(hL:Qd8 L):Qd8 N:=by
 obtain⟨h1,h2⟩:=Qrl h;refine⟨by have:=hL.1;omega,λi hi=>?_⟩;have h3:=h2 i om;have h4:=hL.2 i om;have e1:(nth N i).va=(nth L i).va:=show(nth N i).pl.va=(nth L i).pl.va by rw[h3]
 have e2:(nth N i).rl=(nth L i).rl:=show(nth N i).pl.rl=(nth L i).pl.rl by rw[h3]
 have e3:(nth N i).nm=(nth L i).nm:=show(nth N i).pl.nm=(nth L i).pl.nm by rw[h3]
 rw[e1,e2,e3];exact h4
theorem Qoh{L D:List Att}{k:Nat}(hk:k<L.length)(hD:plA D=(plA L).take k){x:Att}(hx:x.pl=(nth L k).pl):plA (D++[x])=(plA L).take (k+1):=by
 rw[plA,List.map_append];show plA D++[x.pl]=_;rw[hD,hx,<-Qck hk,List.take_succ_eq_append_getElem (by rw[QaG];exact hk)];congr 2;exact Zq (List.getElem?_eq_getElem (by rw[QaG];exact hk))
def QhA(et:Nat)(x:Att):HA:=.own (.slice x.ra x.rl.length x.rc) et 2 x.rl.length (x.rl.flatMap Rn.vals)
theorem HS.atm{w0 w:World}{M:List Nat}{As As':List HA}{t et:Nat}{a:Option Addr}{cap:Nat}{L:List Att}(h:HS w0 M As w)(hp:QF As (.row t 11 Att.vals (QhA et) a cap L) As'):AtM w a L:=by
 have h1:=HS.row_open (h.pick hp);refine⟨h1.rw_own av11 .here rfl,λn hn=>?_⟩;obtain⟨i,hi,e⟩:=List.getElem_of_mem hn;have e2:nth L i=n:=Zq (by rw[List.getElem?_eq_getElem hi,e]);have h2:=h1.tail.sub_open hi;rw[e2]at h2;exact h2.rw_own rv2 .here rfl
theorem HS.atm_cap{w0 w:World}{M:List Nat}{As As':List HA}{t et:Nat}{a:Option Addr}{cap:Nat}{L:List Att}(h:HS w0 M As w)(hp:QF As (.row t 11 Att.vals (QhA et) a cap L) As'):L.length<=cap:=by
 have h1:=HS.row_open (h.pick hp);rcases Nat.eq_zero_or_pos L.length with h0|h0
 ·omega
 ·obtain⟨g,c,e,h2,_⟩:=h1.own_open' h0;cases e;exact h2
theorem atv1(x:Att):∀u∈x.vals,u.oneCell'=true:=by
 intro u hu;simp only[Att.vals,List.mem_cons,List.mem_nil_iff,or_false]at hu;rcases hu with rfl|rfl|rfl|rfl|rfl|rfl|rfl|rfl|rfl|rfl|rfl<;>rfl
theorem kv4(l:DLnk):l.vals.length=4:=rfl
theorem kv1(l:DLnk):∀u∈l.vals,u.oneCell'=true:=by
 intro u hu;simp only[DLnk.vals,List.mem_cons,List.mem_nil_iff,or_false]at hu;rcases hu with rfl|rfl|rfl|rfl<;>rfl
def Qnr(x:Att):Bool:=decide (x.va.length<=500/\x.rl.length<=80/\x.nm.length<=60)
end Gx
namespace Go.Proofs
open Go Go.RowKit Gx
theorem QjD:Tryz.prog.cellsOf 112=1:=by kernel_rfl
theorem QjN:Tryz.prog.cellsOf 114=11:=by kernel_rfl
theorem QcY:Tryz.prog.cellsOf 352=2:=by kernel_rfl
section
variable{W:World}{d:Nat}
theorem ln11{cs:List Value}(h:cs.length=11):∃x0 x1 x2 x3 x4 x5 x6 x7 x8 x9 x10,cs=[x0,x1,x2,x3,x4,x5,x6,x7,x8,x9,x10]:=by
 match cs,h with
 | [x0,x1,x2,x3,x4,x5,x6,x7,x8,x9,x10],_=>exact⟨x0,x1,x2,x3,x4,x5,x6,x7,x8,x9,x10,rfl⟩
theorem Qpv{cs:List Value}(h:okT Tryz.prog W d 352 cs):∃r:Rn,cs=r.vals/\True:=by
 obtain⟨d2,l,o⟩:=QmL h Tryz.underlying352;rw[QcY]at l;obtain⟨x0,x1,rfl⟩:=ln2 l;simp only[List.mem_cons,List.mem_nil_iff,or_false,forall_eq_or_imp,forall_eq]at o;rw[Qjr]at o;obtain⟨s,rfl⟩:=Qay (x:=x0) o.1;obtain⟨t,rfl⟩:=Qay (x:=x1) o.2;exact⟨⟨s,t⟩,rfl,trivial⟩
theorem QnQ{x:Value}(h:okT Tryz.prog W d 112 [x]):∃a c l,x=.slice a (List.length (α:=Rn) l) c/\Rw Rn.vals 2 W [] a l:=by
 obtain⟨d2,a,n,cap,cell,e,h1,h2,sl,rows⟩:=QmB h Tryz.underlying112 (by rw[QcY];decide);rw[QcY]at sl;cases e;obtain⟨l,rfl,hl,_⟩:=QoZ (vals:=Rn.vals) (Q:=λ_=>True) sl λi hi=>Qpv (rows i hi);exact⟨a,cap,l,rfl,hl⟩
theorem Qps{cs:List Value}(h:okT Tryz.prog W d 114 cs):∃k:Att,cs=k.vals/\Rw Rn.vals 2 W [] k.ra k.rl:=by
 obtain⟨d2,l,o⟩:=QmL h Tryz.underlying114;rw[QjN]at l;obtain⟨x0,x1,x2,x3,x4,x5,x6,x7,x8,x9,x10,rfl⟩:=ln11 l;simp only[List.mem_cons,List.mem_nil_iff,or_false,forall_eq_or_imp,forall_eq]at o;rw[Qjr,Qon,Qn3,QjD]at o;obtain⟨o0,o1,o2,o3,o4,o5,o6,o7,o8,o9,o10⟩:=o;obtain⟨n0,rfl⟩:=Qay (x:=x0) o0;obtain⟨n1,rfl,_⟩:=QlP (x:=x1) o1;obtain⟨n2,rfl⟩:=Qay (x:=x2) o2;obtain⟨n3,rfl⟩:=Qay (x:=x3) o3;obtain⟨n4,rfl⟩:=Qn4 (x:=x4) o4;obtain⟨n5,rfl,_⟩:=QlP (x:=x5) o5;obtain⟨n6,rfl⟩:=Qay (x:=x6) o6;obtain⟨ra,rc,rl,rfl,hr⟩:=QnQ (x:=x7) o7;obtain⟨n8,rfl⟩:=Qay (x:=x8) o8;obtain⟨n9,rfl⟩:=Qay (x:=x9) o9;obtain⟨n10,rfl⟩:=Qay (x:=x10) o10;exact⟨⟨n0,n1,n2,n3,n4,n5,n6,ra,rl,rc,n8,n9,n10⟩,rfl,hr⟩
theorem Qn7{n:Nat}{a:Option Addr}{cell:Nat->List Value}(sl:Sl W [] a 11 n cell)(rows:∀i,i<n->okT Tryz.prog W d 114 (cell i)):∃l:List Att,n=l.length/\AtM W a l:=by
 obtain⟨l,rfl,hl,hk,_⟩:=QoZ (vals:=Att.vals) (Q:=λk=>Rw Rn.vals 2 W [] k.ra k.rl) sl λi hi=>Qps (rows i hi);exact⟨l,rfl,hl,hk⟩
end
end Go.Proofs
namespace Go.Proofs
open Go Go.RowKit Gx
attribute [local irreducible] Go.Calls Gx.S Gx.O Gx.D Gx.OpP Gx.OpQ Gx.OpH
set_option maxRecDepth 20000
theorem Qpj:QJ Tryz.prog 219=true:=by kernel_rfl
theorem c219(w:World)(b:Bool):CR 219 #[.bool b] w (.int .i64 (if b then 1 else 0)):=by
 refine eN1 Tryz.func219 Tryz.ntmps219 ?_
 refine aU9 ?_
 refine sCd rfl (λh1=>?_) λh1=>?_
 ·refine aU4 ?_
  exact rV (h:=by simp_all[Qw])
 refine aU5 ?_
 exact rV (h:=by simp_all[Qw])
instance:TFd Tryz.prog 352 0 0 3:=⟨by kernel_rfl⟩
theorem YG:tsz Tryz.prog 352=some (2,true):=by kernel_rfl
instance:TSz Tryz.prog 352 2 true:=⟨YG⟩
theorem QfO:QJ Tryz.prog 342=true:=by kernel_rfl
instance:TFn Tryz.prog 342:=⟨QfO⟩
instance:TFd Tryz.prog 352 1 1 3:=⟨by kernel_rfl⟩
theorem Qlh:QJ Tryz.prog 364=true:=by kernel_rfl
instance:TFn Tryz.prog 364:=⟨Qlh⟩
instance:TFn Tryz.prog 338:=⟨by kernel_rfl⟩
theorem QlV:tar Tryz.prog 350=some (512,4,1):=by kernel_rfl
theorem XZ:tsl Tryz.prog 112=some (352,2,16):=by kernel_rfl
theorem Qef:Qz Tryz.prog 352=some [.int .i64 0,.int .i64 0]:=by kernel_rfl
theorem QqX:Qz Tryz.prog 350=some (List.replicate 512 (Value.bool false:Value)):=by kernel_rfl
instance:TFn Tryz.prog 335:=⟨by kernel_rfl⟩
theorem Qqi:QJ Tryz.prog 336=true:=by kernel_rfl
theorem QmU:QJ Tryz.prog 337=true:=by kernel_rfl
instance:TFn Tryz.prog 339:=⟨by kernel_rfl⟩
theorem QqB:QJ Tryz.prog 380=true:=by kernel_rfl
instance:TFn Tryz.prog 375:=⟨by kernel_rfl⟩
theorem Qqv:QJ Tryz.prog 376=true:=by kernel_rfl
instance:TFn Tryz.prog 377:=⟨by kernel_rfl⟩
theorem Qh2:QJ Tryz.prog 347=true:=by kernel_rfl
instance:TFn Tryz.prog 347:=⟨Qh2⟩
instance:TFn Tryz.prog 365:=⟨by kernel_rfl⟩
theorem Qnn(w:World)(n lo hi:Int):CR 364 #[.int .i64 n,.int .i64 lo,.int .i64 hi] w (.bool (decide (lo<=n)&&decide (n<=hi))):=by
 refine eN3 Tryz.func364 Tryz.ntmps364 ?_
 refine ZH ?_
 refine Xu 4 10 14 rfl
  (λhg1 _=>by
   refine aU6 ?_
   exact oJt 4 14)
  (λhg3 _=>by
   refine aU3 ?_
   exact oJf 4 14) ?_
 refine aU2 ?_
 exact rV
theorem Qpp(w:World)(ok:Bool)(e:Int):CR 338 #[.bool ok,.int .i64 e] w (.int .i64 (cond ok 0 e)):=by
 refine eN2 Tryz.func338 Tryz.ntmps338 ?_
 refine aU9 ?_
 refine sCd rfl (λh1=>?_) λh1=>?_
 ·refine aU4 ?_
  exact rV (h:=by simp_all[Qw])
 refine aU6 ?_
 exact rV (h:=by simp_all[Qw])
theorem Qj1(w:World)(n lo hi:Int):CR 280 #[.int .i64 n,.int .i64 lo,.int .i64 hi] w (.bool (decide (lo<=n)&&decide (n<=hi))):=by
 refine eN3 Tryz.func280 Tryz.ntmps280 ?_
 refine ZH ?_
 refine Xu 4 10 14 rfl
  (λhg1 _=>by
   refine aU6 ?_
   exact oJt 4 14)
  (λhg3 _=>by
   refine aU3 ?_
   exact oJf 4 14) ?_
 refine aU2 ?_
 exact rV
theorem YW(w:World)(ok:Bool)(e:Int):CR 164 #[.bool ok,.int .i64 e] w (.int .i64 (cond ok 0 e)):=by
 refine eN2 Tryz.func164 Tryz.ntmps164 ?_
 refine aU9 ?_
 refine sCd rfl (λh1=>?_) λh1=>?_
 ·refine aU4 ?_
  exact rV (h:=by simp_all[Qw])
 refine aU6 ?_
 exact rV (h:=by simp_all[Qw])
theorem c163(w:World)(a:Option Addr)(cap:Nat)(es:List Int)(hs:Sl w [] a 1 es.length (λi=>[.int .i64 (es.getD i 0)]))(hm:es.length<=1000):CR 163 #[.slice a es.length cap] w (.int .i64 (Q2 es)):=by
 refine eN1 Tryz.func163 Tryz.ntmps163 ?_
 refine QcZ ?_
 refine Qs (α:=Nat) [2,4,7,8,9,10,11,12,13,14] (λk=>[(7,.int .i64 (k:Int))]) (λ_=>_) (λk=>k<=es.length/\Q2 es=Q2 (es.drop k)) (λk=>es.length-k) 0 ⟨om,rfl⟩ aSx (λw h=>h) (λk hk=>?_)
 obtain⟨hk1,hk2⟩:=hk
 refine aU5 ?_
 refine sCd rfl (λh1=>?_) λh1=>?_
 ·refine aU5 ?_
  refine o_p (Qb rfl rfl rfl Xp _ rfl om (hs.some om)) rfl (o_q (Qp rfl rfl Qmk (hs.rd (i:=k) (j:=0) om rfl)) rfl (aU7 ?_))
  refine sCd rfl (λh2=>?_) λh2=>?_
  ·refine aU5 ?_
   exact rV (h:=by simp only[Qw];rw[hk2,XE om,if_neg (by assumption)])
  refine aT4 ?_
  refine aU2 ?_
  exact Qv (k+1) om ⟨om,by rw[hk2,XE om,if_pos (by assumption)]⟩ aSx (λw h=>h)
 refine Qh rfl ?_
 refine aU4 ?_
 exact rV (h:=by simp only[Qw];rw[hk2,Qau om])
theorem QfU{w0 w:World}{M:List Nat}{As As':List HA}{b cap n:Nat}{t:TypeId}{tot:Nat}{cs:List Value}(h:HS w0 M As w)(hp:QF As (.blk b t tot cs) As')(hc:cs.all Qfi=true)(hn:cs.length=n)(hl:n<=1000) :
    Calls Tryz.prog 163 #[.slice (some ⟨b,0,none⟩) n cap] w λen w'=>en=.returned (.int .i64 (Xq cs))/\Below w.heap.size w w':=by
  subst hn;have:=c163 w (some ⟨b,0,none⟩) cap (cs.map Go.RowKit.intOf) (by simpa using h.sl_ints hp hc) (by simpa using hl);rw[Qbh hc]at this
  simpa using this
theorem Qg3(w:World)(r:Rn):CR 342 #[.agg #[.int .i64 r.st,.int .i64 r.ln]] w (.bool (decide (r.st= -1))):=by
 refine eN1 Tryz.func342 Tryz.ntmps342 ?_
 refine aU2 ?_
 refine oBx λb1 _=>?_
 refine aU9 ?_
 exact rV
theorem c335(w:World)(r:Rn):CR 335 #[.agg #[.int .i64 r.st,.int .i64 r.ln]] w (.int .i64 (if XC r=true then 0 else 2)):=by
 refine eN1 Tryz.func335 Tryz.ntmps335 ?_
 refine aU2 ?_
 refine oBx λb1 _=>?_
 refine aU6 ?_
 refine oCq rfl (λw1 h1=>Qg3 w1 r) (aU ?_)
 refine sCd rfl (λh2=>?_) λh2=>?_
 ·have h0:r.st= -1:=by have hq:=h2;simpa using hq
  refine aU4 ?_
  refine oCq rfl (λw1 h1=>Qnn w1 _ _ _) (oCq rfl (λw1 h1=>Qpp w1 _ _) (aU2 ?_))
  exact rV (h:=by unfold XC;rw[if_pos h0];simp only[Qw,cond_eq_ite])
 have h0:¬r.st= -1:=by have hq:=h2;simpa using hq
 refine aU6 ?_
 refine oCq rfl (λw1 h1=>Qnn w1 _ _ _) (aU2 ?_)
 refine sCd rfl (λh3=>?_) λh3=>?_
 ·have h1:(decide (0<=r.st)&&decide (r.st<=511))=false:=by have hq:=h3;first|exact hq|(simp at hq ⊢;omega)
  refine aU4 ?_
  exact rV (h:=by unfold XC;rw[if_neg h0,h1];rfl)
 have h1:(decide (0<=r.st)&&decide (r.st<=511))=true:=by have hq:=h3;simpa using hq
 have h19:0<=r.st/\r.st<=511:=by simpa using h1
 refine aT8 ?_
 refine oCq rfl (λw1 h1=>Qnn w1 _ _ _) (oCq rfl (λw1 h1=>Qpp w1 _ _) (aU2 ?_))
 exact rV (h:=by unfold XC;rw[if_neg h0,h1,Bool.true_and];simp only[Qw,cond_eq_ite])
theorem c336(w:World)(a b:Rn)(ha:XC a=true)(hb:XC b=true):CR 336 #[.agg #[.int .i64 a.st,.int .i64 a.ln],.agg #[.int .i64 b.st,.int .i64 b.ln]] w (.bool (Ya a b)):=by
 have ha9:=Zb ha
 have hb9:=Zb hb
 refine eN2 Tryz.func336 Tryz.ntmps336 ?_
 refine aU2 ?_
 refine oBx λb1 _=>?_
 refine oBx λb2 _=>?_
 refine aU3 ?_
 refine QA [] mixed ?_
 refine dLn 0 [] ?_
 refine dQ 1 [] rfl (Qd rfl QfO rfl (λw1 h1=>Qg3 w1 a)) (dLn 2 [] ?_)
 refine dQ 3 [] rfl (Qd rfl QfO rfl (λw1 h1=>Qg3 w1 b)) (dV 4 rfl (Qb2 rfl rfl rfl Tryz.underlying4) (dP 5 ?_))
 apply Xl 10
 ·exact rfl
 ·intro hg3
  have hs4:=hg3;skip
  refine dQo 6 10 [] hg3 rfl rfl rfl (QcA rfl rfl YG aPk rfl) ?_
  refine dQo 7 10 [] hg3 rfl rfl rfl (Qd rfl QfO rfl (λw1 h1=>Qg3 w1 a)) ?_
  refine dPo 8 10 hg3 ?_
  apply Xl 13
  ·exact rfl
  ·intro hg5
   have hs6:=hg5;try simp only[dT]at hs6
   refine dOf 9 13 hg5 ?_
   refine dOf 10 13 hg5 ?_
   refine dOf 11 13 hg5 ?_
   refine dOf 12 13 hg5 ?_
   refine dOf 13 13 hg5 ?_
   refine dOf 14 13 hg5 ?_
   refine dOf 15 13 hg5 ?_
   refine dOf 16 13 hg5 ?_
   refine dVo 17 10 hg3 rfl rfl rfl (Xf rfl rfl hg5 rfl) ?_
   refine dV 18 rfl (Xf rfl rfl hg3 rfl) (dP 19 ?_)
   refine dNi ?_
   exact rV (h:=by rw[Qh0];simp_all[Qw])
  intro hg7
  have hs8:=hg7;try simp only[dN]at hs8
  refine dFo 9 13 hg7 ?_
  refine dQo 10 13 [] hg7 rfl rfl rfl (Qan rfl rfl ZI aPk rfl) ?_
  refine dFo 11 13 hg7 ?_
  refine dQo 12 13 [] hg7 rfl rfl rfl (Qan rfl rfl ZI aPk rfl) ?_
  refine dPo 13 13 hg7 ?_
  try refine dWr ?_
  refine dFo 14 13 hg7 ?_
  refine dQo 15 13 [] hg7 rfl rfl rfl (Qan rfl rfl ZI aPk rfl) ?_
  refine dPo 16 13 hg7 ?_
  refine dVo 17 10 hg3 rfl rfl rfl (Xk rfl rfl hg7 rfl) ?_
  refine dV 18 rfl (Xf rfl rfl hg3 rfl) (dP 19 ?_)
  refine dNi ?_
  exact rV (h:=by rw[Qh0];simp_all[Qw])
 intro hg9
 have hs10:=hg9;skip
 refine dOf 6 10 hg9 ?_
 refine dOf 7 10 hg9 ?_
 refine dOf 8 10 hg9 ?_
 refine dOu 9 13 ?_
 refine dOu 10 13 ?_
 refine dOu 11 13 ?_
 refine dOu 12 13 ?_
 refine dOu 13 13 ?_
 refine dOu 14 13 ?_
 refine dOu 15 13 ?_
 refine dOu 16 13 ?_
 refine dOf 17 10 hg9 ?_
 refine dV 18 rfl (Xk rfl rfl hg9 rfl) (dP 19 ?_)
 refine dNi ?_
 exact rV (h:=by rw[Qh0];simp_all[Qw])
theorem Qre(w:World)(b tot:Nat)(U:List Bool)(m:Int)(hw:HS w [b] [.blk b 350 tot (U.map Value.bool)] w)(hU:U.length=512):CE 337 #[.pointer (some ⟨b,0,none⟩),.agg #[.int .i64 (-1),.int .i64 m]] w [b] (λg:Unit=>.bool true) (λg=>True) λg=>[.blk b 350 tot (U.map Value.bool)]:=by
 refine eW2 Tryz.func337 Tryz.ntmps337 hw ?_
 refine aU2 ?_
 refine oBx λb1 _=>?_
 refine aU6 ?_
 refine oCq rfl (λw1 h1=>Qg3 w1 ⟨-1,m⟩) (aU ?_)
 refine sCd rfl (λh2=>?_) λh2=>?_
 ·refine aU4 ?_
  exact rT rfl rfl (λw' h'=>⟨(),rfl,trivial,h'.ent aEt⟩)
 exfalso;simp at h2
theorem Qrw(w:World)(b tot s m:Nat)(U:List Bool)(hw:HS w [b] [.blk b 350 tot (U.map Value.bool)] w)(hU:U.length=512)(hsm:s+m<=512):CE 337 #[.pointer (some ⟨b,0,none⟩),.agg #[.int .i64 (s:Int),.int .i64 (m:Int)]] w [b] (λg:Unit=>.bool (tkF U s m)) (λg=>True) λg=>[.blk b 350 tot ((tkJ U s m).map Value.bool)]:=by
 refine eW2 Tryz.func337 Tryz.ntmps337 hw ?_
 refine aU2 ?_
 refine oBx λb1 _=>?_
 refine aU6 ?_
 refine oCq rfl (λw1 h1=>Qg3 w1 ⟨(s:Int),(m:Int)⟩) (aU ?_)
 refine sCd rfl (λh2=>?_) λh2=>?_
 ·exfalso;have hq:=h2;first|omega|(simp at hq;done)|(simp at hq;omega)
 refine Qby ?_
 refine Qs (α:=Nat) [5,6,11,12,13,14,15,16,17,18,19,20,21,22,23,24,25,26,27,28,29,30,31,32] (λj=>[(6,.int .i64 ((s+j:Nat):Int)),(5,.bool (tkF U s j))]) (λj=>HS w [b] [.blk b 350 tot ((tkJ U s j).map Value.bool),.blk b1 352 2 [.int .i64 (s:Int),.int .i64 (m:Int)]]) (λj=>j<=m) (λj=>m-j) 0 (Nat.zero_le _) aSx (λw h=>by rw[Qrp hU];exact h.ent aEt) (λj hj1=>?_)
 refine aT9 ?_
 refine aU2 ?_
 refine sCd rfl (λh3=>?_) λh3=>?_
 ·have hj:j<m:=by have hq:=h3;omega
  have hst:=QkX (U:=U) (s:=s) (j:=j)
  refine aU7 ?_
  refine Xu 7 21 28 rfl
   (λhg4 _=>by
    refine aU7 ?_
    refine o_p (YX rfl rfl rfl QlV ((s+j)) om om) rfl (aU ?_)
    refine o_q (X0 rfl rfl Qd3 (λw h=>by rw[Nat.zero_add,Nat.mul_one];exact h.rd_blk (Mc:=[]) (b:=b) aPk (Qeh (by rw[ZO];omega)) (by simp))) rfl (Qn (show _=Value.bool (U.getD (s+j) false)from by rw[Qdp om,decide_eq_false (show¬s+j<s+j by omega),Bool.and_false,Bool.or_false]) (aU2 ?_))
    exact oJt 7 28)
   (λhg6 _=>by
    refine aU6 ?_
    exact oJf 7 28) ?_
  refine aU6 ?_
  refine o_p (YX rfl rfl rfl QlV ((s+j)) om om) rfl (ZG (X5 rfl rfl rfl Qd3 rfl aPt (by rw[List.length_map,ZO];show _+1<=512;omega) rfl) (λ_ _=>aT5 ?_))
  refine aU2 ?_
  exact Qv (j+1) om om (by rw[hst];exact aSx) (λw h=>by have h2:=HS.blk_to (b:=b) h aPk (show Qc ((tkJ U s j).map Value.bool) (0+(s+j)*1) [.bool true]=(tkJ U s (j+1)).map Value.bool from by rw[Nat.zero_add,Qgl (x:=true) (by rw[ZO];omega) rfl,Qmu om]);exact h2.ent aEt)
 obtain rfl:j=m:=by have hq:=h3;omega
 refine Qh rfl ?_
 refine aU5 ?_
 exact rT rfl rfl (λw' h'=>⟨(),rfl,trivial,h'.ent aEt⟩)
theorem c337(w:World)(b tot:Nat)(U:List Bool)(r:Rn)(hw:HS w [b] [.blk b 350 tot (U.map Value.bool)] w)(hU:U.length=512)(hr:XC r=true):CE 337 #[.pointer (some ⟨b,0,none⟩),.agg #[.int .i64 r.st,.int .i64 r.ln]] w [b] (λg:Unit=>.bool (tkB U r)) (λg=>True) λg=>[.blk b 350 tot ((tkU U r).map Value.bool)]:=by
  obtain⟨st,ln⟩:=r;unfold tkB tkU;rcases QcR hr with⟨h1,_⟩|⟨h1,h2,h3,h4⟩
  · simp only[]at h1;subst h1;exact Qre w b tot U ln hw hU
  · simp only[]at h1 h2 h3 h4;rw[if_neg h1,if_neg h1];obtain⟨s,rfl⟩:=Int.eq_ofNat_of_zero_le h2;obtain⟨m,rfl⟩:=Int.eq_ofNat_of_zero_le (show 0<=ln by omega);exact Qrw w b tot s m U hw hU om
theorem c339(w:World)(a:Option Addr)(cap:Nat)(l:List Rn)(hs:Rw Rn.vals 2 w [] a l)(hm:l.length<=100000)(hr:∀i,i<l.length->XC (nth l i)=true):CR 339 #[.slice a l.length cap] w (.int .i64 (X9 l)):=by
 refine eN1 Tryz.func339 Tryz.ntmps339 ?_
 refine aU16 ?_
 refine Qs (α:=Nat) [3,5,8,9,10,11,12,13,14,15,16] (λk=>[(8,.int .i64 (k:Int)),(3,.int .i64 (X9 (l.take k)))]) (λ_=>HS w [] []) (λk=>k<=l.length) (λk=>l.length-k) 0 (Nat.zero_le _) aSx (λw h=>h.ent aEt) (λk hk1=>?_)
 refine aU5 ?_
 refine sCd rfl (λh1=>?_) λh1=>?_
 ·have hk:k<l.length:=by have hq:=h1;omega
  have hst:=Qbt hk
  have hb9:=Qcc (k:=k) (λi hi=>hr i om) om
  have hb8:=Zb (hr k hk)
  refine aU5 ?_
  refine o_p (Qb rfl rfl rfl XZ (k) om om (Rw.some hs om)) rfl (o_q (Qr _ rfl rfl YG rfl (Rw.rd hs hk)) rfl (oAl (λb2 _=>?_) Qef))
  refine aT7 ?_
  refine aT5 ?_
  refine aU2 ?_
  exact sBk (k+1) om om (by rw[hst];exact aSx)
 obtain rfl:k=l.length:=by have hq:=h1;omega
 rw[List.take_length]
 refine Qh rfl ?_
 refine aU5 ?_
 exact rV
theorem QpS(w:World)(a:Option Addr)(cap:Nat)(l:List Rn)(hs:Rw Rn.vals 2 w [] a l)(hm:l.length<=100000)(hr:∀i,i<l.length->XC (nth l i)=true):CR 347 #[.slice a l.length cap] w (.int .i64 (X9 l)):=by
 refine eN1 Tryz.func347 Tryz.ntmps347 ?_
 refine Qgo ?_
 refine Qs (α:=Nat) [3,4,5,6,7,8,9,10,11,12,13,14,15,16,17] (λk=>[(4,.int .i64 (k:Int)),(3,.int .i64 (X9 (l.take k)))]) (λ_=>HS w [] []) (λk=>k<=l.length) (λk=>l.length-k) 0 (Nat.zero_le _) aSx (λw h=>h.ent aEt) (λk hk1=>?_)
 refine aU8 ?_
 refine sCd rfl (λh1=>?_) λh1=>?_
 ·have hk:k<l.length:=by have hq:=h1;omega
  have hst:=Qbt hk
  have hb9:=Qcc (k:=k) (λi hi=>hr i om) om
  have hb8:=Zb (hr k hk)
  refine aU7 ?_
  refine o_p (Qb rfl rfl rfl XZ (k) om om (Rw.some hs om)) rfl (aU ?_)
  refine o_q (Qp rfl rfl ZI ((hs.rdj 1 hk rfl))) rfl (aT ?_)
  refine aT6 ?_
  refine aU2 ?_
  exact sBk (k+1) om om (by rw[hst];exact aSx)
 obtain rfl:k=l.length:=by have hq:=h1;omega
 rw[List.take_length]
 refine Qh rfl ?_
 refine aU5 ?_
 exact rV
set_option maxHeartbeats 4000000 in
theorem c313(w:World)(a:Option Addr)(cap:Nat)(l:List Rn)(hs:Rw Rn.vals 2 w [] a l)(hm:l.length<=100000):CR 313 #[.slice a l.length cap] w (.tuple #[.int .i64 (Yg l).1,.int .i64 (Yg l).2]):=by
 refine eN1 Tryz.func313 Tryz.ntmps313 ?_
 refine QcZ ?_
 refine sCd rfl (λh1=>?_) λh1=>?_
 ·have hZ:Yg l=(0,8):=if_neg (by have hq:=h1;omega)
  refine aU5 ?_
  exact Qj (rs:=[.tmp 2,.tmp 3]) rfl (.tmp rfl (.tmp rfl (.nil))) (λw' h'=>⟨by rw[hZ];simp only[Qw,cond_eq_ite,decide_eq_true_eq],h'.below⟩)
 have h64:l.length<=64:=by have hq:=h1;omega
 refine aU3 ?_
 refine oAl (λb2 _=>?_) QqX
 refine aU9 ?_
 refine Qs (α:=Nat) [2,3,5,6,7,13,14,15,16,17,18,19,20,21,22,23,24,25,26,27,28,29,30,31,32,33,34,35,36,37,38,39,40] (λk=>[(13,.int .i64 (k:Int))]) (λk=>HS w [] [.blk b2 350 (List.replicate 512 (Value.bool false)).length ((usB l k).map Value.bool)]) (λk=>k<=l.length/\Qx ((List.range l.length).map (rnE l)) 0=Qx (((List.range l.length).map (rnE l)).drop k) k/\∀i,i<k->XC (nth l i)=true) (λk=>l.length-k) 0 ⟨Nat.zero_le _,rfl,λi h=>absurd h (Nat.not_lt_zero i)⟩ aSx (λw h=>by rw[Qq4,List.map_replicate];exact h.ent aEt) (λk hx=>?_)
 obtain⟨hk1,hk2,hk3⟩:=hx
 refine aU5 ?_
 refine sCd rfl (λh3=>?_) λh3=>?_
 ·have hk:k<l.length:=by have hq:=h3;omega
  refine aU6 ?_
  refine o_p (Qb rfl rfl rfl XZ (k) om om (Rw.some hs om)) rfl (o_q (Qr _ rfl rfl YG rfl (Rw.rd hs hk)) rfl (oAl (λb4 _=>?_) Qef))
  refine aU7 ?_
  refine oCq rfl (λw1 h1=>c335 w1 (nth l k)) (aU7 ?_)
  refine sCd rfl (λh5=>?_) λh5=>?_
  ·have hr9:¬XC (nth l k)=true:=by intro h9;have hq:=h5;rw[if_pos h9]at hq;exact hq rfl
   have hZ:=YJ h64 hk hk2 (rn_2 hr9) (by decide)
   rw[if_neg hr9]
   refine aU7 ?_
   exact Qj (rs:=[.tmp 2,.tmp 3]) rfl (.tmp rfl (.tmp rfl (.nil))) (λw' h'=>⟨by rw[hZ];simp only[Qw,cond_eq_ite,decide_eq_true_eq],h'.below⟩)
  have hr9:XC (nth l k)=true:=by by_cases h9:XC (nth l k)=true;exact h9;have hq:=h5;rw[if_neg h9]at hq;exact absurd hq (by decide)
  refine aU3 ?_
  refine QA [] mixed ?_
  refine dP 0 ?_
  refine dP 1 ?_
  refine dP 2 ?_
  apply Xl 26
  ·exact rfl
  ·intro hg6
   have hs7:=hg6;try simp only[dT]at hs7
   refine dPo 3 26 hg6 ?_
   refine dPo 4 26 hg6 ?_
   refine dPo 5 26 hg6 ?_
   try refine dWr ?_
   refine dVo 6 26 hg6 rfl rfl rfl (Qb rfl rfl rfl XZ ((k-1)) om om (Rw.some hs om)) ?_
   refine dQo 7 26 [] hg6 rfl rfl rfl (Qr _ rfl rfl YG rfl (Rw.rd hs (show k-1<l.length by omega))) ?_
   refine dQo 8 26 [] hg6 rfl rfl rfl (QcA rfl rfl YG aPk rfl) ?_
   refine dQo 9 26 [] hg6 rfl rfl rfl (Qd rfl Qqi rfl (λw1 h1=>c336 w1 (nth l (k-1)) (nth l k) (hk3 _ (by have hq:=hg6;simp at hq;omega)) hr9)) ?_
   refine dV 10 rfl (Xf rfl rfl hg6 rfl) (Qu (show _=Value.bool (decide (0<k)&&Ya (nth l (k-1)) (nth l k))from by first|(rw[decide_eq_true (show 0<k by have hq:=hg6;simp at hq;omega),Bool.true_and])|(rw[decide_eq_false (show¬0<k by have hq:=hg6;simp at hq;omega)];rfl)) (dNi ?_))
   refine sCd rfl (λh8=>?_) λh8=>?_
   ·have hj9:0<k/\Ya (nth l (k-1)) (nth l k)=true:=by have hq:=h8;first|exact hq|(simp at hq;exact hq)
    have hZ:=YJ h64 hk hk2 (Qn0 hr9 hj9) (by decide)
    refine aU ?_
    refine Ql (L':=[(0,_),(4,_),(5,_),(6,_),(8,_),(9,_),(10,_),(11,_),(12,_),(13,_)]) aSx (λ_ h=>h) ?_
    refine aU5 ?_
    exact Qj (rs:=[.tmp 2,.tmp 3]) rfl (.tmp rfl (.tmp rfl (.nil))) (λw' h'=>⟨by rw[hZ];simp only[Qw,cond_eq_ite,decide_eq_true_eq],h'.below⟩)
   have hj9:¬(0<k/\Ya (nth l (k-1)) (nth l k)=true):=by have hq:=h8;grind
   refine aU2 ?_
   refine Ql (L':=[(0,_),(4,_),(5,_),(6,_),(8,_),(9,_),(10,_),(11,_),(12,_),(13,_)]) aSx (λ_ h=>h) ?_
   refine aU2 ?_
   refine o_h (QH (Cs:=[.blk b2 350 (List.replicate 512 (Value.bool false)).length ((usB l k).map Value.bool)]) rfl QmU rfl aPs (λw1 h1 hf=>c337 w1 b2 _ (usB l k) (nth l k) hf (Qjf l k) hr9)) rfl (λ_ _=>aU2 ?_)
   refine sCd rfl (λh9=>?_) λh9=>?_
   ·have hd9:Qa2 l k=true:=by have hq:=h9;rw[Qbq hk (λi hi=>(Nat.lt_or_eq_of_le hi).elim (hk3 i) (λe=>by rw[e];exact hr9))]at hq;simpa using hq
    have hZ:=YJ h64 hk hk2 (Qjy hr9 hj9 hd9) (by decide)
    refine aU6 ?_
    exact Qj (rs:=[.tmp 2,.tmp 3]) rfl (.tmp rfl (.tmp rfl (.nil))) (λw' h'=>⟨by rw[hZ];simp only[Qw,cond_eq_ite,decide_eq_true_eq],h'.below⟩)
   have hd9:¬Qa2 l k=true:=by have hq:=h9;rw[Qbq hk (λi hi=>(Nat.lt_or_eq_of_le hi).elim (hk3 i) (λe=>by rw[e];exact hr9))]at hq;simpa using hq
   have hk5:=QfC hk hk2 (QnD hr9 hj9 hd9)
   refine aT4 ?_
   refine aU2 ?_
   exact Qv (k+1) om ⟨om,hk5,λi hi=>(Nat.lt_succ_iff_lt_or_eq.1 hi).elim (hk3 i) (λe=>by rw[e];exact hr9)⟩ aSx (λw h=>by rw[<-Qgs hk hr9];exact h.ent aEt)
  intro hg10
  have hs11:=hg10;try simp only[dN]at hs11
  refine dOf 3 26 hg10 ?_
  refine dOf 4 26 hg10 ?_
  refine dOf 5 26 hg10 ?_
  refine dOf 6 26 hg10 ?_
  refine dOf 7 26 hg10 ?_
  refine dOf 8 26 hg10 ?_
  refine dOf 9 26 hg10 ?_
  refine dV 10 rfl (Xk rfl rfl hg10 rfl) (Qu (show _=Value.bool (decide (0<k)&&Ya (nth l (k-1)) (nth l k))from by first|(rw[decide_eq_true (show 0<k by have hq:=hg10;simp at hq;omega),Bool.true_and])|(rw[decide_eq_false (show¬0<k by have hq:=hg10;simp at hq;omega)];rfl)) (dNi ?_))
  refine sCd rfl (λh12=>?_) λh12=>?_
  ·have hj9:0<k/\Ya (nth l (k-1)) (nth l k)=true:=by have hq:=h12;first|exact hq|(simp at hq;exact hq)
   have hZ:=YJ h64 hk hk2 (Qn0 hr9 hj9) (by decide)
   refine aU ?_
   refine Ql (L':=[(0,_),(4,_),(5,_),(6,_),(8,_),(9,_),(10,_),(11,_),(12,_),(13,_)]) aSx (λ_ h=>h) ?_
   refine aU5 ?_
   exact Qj (rs:=[.tmp 2,.tmp 3]) rfl (.tmp rfl (.tmp rfl (.nil))) (λw' h'=>⟨by rw[hZ];simp only[Qw,cond_eq_ite,decide_eq_true_eq],h'.below⟩)
  have hj9:¬(0<k/\Ya (nth l (k-1)) (nth l k)=true):=by have hq:=h12;grind
  refine aU2 ?_
  refine Ql (L':=[(0,_),(4,_),(5,_),(6,_),(8,_),(9,_),(10,_),(11,_),(12,_),(13,_)]) aSx (λ_ h=>h) ?_
  refine aU2 ?_
  refine o_h (QH (Cs:=[.blk b2 350 (List.replicate 512 (Value.bool false)).length ((usB l k).map Value.bool)]) rfl QmU rfl aPs (λw1 h1 hf=>c337 w1 b2 _ (usB l k) (nth l k) hf (Qjf l k) hr9)) rfl (λ_ _=>aU2 ?_)
  refine sCd rfl (λh13=>?_) λh13=>?_
  ·have hd9:Qa2 l k=true:=by have hq:=h13;rw[Qbq hk (λi hi=>(Nat.lt_or_eq_of_le hi).elim (hk3 i) (λe=>by rw[e];exact hr9))]at hq;simpa using hq
   have hZ:=YJ h64 hk hk2 (Qjy hr9 hj9 hd9) (by decide)
   refine aU6 ?_
   exact Qj (rs:=[.tmp 2,.tmp 3]) rfl (.tmp rfl (.tmp rfl (.nil))) (λw' h'=>⟨by rw[hZ];simp only[Qw,cond_eq_ite,decide_eq_true_eq],h'.below⟩)
  have hd9:¬Qa2 l k=true:=by have hq:=h13;rw[Qbq hk (λi hi=>(Nat.lt_or_eq_of_le hi).elim (hk3 i) (λe=>by rw[e];exact hr9))]at hq;simpa using hq
  have hk5:=QfC hk hk2 (QnD hr9 hj9 hd9)
  refine aT4 ?_
  refine aU2 ?_
  exact Qv (k+1) om ⟨om,hk5,λi hi=>(Nat.lt_succ_iff_lt_or_eq.1 hi).elim (hk3 i) (λe=>by rw[e];exact hr9)⟩ aSx (λw h=>by rw[<-Qgs hk hr9];exact h.ent aEt)
 obtain rfl:k=l.length:=by have hq:=h3;omega
 have hZ:=QiU h64 hk2
 refine Qh rfl ?_
 refine aU3 ?_
 refine oCq rfl (λw1 h1=>c339 w1 a cap l (hs.later h1.nil) hm hk3) (aU ?_)
 refine oCq rfl (λw1 h1=>Qpp w1 _ _) (aU3 ?_)
 exact Qj (rs:=[.tmp 2,.tmp 3]) rfl (.tmp rfl (.tmp rfl (.nil))) (λw' h'=>⟨by rw[hZ];simp only[Qw,cond_eq_ite,decide_eq_true_eq],h'.below⟩)
theorem c375(w:World)(r:Rn):CR 375 #[.agg #[.int .i64 r.st,.int .i64 r.ln]] w (.bool (XC r)):=by
 refine eN1 Tryz.func375 Tryz.ntmps375 ?_
 refine aU2 ?_
 refine oBx λb1 _=>?_
 refine aU9 ?_
 refine sCd rfl (λh2=>?_) λh2=>?_
 ·have h0:r.st= -1:=h2
  refine aU4 ?_
  refine oCq rfl (λw1 h1=>c27 w1 _ _ _) (aU2 ?_)
  exact rV (h:=by unfold XC;rw[if_pos h0];rfl)
 have h0:¬r.st= -1:=h2
 refine aU5 ?_
 refine oCq rfl (λw1 h1=>c27 w1 _ _ _) (aU ?_)
 refine Xu 7 12 19 rfl
  (λhg3 _=>by
   refine Qnz ?_
   refine aU ?_
   refine oCq rfl (λw1 h1=>c27 w1 _ _ _) ?_
   exact oJt 7 19)
  (λhg5 _=>by
   refine aU6 ?_
   exact oJf 7 19) ?_
 refine aU2 ?_
 exact rV (h:=by unfold XC;rw[if_neg h0];rfl)
theorem c376(w:World)(a b:Rn)(ha:XC a=true)(hb:XC b=true):CR 376 #[.agg #[.int .i64 a.st,.int .i64 a.ln],.agg #[.int .i64 b.st,.int .i64 b.ln]] w (.bool (Ya a b)):=by
 have ha9:=Zb ha
 have hb9:=Zb hb
 refine eN2 Tryz.func376 Tryz.ntmps376 ?_
 refine aU2 ?_
 refine oBx λb1 _=>?_
 refine oBx λb2 _=>?_
 refine aU9 ?_
 refine oOr 4 8 12 rfl
  (λhg3 _=>by
   refine aU6 ?_
   exact oJf 4 12)
  (λhg5 _=>by
   refine aU3 ?_
   exact oJt 4 12) ?_
 refine aU ?_
 refine sCd rfl (λh7=>?_) λh7=>?_
 ·have h0:a.st= -1\/b.st= -1:=by have hq:=h7;simpa using hq
  refine aU9 ?_
  exact rV (h:=by unfold Ya;rw[if_pos h0];rfl)
 have h0:¬(a.st= -1\/b.st= -1):=by have hq:=h7;simpa using hq
 refine Qnz ?_
 refine aU3 ?_
 exact rV (h:=by unfold Ya;rw[if_neg h0];rfl)
theorem c380(w:World)(a b:Rn)(ha:XC a=true)(hb:XC b=true):CR 380 #[.agg #[.int .i64 a.st,.int .i64 a.ln],.agg #[.int .i64 b.st,.int .i64 b.ln]] w (.bool (shB a b)):=by
 have ha9:=Zb ha
 have hb9:=Zb hb
 refine eN2 Tryz.func380 Tryz.ntmps380 ?_
 refine aU2 ?_
 refine oBx λb1 _=>?_
 refine oBx λb2 _=>?_
 refine aU8 ?_
 refine Xu 4 8 12 rfl
  (λhg3 _=>by
   refine aU6 ?_
   exact oJt 4 12)
  (λhg5 _=>by
   refine aU3 ?_
   exact oJf 4 12) ?_
 refine aU ?_
 refine Xu 9 13 22 rfl
  (λhg7 _=>by
   refine Qpy ?_
   refine aU2 ?_
   exact oJt 9 22)
  (λhg9 _=>by
   refine aU8 ?_
   exact oJf 9 22) ?_
 refine aU ?_
 refine Xu 9 23 32 rfl
  (λhg11 _=>by
   refine Qpy ?_
   refine aU2 ?_
   exact oJt 9 32)
  (λhg13 _=>by
   refine aU8 ?_
   exact oJf 9 32) ?_
 refine aU2 ?_
 exact rV
theorem c377(w:World)(a:Option Addr)(cap:Nat)(l:List Rn)(i:Nat)(hs:Rw Rn.vals 2 w [] a l)(hm:l.length<=100000)(hi:i<l.length)(hr:∀k,k<=i->XC (nth l k)=true):CR 377 #[.slice a l.length cap,.int .i64 (i:Int)] w (.bool (Qa2 l i)):=by
 refine eN2 Tryz.func377 Tryz.ntmps377 ?_
 refine ZH ?_
 refine Qs (α:=Nat) [4,5,6,7,8,9,10,11,12,13,14,15,16,17,18,19] (λk=>[(5,.int .i64 (k:Int))]) (λ_=>HS w [] []) (λk=>k<=i/\(l.take k).any (λr=>shB r (nth l i))=false) (λk=>i-k) 0 ⟨Nat.zero_le _,rfl⟩ aSx (λw h=>h.ent aEt) (λk hkk=>?_)
 obtain⟨hk1,hk2⟩:=hkk
 refine aU7 ?_
 refine sCd rfl (λh1=>?_) λh1=>?_
 ·have hk:k<i:=by have hq:=h1;omega
  refine aU4 ?_
  refine QA [] mixed ?_
  refine dP 0 ?_
  refine dP 1 ?_
  refine dV 2 rfl (Qb rfl rfl rfl XZ (k) om om (Rw.some hs om)) (dQ 3 [] rfl (Qr _ rfl rfl YG rfl (Rw.rd hs (show k<l.length by omega))) (dP 4 ?_))
  refine dP 5 ?_
  refine dV 6 rfl (Qb rfl rfl rfl XZ (i) om om (Rw.some hs om)) (dQ 7 [] rfl (Qr _ rfl rfl YG rfl (Rw.rd hs hi)) (dQ 8 [] rfl (Qd rfl QqB rfl (λw1 h1=>c380 w1 (nth l k) (nth l i) (hr _ om) (hr _ (Nat.le_refl _)))) (dNi ?_)))
  refine sCd rfl (λh2=>?_) λh2=>?_
  ·refine aU4 ?_
   exact rV (h:=by rw[Qni hk (by assumption) hi];rfl)
  have hp:shB (nth l k) (nth l i)=false:=by have hq:=h2;simpa using hq
  refine aT5 ?_
  refine aU2 ?_
  exact sBk (k+1) om ⟨om,by rw[List.take_add_one,X4 om,List.any_append,hk2];simp[hp]⟩
 obtain rfl:k=i:=by have hq:=h1;omega
 refine Qh rfl ?_
 refine aU4 ?_
 exact rV (h:=by unfold Qa2;rw[hk2];rfl)
set_option maxHeartbeats 4000000 in
theorem c365(w:World)(a:Option Addr)(cap:Nat)(l:List Rn)(hs:Rw Rn.vals 2 w [] a l)(hm:l.length<=100000):CR 365 #[.slice a l.length cap] w (.tuple #[.int .i64 (Yg l).1,.int .i64 (Yg l).2]):=by
 refine eN1 Tryz.func365 Tryz.ntmps365 ?_
 refine QcZ ?_
 refine sCd rfl (λh1=>?_) λh1=>?_
 ·have hZ:Yg l=(0,8):=if_neg (by have hq:=h1;omega)
  refine aU5 ?_
  exact Qj (rs:=[.tmp 2,.tmp 3]) rfl (.tmp rfl (.tmp rfl (.nil))) (λw' h'=>⟨by rw[hZ];rfl,h'.below⟩)
 have h64:l.length<=64:=by have hq:=h1;omega
 refine aU7 ?_
 refine Qs (α:=Nat) [2,3,4,8,9,10,11,12,13,14,15,16,17,18,19,20,21,22,23,24,25,26,27,28,29,30,31,32,33,34,35,36,37,38,39] (λk=>[(4,.int .i64 (k:Int))]) (λ_=>HS w [] []) (λk=>k<=l.length/\Qx ((List.range l.length).map (rnE l)) 0=Qx (((List.range l.length).map (rnE l)).drop k) k/\∀i,i<k->XC (nth l i)=true) (λk=>l.length-k) 0 ⟨Nat.zero_le _,rfl,λi h=>absurd h (Nat.not_lt_zero i)⟩ aSx (λw h=>h.ent aEt) (λk hx=>?_)
 obtain⟨hk1,hk2,hk3⟩:=hx
 refine aU8 ?_
 refine sCd rfl (λh2=>?_) λh2=>?_
 ·have hk:k<l.length:=by have hq:=h2;omega
  refine aU8 ?_
  refine o_p (Qb rfl rfl rfl XZ (k) om om (Rw.some hs om)) rfl (o_q (Qr _ rfl rfl YG rfl (Rw.rd hs hk)) rfl (oCq rfl (λw1 h1=>c375 w1 (nth l k)) (aU2 ?_)))
  refine sCd rfl (λh3=>?_) λh3=>?_
  ·have hr9:¬XC (nth l k)=true:=by have hq:=h3;simpa using hq
   have hZ:=YJ h64 hk hk2 (rn_2 hr9) (by decide)
   refine aU6 ?_
   exact Qj (rs:=[.tmp 2,.tmp 3]) rfl (.tmp rfl (.tmp rfl (.nil))) (λw' h'=>⟨by rw[hZ];rfl,h'.below⟩)
  have hr9:XC (nth l k)=true:=by have hq:=h3;simpa using hq
  refine aU3 ?_
  refine QA [] mixed ?_
  refine dP 0 ?_
  refine dP 1 ?_
  refine dP 2 ?_
  apply Xl 23
  ·exact rfl
  ·intro hg4
   have hs5:=hg4;try simp only[dT]at hs5
   refine dPo 3 23 hg4 ?_
   refine dPo 4 23 hg4 ?_
   refine dPo 5 23 hg4 ?_
   try refine dWr ?_
   refine dVo 6 23 hg4 rfl rfl rfl (Qb rfl rfl rfl XZ ((k-1)) om om (Rw.some hs om)) ?_
   refine dQo 7 23 [] hg4 rfl rfl rfl (Qr _ rfl rfl YG rfl (Rw.rd hs (show k-1<l.length by omega))) ?_
   refine dPo 8 23 hg4 ?_
   refine dPo 9 23 hg4 ?_
   refine dVo 10 23 hg4 rfl rfl rfl (Qb rfl rfl rfl XZ (k) om om (Rw.some hs om)) ?_
   refine dQo 11 23 [] hg4 rfl rfl rfl (Qr _ rfl rfl YG rfl (Rw.rd hs hk)) ?_
   refine dQo 12 23 [] hg4 rfl rfl rfl (Qd rfl Qqv rfl (λw1 h1=>c376 w1 (nth l (k-1)) (nth l k) (hk3 _ (by have hq:=hg4;simp at hq;omega)) hr9)) ?_
   refine dV 13 rfl (Xf rfl rfl hg4 rfl) (Qu (show _=Value.bool (decide (0<k)&&Ya (nth l (k-1)) (nth l k))from by first|(rw[decide_eq_true (show 0<k by have hq:=hg4;simp at hq;omega),Bool.true_and])|(rw[decide_eq_false (show¬0<k by have hq:=hg4;simp at hq;omega)];rfl)) (dNi ?_))
   refine sCd rfl (λh6=>?_) λh6=>?_
   ·have hj9:0<k/\Ya (nth l (k-1)) (nth l k)=true:=by have hq:=h6;first|exact hq|(simp at hq;exact hq)
    have hZ:=YJ h64 hk hk2 (Qn0 hr9 hj9) (by decide)
    refine aU6 ?_
    exact Qj (rs:=[.tmp 2,.tmp 3]) rfl (.tmp rfl (.tmp rfl (.nil))) (λw' h'=>⟨by rw[hZ];rfl,h'.below⟩)
   have hj9:¬(0<k/\Ya (nth l (k-1)) (nth l k)=true):=by have hq:=h6;grind
   refine aU5 ?_
   refine oCq rfl (λw1 h1=>c377 w1 a cap l k (hs.later h1.nil) hm hk (λi hi=>(Nat.lt_or_eq_of_le hi).elim (hk3 i) (λe=>by rw[e];exact hr9))) (aU ?_)
   refine sCd rfl (λh7=>?_) λh7=>?_
   ·have hZ:=YJ h64 hk hk2 (Qjy hr9 hj9 h7) (by decide)
    refine aU ?_
    refine Ql (L':=[(0,_),(4,_),(5,_),(6,_),(7,_)]) aSx (λ_ h=>h) ?_
    refine aU5 ?_
    exact Qj (rs:=[.tmp 2,.tmp 3]) rfl (.tmp rfl (.tmp rfl (.nil))) (λw' h'=>⟨by rw[hZ];rfl,h'.below⟩)
   have hk5:=QfC hk hk2 (QnD hr9 hj9 (by have hq:=h7;simpa using hq))
   refine aU2 ?_
   refine Ql (L':=[(0,_),(4,_),(5,_),(6,_),(7,_)]) aSx (λ_ h=>h) ?_
   refine aT3 ?_
   refine aU2 ?_
   exact sBk (k+1) om ⟨om,hk5,λi hi=>(Nat.lt_succ_iff_lt_or_eq.1 hi).elim (hk3 i) (λe=>by rw[e];exact hr9)⟩
  intro hg8
  have hs9:=hg8;try simp only[dN]at hs9
  refine dOf 3 23 hg8 ?_
  refine dOf 4 23 hg8 ?_
  refine dOf 5 23 hg8 ?_
  refine dOf 6 23 hg8 ?_
  refine dOf 7 23 hg8 ?_
  refine dOf 8 23 hg8 ?_
  refine dOf 9 23 hg8 ?_
  refine dOf 10 23 hg8 ?_
  refine dOf 11 23 hg8 ?_
  refine dOf 12 23 hg8 ?_
  refine dV 13 rfl (Xk rfl rfl hg8 rfl) (Qu (show _=Value.bool (decide (0<k)&&Ya (nth l (k-1)) (nth l k))from by first|(rw[decide_eq_true (show 0<k by have hq:=hg8;simp at hq;omega),Bool.true_and])|(rw[decide_eq_false (show¬0<k by have hq:=hg8;simp at hq;omega)];rfl)) (dNi ?_))
  refine sCd rfl (λh10=>?_) λh10=>?_
  ·have hj9:0<k/\Ya (nth l (k-1)) (nth l k)=true:=by have hq:=h10;first|exact hq|(simp at hq;exact hq)
   have hZ:=YJ h64 hk hk2 (Qn0 hr9 hj9) (by decide)
   refine aU6 ?_
   exact Qj (rs:=[.tmp 2,.tmp 3]) rfl (.tmp rfl (.tmp rfl (.nil))) (λw' h'=>⟨by rw[hZ];rfl,h'.below⟩)
  have hj9:¬(0<k/\Ya (nth l (k-1)) (nth l k)=true):=by have hq:=h10;grind
  refine aU5 ?_
  refine oCq rfl (λw1 h1=>c377 w1 a cap l k (hs.later h1.nil) hm hk (λi hi=>(Nat.lt_or_eq_of_le hi).elim (hk3 i) (λe=>by rw[e];exact hr9))) (aU ?_)
  refine sCd rfl (λh11=>?_) λh11=>?_
  ·have hZ:=YJ h64 hk hk2 (Qjy hr9 hj9 h11) (by decide)
   refine aU ?_
   refine Ql (L':=[(0,_),(4,_),(5,_),(6,_),(7,_)]) aSx (λ_ h=>h) ?_
   refine aU5 ?_
   exact Qj (rs:=[.tmp 2,.tmp 3]) rfl (.tmp rfl (.tmp rfl (.nil))) (λw' h'=>⟨by rw[hZ];rfl,h'.below⟩)
  have hk5:=QfC hk hk2 (QnD hr9 hj9 (by have hq:=h11;simpa using hq))
  refine aU2 ?_
  refine Ql (L':=[(0,_),(4,_),(5,_),(6,_),(7,_)]) aSx (λ_ h=>h) ?_
  refine aT3 ?_
  refine aU2 ?_
  exact sBk (k+1) om ⟨om,hk5,λi hi=>(Nat.lt_succ_iff_lt_or_eq.1 hi).elim (hk3 i) (λe=>by rw[e];exact hr9)⟩
 obtain rfl:k=l.length:=by have hq:=h2;omega
 have hZ:=QiU h64 hk2
 refine Qh rfl ?_
 refine aU4 ?_
 refine oCq rfl (λw1 h1=>QpS w1 a cap l (hs.later h1.nil) hm hk3) (aU2 ?_)
 refine sCd rfl (λh12=>?_) λh12=>?_
 ·rw[if_neg (by have hq:=h12;omega)]at hZ
  refine aU5 ?_
  exact Qj (rs:=[.tmp 2,.tmp 3]) rfl (.tmp rfl (.tmp rfl (.nil))) (λw' h'=>⟨by rw[hZ];rfl,h'.below⟩)
 rw[if_pos (by have hq:=h12;omega)]at hZ
 refine aU6 ?_
 exact Qj (rs:=[.tmp 2,.tmp 3]) rfl (.tmp rfl (.tmp rfl (.nil))) (λw' h'=>⟨by rw[hZ];rfl,h'.below⟩)
theorem c346(w:World)(a:Option Addr)(cap:Nat)(l:List Rn)(hs:Rw Rn.vals 2 w [] a l)(hm:l.length<=100000):CR 346 #[.slice a l.length cap] w (.int .i64 (Yg l).2):=by
 refine eN1 Tryz.func346 Tryz.ntmps346 ?_
 refine aU7 ?_
 refine oCq rfl (λw1 h1=>c365 w1 a cap l (hs.later h1.nil) hm) (QbB ?_)
 exact rV
theorem Qmj:QJ Tryz.prog 312=true:=by kernel_rfl
instance:TFn Tryz.prog 312:=⟨Qmj⟩
instance:TFn Tryz.prog 344:=⟨by kernel_rfl⟩
theorem Xi:QJ Tryz.prog 164=true:=by kernel_rfl
instance:TFn Tryz.prog 164:=⟨Xi⟩
instance:TFd Tryz.prog 114 7 7 112:=⟨by kernel_rfl⟩
theorem Qee:tsz Tryz.prog 112=some (1,false):=by kernel_rfl
instance:TSz Tryz.prog 112 1 false:=⟨Qee⟩
instance:TFd Tryz.prog 114 6 6 3:=⟨by kernel_rfl⟩
instance:TFd Tryz.prog 114 8 8 3:=⟨by kernel_rfl⟩
instance:TFd Tryz.prog 114 9 9 3:=⟨by kernel_rfl⟩
instance:TFd Tryz.prog 114 10 10 3:=⟨by kernel_rfl⟩
instance:TFd Tryz.prog 114 5 5 9:=⟨by kernel_rfl⟩
theorem Qai:QJ Tryz.prog 163=true:=by kernel_rfl
instance:TFn Tryz.prog 163:=⟨Qai⟩
instance:TFd Tryz.prog 114 0 0 3:=⟨by kernel_rfl⟩
theorem QfP:QJ Tryz.prog 280=true:=by kernel_rfl
instance:TFn Tryz.prog 280:=⟨QfP⟩
instance:TFn Tryz.prog 313:=⟨by kernel_rfl⟩
theorem Yb:tsz Tryz.prog 114=some (11,true):=by kernel_rfl
instance:TSz Tryz.prog 114 11 true:=⟨Yb⟩
theorem Qim:QJ Tryz.prog 314=true:=by kernel_rfl
instance:TFn Tryz.prog 345:=⟨by kernel_rfl⟩
instance:TFn Tryz.prog 346:=⟨by kernel_rfl⟩
abbrev KJ:Int->Value:=λn=>Value.int .i64 n
theorem Qjo(a b c d e:Int):Xq [.int .i64 a,.int .i64 b,.int .i64 c,.int .i64 d,.int .i64 e]=QC a (QC b (QC c (QC d e))):=by
  simp only[Xq,QC]
  grind
theorem c312(w:World):Calls Tryz.prog 312 #[] w λen w'=>∃r:Nat,en=.returned (.map (some r))/\True/\HS w [] [.mpv r KJ Qp8] w':=by
 refine eN0 Tryz.func312 Tryz.ntmps312 ?_
 refine aU6 ?_
 refine o_h (Qif rfl KJ) rfl (λb1 _=>ZG (QW (K:=KJ) (.inr rfl) rfl rfl rfl Tryz.underlying270 (XG YN) aPt) (λ_ _=>ZG (QW (K:=KJ) (.inr rfl) rfl rfl rfl Tryz.underlying270 (XG YN) aPt) (λ_ _=>ZG (QW (K:=KJ) (.inr rfl) rfl rfl rfl Tryz.underlying270 (XG YN) aPt) (λ_ _=>ZG (QW (K:=KJ) (.inr rfl) rfl rfl rfl Tryz.underlying270 (XG YN) aPt) (λ_ _=>ZG (QW (K:=KJ) (.inr rfl) rfl rfl rfl Tryz.underlying270 (XG YN) aPt) (λ_ _=>ZG (QW (K:=KJ) (.inr rfl) rfl rfl rfl Tryz.underlying270 (XG YN) aPt) (λ_ _=>ZG (QW (K:=KJ) (.inr rfl) rfl rfl rfl Tryz.underlying270 (XG YN) aPt) (λ_ _=>ZG (QW (K:=KJ) (.inr rfl) rfl rfl rfl Tryz.underlying270 (XG YN) aPt) (λ_ _=>ZG (QW (K:=KJ) (.inr rfl) rfl rfl rfl Tryz.underlying270 (XG YN) aPt) (λ_ _=>ZG (QW (K:=KJ) (.inr rfl) rfl rfl rfl Tryz.underlying270 (XG YN) aPt) (λ_ _=>ZG (QW (K:=KJ) (.inr rfl) rfl rfl rfl Tryz.underlying270 (XG YN) aPt) (λ_ _=>aU3 ?_))))))))))))
 exact rT rfl rfl (λw' h'=>⟨b1,rfl,trivial,h'.ent aEt⟩)
theorem c278(w:World)(n:Int):CR 278 #[.int .i64 n] w (.bool (decide (n∈QbU))):=by
 refine eN1 Tryz.func278 Tryz.ntmps278 ?_
 refine aU6 ?_
 refine oCh rfl (λw1 h1=>c312 w1) (λrT _=>aU ?_)
 refine o_q (Qkr (K:=KJ) rfl rfl rfl Tryz.underlying270 Qqf (XG YN) aPk) rfl (QbB ?_)
 exact rV (h:=by rw[<-Qm8];rfl)
theorem c344(w:World)(a:Option Addr)(cap:Nat)(u:List Int)(n:Int)(hs:Rw inV 1 w [] a u)(hm:u.length<=100000):CR 344 #[.slice a u.length cap,.int .i64 n] w (.bool (decide (n∈u))):=by
 refine eN2 Tryz.func344 Tryz.ntmps344 ?_
 refine ZH ?_
 refine Qs (α:=Nat) [4,5,6,7,8,9,10,11,12,13,14,15,16,17] (λk=>[(5,.int .i64 (k:Int))]) (λ_=>HS w [] []) (λk=>k<=u.length/\∀j,j<k->¬nth u j=n) (λk=>u.length-k) 0 ⟨Nat.zero_le _,λj h=>absurd h (Nat.not_lt_zero j)⟩ aSx (λw h=>h.ent aEt) (λk hkk=>?_)
 obtain⟨hk1,hk2⟩:=hkk
 refine aU8 ?_
 refine sCd rfl (λh1=>?_) λh1=>?_
 ·have hk:k<u.length:=by have hq:=h1;omega
  refine aU7 ?_
  refine o_p (Qb rfl rfl rfl Xd (k) om om (Rw.some hs om)) rfl (o_q (Qp rfl rfl ZI ((hs.rdj 0 hk rfl))) rfl (aU3 ?_))
  refine sCd rfl (λh2=>?_) λh2=>?_
  ·have hye:n∈u:=by have hq:=h2;rw[<-hq];exact Qjb hk
   refine aU4 ?_
   exact rV (h:=by rw[decide_eq_true hye];rfl)
  have hp:¬nth u k=n:=h2
  refine aT5 ?_
  refine aU2 ?_
  exact sBk (k+1) om ⟨om,λj hj=>(Nat.lt_succ_iff_lt_or_eq.1 hj).elim (hk2 j) (λe9=>by rw[e9];exact hp)⟩
 obtain rfl:k=u.length:=by have hq:=h1;omega
 have hno:¬n∈u:=λh9=>by obtain⟨i,hi,e⟩:=List.getElem_of_mem h9;exact hk2 i hi ((Zq (List.getElem?_eq_getElem hi)).trans e)
 refine Qh rfl ?_
 refine aU4 ?_
 exact rV (h:=by rw[decide_eq_false hno];rfl)
theorem c319(w:World)(n:Int):CR 319 #[.int .i64 n] w (.bool (decide (n∈QbU))):=by
 refine eN1 Tryz.func319 Tryz.ntmps319 ?_
 refine aU6 ?_
 refine o_h (Qg (cs:=[_,_,_,_,_,_,_,_,_,_,_]) rfl rfl Xd Qk2 rfl rfl rfl) rfl (λb1 _=>aU ?_)
 refine oCq rfl (λw1 h1=>c344 w1 (some ⟨b1,0,none⟩) 11 QbU n (h1.rw_blk (l:=QbU) iv1 aPk) (by decide)) (aU2 ?_)
 exact rV
theorem c345(w:World)(n:Int):CR 345 #[.int .i64 n] w (.bool (decide (n∈Qcx))):=by
 refine eN1 Tryz.func345 Tryz.ntmps345 ?_
 refine aU6 ?_
 refine o_h (Qg (cs:=[_,_,_,_,_]) rfl rfl Xd Qk2 rfl rfl rfl) rfl (λb1 _=>aU ?_)
 refine oCq rfl (λw1 h1=>c344 w1 (some ⟨b1,0,none⟩) 5 Qcx n (h1.rw_blk (l:=Qcx) iv1 aPk) (by decide)) (aU2 ?_)
 exact rV
theorem c279(w:World)(s:List UInt8)(hm:s.length<=1000000):CR 279 #[.string (bs s)] w (.int .i64 (Qec s)):=by
 refine eN1 Tryz.func279 Tryz.ntmps279 ?_
 refine aU9 ?_
 refine oOr 4 5 9 rfl
  (λhg1 _=>by
   refine aU3 ?_
   refine oCq rfl (λw1 h1=>c75 w1 s hm) (aU2 ?_)
   exact oJf 4 9)
  (λhg3 _=>by
   refine aU3 ?_
   exact oJt 4 9) ?_
 refine oCq rfl (λw1 h1=>YW w1 _ _) (aU2 ?_)
 exact rV (h:=by simp only[Qw,Qec,cond_eq_ite,Bool.or_eq_true,decide_eq_true_eq])
theorem c320(w:World)(s:List UInt8)(hm:s.length<=1000000):CR 320 #[.string (bs s)] w (.bool (decide (s=[])||decide (Xt s=0))):=by
 refine eN1 Tryz.func320 Tryz.ntmps320 ?_
 refine aU9 ?_
 refine oOr 4 5 9 rfl
  (λhg1 _=>by
   refine aU3 ?_
   refine oCq rfl (λw1 h1=>c16 w1 s om) (aU2 ?_)
   exact oJf 4 9)
  (λhg3 _=>by
   refine aU3 ?_
   exact oJt 4 9) ?_
 refine aU2 ?_
 exact rV
theorem Qp9(w:World)(x:Att)(hs:Rw Rn.vals 2 w [] x.ra x.rl)(hm:x.rl.length<=100000)(hr:∀i,i<x.rl.length->XC (nth x.rl i)=true):CR 314 #[.agg #[.int .i64 x.ty,.string (bs x.nm),.int .i64 x.id,.int .i64 x.fl,.bool x.rs,.string (bs x.va),.int .i64 x.fi,.slice x.ra x.rl.length x.rc,.int .i64 x.al,.int .i64 x.sz,.int .i64 x.vd]] w (.int .i64 (X9 x.rl)):=by
 refine eN1 Tryz.func314 Tryz.ntmps314 ?_
 refine aU2 ?_
 refine oBx λb1 _=>?_
 refine Qiq ?_
 refine Qs (α:=Nat) [3,5,9,10,11,12,13,14,15,16,17] (λk=>[(9,.int .i64 (k:Int)),(3,.int .i64 (X9 (x.rl.take k)))]) (λ_=>HS w [] []) (λk=>k<=x.rl.length) (λk=>x.rl.length-k) 0 (Nat.zero_le _) aSx (λw h=>h.ent aEt) (λk hk1=>?_)
 refine aU5 ?_
 refine sCd rfl (λh2=>?_) λh2=>?_
 ·have hk:k<x.rl.length:=by have hq:=h2;omega
  have hst:=Qbt hk
  have hb9:=Qcc (k:=k) (λi hi=>hr i om) om
  have hb8:=Zb (hr k hk)
  refine aU5 ?_
  refine o_p (Qb rfl rfl rfl XZ (k) om om (Rw.some hs om)) rfl (o_q (Qr _ rfl rfl YG rfl (Rw.rd hs hk)) rfl (oAl (λb3 _=>?_) Qef))
  refine aT7 ?_
  refine aT5 ?_
  refine aU2 ?_
  exact sBk (k+1) om om (by rw[hst];exact aSx)
 obtain rfl:k=x.rl.length:=by have hq:=h2;omega
 rw[List.take_length]
 refine Qh rfl ?_
 refine aU5 ?_
 exact rV
theorem c281(w:World)(x:Att)(hva:x.va.length<=9223372036854775807):CR 281 #[.agg #[.int .i64 x.ty,.string (bs x.nm),.int .i64 x.id,.int .i64 x.fl,.bool x.rs,.string (bs x.va),.int .i64 x.fi,.slice x.ra x.rl.length x.rc,.int .i64 x.al,.int .i64 x.sz,.int .i64 x.vd]] w (.int .i64 (Qb0 x)):=by
 refine eN1 Tryz.func281 Tryz.ntmps281 ?_
 refine aU2 ?_
 refine oBx λb1 _=>?_
 refine aU9 ?_
 refine Xu 4 8 12 rfl
  (λhg2 _=>by
   refine aU6 ?_
   exact oJt 4 12)
  (λhg4 _=>by
   refine aU3 ?_
   exact oJf 4 12) ?_
 refine aU ?_
 refine Xu 4 13 17 rfl
  (λhg6 _=>by
   refine aU6 ?_
   exact oJt 4 17)
  (λhg8 _=>by
   refine aU3 ?_
   exact oJf 4 17) ?_
 refine aU ?_
 refine Xu 4 18 22 rfl
  (λhg10 _=>by
   refine aU6 ?_
   exact oJt 4 22)
  (λhg12 _=>by
   refine aU3 ?_
   exact oJf 4 22) ?_
 refine aU ?_
 refine Xu 4 23 27 rfl
  (λhg14 _=>by
   refine aU6 ?_
   exact oJt 4 27)
  (λhg16 _=>by
   refine aU3 ?_
   exact oJf 4 27) ?_
 refine aU3 ?_
 refine QA [] mixed ?_
 refine dP 0 ?_
 refine dQ 1 [] rfl (Qd rfl Xi rfl (λw1 h1=>YW w1 _ _)) (dFa 2 ?_)
 refine dLd 3 [] ?_
 refine dV 4 rfl (Qi rfl rfl Tryz.underlying9) (dP 5 ?_)
 refine dQ 6 [] rfl (Qd rfl Xi rfl (λw1 h1=>YW w1 _ _)) (dH 7 rfl (Qg (cs:=[_,_]) rfl rfl Xp YC rfl rfl rfl) (λb18 _=>dBa ?_))
 refine dQ 8 [] rfl (Qd rfl Qai rfl (λw1 h1=>QfU h1 aPk (by rfl) (by rfl) (by decide))) (dP 9 ?_)
 refine dNi ?_
 exact rV (h:=by rw[Qgb];simp only[Qw,Qb0,QC,cond_eq_ite,Bool.and_eq_true,decide_eq_true_eq];congr 1;grind)
theorem c322(w:World)(x:Att)(hva:x.va.length<=9223372036854775807):CR 322 #[.agg #[.int .i64 x.ty,.string (bs x.nm),.int .i64 x.id,.int .i64 x.fl,.bool x.rs,.string (bs x.va),.int .i64 x.fi,.slice x.ra x.rl.length x.rc,.int .i64 x.al,.int .i64 x.sz,.int .i64 x.vd]] w (.int .i64 (Qb0 x)):=by
 refine eN1 Tryz.func322 Tryz.ntmps322 ?_
 refine aU2 ?_
 refine oBx λb1 _=>?_
 refine ZH ?_
 refine oOr 4 7 11 rfl
  (λhg2 _=>by
   refine aU6 ?_
   exact oJf 4 11)
  (λhg4 _=>by
   refine aU3 ?_
   exact oJt 4 11) ?_
 refine aU ?_
 refine oOr 4 12 16 rfl
  (λhg6 _=>by
   refine aU6 ?_
   exact oJf 4 16)
  (λhg8 _=>by
   refine aU3 ?_
   exact oJt 4 16) ?_
 refine aU ?_
 refine oOr 4 17 21 rfl
  (λhg10 _=>by
   refine aU6 ?_
   exact oJf 4 21)
  (λhg12 _=>by
   refine aU3 ?_
   exact oJt 4 21) ?_
 refine aU ?_
 refine oOr 4 22 26 rfl
  (λhg14 _=>by
   refine aU6 ?_
   exact oJf 4 26)
  (λhg16 _=>by
   refine aU3 ?_
   exact oJt 4 26) ?_
 refine aU ?_
 refine sCd rfl (λh18=>?_) λh18=>?_
 ·have hE:Qb0 x=3:=by have hq:=h18;unfold Qb0;grind
  refine aU4 ?_
  exact rV (h:=by rw[hE];rfl)
 have hq0:x.rl.length=0/\x.fi=0/\x.al=0/\x.sz=0/\x.vd=0:=by have hq:=h18;grind
 refine aU6 ?_
 refine o_p (Qi rfl rfl Tryz.underlying9) rfl (aU2 ?_)
 refine sCd rfl (λh19=>?_) λh19=>?_
 ·have hE:Qb0 x=8:=by unfold Qb0;rw[if_pos hq0,if_neg (by have hq:=h19;omega)]
  refine aU4 ?_
  exact rV (h:=by rw[hE];rfl)
 have hE:Qb0 x=0:=by unfold Qb0;rw[if_pos hq0,if_pos (by have hq:=h19;omega)]
 refine aU5 ?_
 exact rV (h:=by rw[hE];rfl)
set_option maxHeartbeats 4000000 in
theorem c282(w:World)(x:Att)(hs:Rw Rn.vals 2 w [] x.ra x.rl)(hm:x.rl.length<=100000):CR 282 #[.agg #[.int .i64 x.ty,.string (bs x.nm),.int .i64 x.id,.int .i64 x.fl,.bool x.rs,.string (bs x.va),.int .i64 x.fi,.slice x.ra x.rl.length x.rc,.int .i64 x.al,.int .i64 x.sz,.int .i64 x.vd]] w (.int .i64 (XQ x)):=by
 refine eN1 Tryz.func282 Tryz.ntmps282 ?_
 refine aU2 ?_
 refine oBx λb1 _=>?_
 refine aU4 ?_
 refine QA [] mixed ?_
 refine dFa 1 ?_
 refine dLd 2 [] ?_
 refine dFa 6 ?_
 refine dLd 7 [] ?_
 refine dP 8 ?_
 refine dFa 10 ?_
 refine dLd 11 [] ?_
 refine dH 0 rfl (Qk8 rfl Qmj rfl (λw1 h1=>c312 w1)) (λrT _=>dBa ?_)
 refine dQ 3 [] rfl (QjV (K:=KJ) rfl rfl rfl Tryz.underlying270 Qqf (XG YN) aPk) (Qu (show _=Value.bool (decide (x.ty∈Qcx))from QnG _) (dP 4 ?_))
 refine dQ 5 [] rfl (Qd rfl Xi rfl (λw1 h1=>YW w1 _ _)) (dQ 9 [] rfl (Qd rfl Xi rfl (λw1 h1=>YW w1 _ _)) (dQ 12 [] rfl (Qd rfl QfP rfl (λw1 h1=>Qj1 w1 _ _ _)) (dQ 13 [] rfl (Qd rfl Xi rfl (λw1 h1=>YW w1 _ _)) (dH 14 rfl (Qg (cs:=[_,_,_]) rfl rfl Xp YC rfl rfl rfl) (λb2 _=>dBa ?_)))))
 refine dQ 15 [] rfl (Qd rfl Qai rfl (λw1 h1=>QfU h1 aPk (by rfl) (by rfl) (by decide))) (Qu (show _=Value.int .i64 (QeM x)from by rw[Qbw];congr 1;unfold QeM;simp[cond_eq_ite]) (dP 16 ?_))
 refine dNi ?_
 refine aU5 ?_
 refine sCd rfl (λh3=>?_) λh3=>?_
 ·have hE:=QqE (x:=x) h3
  refine aU5 ?_
  exact rV (h:=by rw[hE];rfl)
 have h10:QeM x=0:=by have hq:=h3;simpa using hq
 have hp1:=Qh5 h10
 refine aU6 ?_
 refine oCq rfl (λw1 h1=>c313 w1 x.ra x.rc x.rl (hs.later h1.nil) hm) (aU7 ?_)
 refine Ql (L':=[(1,_),(2,_),(5,_)]) aSx (λ_ h=>h) ?_
 refine aU4 ?_
 refine sCd rfl (λh4=>?_) λh4=>?_
 ·have hE:=Qqq h10 h4
  refine aU5 ?_
  exact rV (h:=by rw[hE];rfl)
 have hr0:(Yg x.rl).2=0:=by have hq:=h4;simpa using hq
 have hE:=QqG h10 hr0
 have hb9:=Qdo hr0
 refine Qgo ?_
 refine oOr 4 43 47 rfl
  (λhg5 _=>by
   refine aU6 ?_
   exact oJf 4 47)
  (λhg7 _=>by
   refine aU3 ?_
   exact oJt 4 47) ?_
 refine aU ?_
 refine oOr 4 48 52 rfl
  (λhg9 _=>by
   refine aU6 ?_
   exact oJf 4 52)
  (λhg11 _=>by
   refine aU3 ?_
   exact oJt 4 52) ?_
 refine aU6 ?_
 refine oCq rfl (λw1 h1=>Qj1 w1 _ _ _) (aU ?_)
 refine Xu 4 56 60 rfl
  (λhg13 _=>by
   refine aU5 ?_
   refine oCq rfl (λw1 h1=>Qj1 w1 _ _ _) ?_
   exact oJt 4 60)
  (λhg15 _=>by
   refine aU3 ?_
   exact oJf 4 60) ?_
 refine aU ?_
 refine Xu 4 61 65 rfl
  (λhg17 _=>by
   refine aU5 ?_
   refine oCq rfl (λw1 h1=>Qj1 w1 _ _ _) ?_
   exact oJt 4 65)
  (λhg19 _=>by
   refine aU3 ?_
   exact oJf 4 65) ?_
 refine aU3 ?_
 refine QA [] mixed ?_
 refine dP 0 ?_
 refine dP 1 ?_
 refine dP 2 ?_
 apply Xl 68
 ·exact rfl
 ·intro hg21
  have hs22:=hg21;try simp only[Bool.not_eq_true',decide_eq_false_iff_not]at hs22
  refine dOf 3 68 hg21 ?_
  refine dOf 4 68 hg21 ?_
  refine dOf 5 68 hg21 ?_
  refine dOf 6 68 hg21 ?_
  refine dV 7 rfl (Xf rfl rfl hg21 rfl) (dQ 8 [] rfl (Qd rfl Xi rfl (λw1 h1=>YW w1 _ _)) (dFa 9 ?_))
  refine dLd 10 [] ?_
  refine dLn 11 [] ?_
  refine dQ 12 [] rfl (Qd rfl Qim rfl (λw1 h1=>Qp9 w1 x (hs.later h1.nil) hm (Zh hr0))) (dP 13 ?_)
  try refine dWr ?_
  refine dP 14 ?_
  refine dQ 15 [] rfl (Qd rfl Xi rfl (λw1 h1=>YW w1 _ _)) (dP 16 ?_)
  refine dP 17 ?_
  refine dP 18 ?_
  apply Xl 84
  ·exact rfl
  ·intro hg23
   have hs24:=hg23;try simp only[Bool.not_eq_true',decide_eq_false_iff_not]at hs24
   refine dOf 19 84 hg23 ?_
   refine dOf 20 84 hg23 ?_
   refine dV 21 rfl (Xf rfl rfl hg23 rfl) (dQ 22 [] rfl (Qd rfl Xi rfl (λw1 h1=>YW w1 _ _)) (dP 23 ?_))
   refine dQ 24 [] rfl (Qd rfl Xi rfl (λw1 h1=>YW w1 _ _)) (dFa 25 ?_)
   refine dLd 26 [] ?_
   refine dFa 27 ?_
   refine dLd 28 [] ?_
   refine dP 29 ?_
   refine dQ 30 [] rfl (Qd rfl Xi rfl (λw1 h1=>YW w1 _ _)) (dH 31 rfl (Qg (cs:=[_,_,_,_,_]) rfl rfl Xp YC rfl rfl rfl) (λb25 _=>dBa ?_))
   refine dQ 32 [] rfl (Qd rfl Qai rfl (λw1 h1=>QfU h1 aPk (by rfl) (by rfl) (by decide))) (dP 33 ?_)
   refine dNi ?_
   exact rV (h:=by rw[hE,Qjo];unfold QnF QC;simp only[Qw,cond_eq_ite,Bool.and_eq_true,Bool.or_eq_true,decide_eq_true_eq,Bool.not_eq_true',decide_eq_false_iff_not];congr 1;grind)
  intro hg26
  have hs27:=hg26;try simp only[Bool.not_eq_false',decide_eq_true_eq]at hs27
  exfalso;have hq:=hg26;simp_all
 intro hg28
 have hs29:=hg28;try simp only[Bool.not_eq_false',decide_eq_true_eq]at hs29
 refine dFo 3 68 hg28 ?_
 refine dQo 4 68 [] hg28 rfl rfl rfl (Qan rfl rfl Qee aPk rfl) ?_
 refine dVo 5 68 hg28 rfl rfl rfl (YR rfl rfl Tryz.underlying112) ?_
 refine dPo 6 68 hg28 ?_
 refine dV 7 rfl (Xk rfl rfl hg28 rfl) (dQ 8 [] rfl (Qd rfl Xi rfl (λw1 h1=>YW w1 _ _)) (dFa 9 ?_))
 refine dLd 10 [] ?_
 refine dLn 11 [] ?_
 refine dQ 12 [] rfl (Qd rfl Qim rfl (λw1 h1=>Qp9 w1 x (hs.later h1.nil) hm (Zh hr0))) (dP 13 ?_)
 try refine dWr ?_
 refine dP 14 ?_
 refine dQ 15 [] rfl (Qd rfl Xi rfl (λw1 h1=>YW w1 _ _)) (dP 16 ?_)
 refine dP 17 ?_
 refine dP 18 ?_
 apply Xl 84
 ·exact rfl
 ·intro hg30
  have hs31:=hg30;try simp only[Bool.not_eq_true',decide_eq_false_iff_not]at hs31
  exfalso;have hq:=hg30;simp_all
 intro hg32
 have hs33:=hg32;try simp only[Bool.not_eq_false',decide_eq_true_eq]at hs33
 refine dPo 19 84 hg32 ?_
 refine dPo 20 84 hg32 ?_
 refine dV 21 rfl (Xk rfl rfl hg32 rfl) (dQ 22 [] rfl (Qd rfl Xi rfl (λw1 h1=>YW w1 _ _)) (dP 23 ?_))
 refine dQ 24 [] rfl (Qd rfl Xi rfl (λw1 h1=>YW w1 _ _)) (dFa 25 ?_)
 refine dLd 26 [] ?_
 refine dFa 27 ?_
 refine dLd 28 [] ?_
 refine dP 29 ?_
 refine dQ 30 [] rfl (Qd rfl Xi rfl (λw1 h1=>YW w1 _ _)) (dH 31 rfl (Qg (cs:=[_,_,_,_,_]) rfl rfl Xp YC rfl rfl rfl) (λb34 _=>dBa ?_))
 refine dQ 32 [] rfl (Qd rfl Qai rfl (λw1 h1=>QfU h1 aPk (by rfl) (by rfl) (by decide))) (dP 33 ?_)
 refine dNi ?_
 exact rV (h:=by rw[hE,Qjo];unfold QnF QC;simp only[Qw,cond_eq_ite,Bool.and_eq_true,Bool.or_eq_true,decide_eq_true_eq,Bool.not_eq_true',decide_eq_false_iff_not];congr 1;grind)
set_option maxHeartbeats 4000000 in
theorem c321(w:World)(x:Att)(hs:Rw Rn.vals 2 w [] x.ra x.rl)(hm:x.rl.length<=100000):CR 321 #[.agg #[.int .i64 x.ty,.string (bs x.nm),.int .i64 x.id,.int .i64 x.fl,.bool x.rs,.string (bs x.va),.int .i64 x.fi,.slice x.ra x.rl.length x.rc,.int .i64 x.al,.int .i64 x.sz,.int .i64 x.vd]] w (.int .i64 (XQ x)):=by
 refine eN1 Tryz.func321 Tryz.ntmps321 ?_
 refine aU2 ?_
 refine oBx λb1 _=>?_
 refine aU7 ?_
 refine oCq rfl (λw1 h1=>c345 w1 x.ty) (aU ?_)
 refine sCd rfl (λh2=>?_) λh2=>?_
 ·have hE:XQ x=20:=by have hq:=h2;unfold XQ;grind
  refine aU4 ?_
  exact rV (h:=by rw[hE];rfl)
 have e0:¬x.ty∈Qcx:=by have hq:=h2;simpa using hq
 refine aU8 ?_
 refine sCd rfl (λh3=>?_) λh3=>?_
 ·have hE:XQ x=3:=by have hq:=h3;unfold XQ;grind
  refine aU4 ?_
  exact rV (h:=by rw[hE];rfl)
 have e1:x.va=[]:=by have hq:=h3;simpa using hq
 refine aU6 ?_
 refine oCq rfl (λw1 h1=>c27 w1 _ _ _) (aU2 ?_)
 refine sCd rfl (λh4=>?_) λh4=>?_
 ·have hE:XQ x=2:=by have hq:=h4;unfold XQ;grind
  refine aU4 ?_
  exact rV (h:=by rw[hE];rfl)
 have e2:0<=x.fi/\x.fi<=4096:=by have hq:=h4;simpa using hq
 refine aU6 ?_
 refine oCq rfl (λw1 h1=>c346 w1 x.ra x.rc x.rl (hs.later h1.nil) hm) (aU7 ?_)
 refine sCd rfl (λh5=>?_) λh5=>?_
 ·have hE:XQ x=(Yg x.rl).2:=by have hq:=h5;unfold XQ;grind
  refine aU5 ?_
  exact rV (h:=by rw[hE];rfl)
 have hr0:(Yg x.rl).2=0:=by have hq:=h5;simpa using hq
 have hb9:=Qdo hr0
 refine aU8 ?_
 refine Xu 5 24 29 rfl
  (λhg6 _=>by
   refine aU8 ?_
   exact oJt 5 29)
  (λhg8 _=>by
   refine aU4 ?_
   exact oJf 5 29) ?_
 refine aU ?_
 refine sCd rfl (λh10=>?_) λh10=>?_
 ·have hE:XQ x=17:=by have hq:=h10;unfold XQ;grind
  refine aU4 ?_
  exact rV (h:=by rw[hE];rfl)
 refine aU3 ?_
 refine QA [] mixed ?_
 refine dFa 0 ?_
 refine dLd 1 [] ?_
 refine dFa 2 ?_
 refine dLd 3 [] ?_
 refine dQ 4 [] rfl (Qd rfl Qh2 rfl (λw1 h1=>QpS w1 x.ra x.rc x.rl (hs.later h1.nil) hm (Zh hr0))) (dP 5 ?_)
 try refine dWr ?_
 refine dP 6 ?_
 refine dNi ?_
 refine sCd rfl (λh11=>?_) λh11=>?_
 ·have hE:XQ x=8:=by have hq:=h11;unfold XQ;grind
  refine aU ?_
  refine Ql (L':=[(1,_),(2,_)]) aSx (λ_ h=>h) ?_
  refine aU3 ?_
  exact rV (h:=by rw[hE];rfl)
 refine aU3 ?_
 refine Ql (L':=[(1,_),(2,_)]) aSx (λ_ h=>h) ?_
 refine aU5 ?_
 refine Xu 14 40 54 rfl
  (λhg12 _=>by
   refine aU8 ?_
   refine oOr 4 44 48 rfl
    (λhg14 _=>by
     refine aU7 ?_
     exact oJf 4 48)
    (λhg16 _=>by
     refine aU4 ?_
     exact oJt 4 48) ?_
   refine aU2 ?_
   refine oOr 4 49 53 rfl
    (λhg18 _=>by
     refine aU7 ?_
     exact oJf 4 53)
    (λhg20 _=>by
     refine aU4 ?_
     exact oJt 4 53) ?_
   exact oJt 8 54)
  (λhg22 _=>by
   refine Qby ?_
   exact oJf 14 54) ?_
 refine aU ?_
 refine sCd rfl (λh24=>?_) λh24=>?_
 ·have hE:XQ x=3:=by have hq:=h24;unfold XQ;grind
  refine aU4 ?_
  exact rV (h:=by rw[hE];rfl)
 refine QbB ?_
 refine oCq rfl (λw1 h1=>c27 w1 _ _ _) (aU2 ?_)
 refine oOr 6 60 66 rfl
  (λhg25 _=>by
   refine aU7 ?_
   refine oCq rfl (λw1 h1=>c27 w1 _ _ _) (aU2 ?_)
   exact oJf 6 66)
  (λhg27 _=>by
   refine aU5 ?_
   exact oJt 6 66) ?_
 refine aU ?_
 refine oOr 6 67 73 rfl
  (λhg29 _=>by
   refine aU7 ?_
   refine oCq rfl (λw1 h1=>c27 w1 _ _ _) (aU2 ?_)
   exact oJf 6 73)
  (λhg31 _=>by
   refine aU5 ?_
   exact oJt 6 73) ?_
 refine aU ?_
 refine sCd rfl (λh33=>?_) λh33=>?_
 ·have hE:XQ x=2:=by have hq:=h33;unfold XQ;grind
  refine aU4 ?_
  exact rV (h:=by rw[hE];rfl)
 refine ZH ?_
 refine sCd rfl (λh34=>?_) λh34=>?_
 ·have hE:XQ x=9:=by have hq:=h34;unfold XQ;grind
  refine aU4 ?_
  exact rV (h:=by rw[hE];rfl)
 have hE:XQ x=0:=by have hq:=h34;unfold XQ;grind
 refine aU5 ?_
 exact rV (h:=by rw[hE];rfl)
end Go.Proofs
namespace Gx
open Go Go.RowKit
theorem QfG(l:List UInt8):∀u∈l.map bv,u.oneCell'=true:=λu hu=>by
 obtain⟨b,_,rfl⟩:=List.mem_map.1 hu;rfl
end Gx
namespace Gx
open Go Go.RowKit
section
variable{P:Program}{o:Oper}{L:Qa}{w0:World}{M:List Nat}{As As':List HA}
theorem QhP{dt st by' m cd b tot i:Nat}{d s:Operand}{ad:Option Addr}{bt:TypeId}{x l:List UInt8}{e:TypeId}(ho:o.op=.call {callee:=.builtin .copy,args:=#[d,s],argTypes:=#[dt,st]})(hd:Gx.ev L d=some (.slice ad m cd))(ha:0<m->ad=some ⟨b,i,none⟩)(hx:Gx.ev L s=some (.string (bs l)))(ht:tsl P dt=some (e,1,by'))
  (hp:Put As (.blk b bt tot (x.map bv)) (.blk b bt tot ((QbC x i l).map bv)) As')(hm0:0<m)(hk:l.length<=m)(hr:i+l.length<=x.length) :
  OpH P o L (HS w0 M As) (λ_:Unit=>.int .i64 (l.length:Int)) (λ_=>True) (λ_=>HS w0 M As'):=by
 rw[ha hm0]at hd;intro ρ w hρ hw;obtain⟨hu,inf,hi,hs1,hs2⟩:=QO ht;have hsz:(Go.sizeOf e).run P w=.ok 1 w:=by simp[Go.sizeOf,typeInfo,hi,hs1]
 have hfc:(Builtin.firstCells 1 l.length (.string (bs l))).run P w=.ok (l.map bv).toArray w:=by
  have hx:(bs l).extract 0 l.length=bs l:=(QeQ _).trans (congrArg bs (by rw[Lib.extract_data];simp));simp only[Builtin.firstCells,hx,Sem.run_pure];congr 1;simp[bs,bv]
 have hbl:(bs l).size=l.length:=rfl;have hk':Nat.min l.length m=l.length:=Nat.min_eq_left hk;obtain⟨Rs,h3,h4⟩:=hp.ex;have hpk:=hw.pick h3;obtain⟨w',hst,hb,r1,r2,r3,r4,r5⟩:=Xe (P:=P) (l.map bv) 0 (x.map bv) w hpk.head (by simpa using hr) (QfG l) (i:=i)
 have he:(Builtin.copy_ #[dt,st] o.type #[.slice (some ⟨b,i,none⟩) m cd,.string (bs l)]).run P w=.ok (.int .i64 (l.length:Int)) w':=by
  unfold Builtin.copy_;simp[run_underlying hu,Builtin.lenOf,hbl,hk',hsz,hfc,goInt,hst]
 have hcs:Qc (x.map bv) i (l.map bv)=(QbC x i l).map bv:=by
  rw[Qeq _ _ _ (by simpa using hr),QbC];simp only[List.map_append,List.map_take,List.map_drop,List.length_map]
 simp only[execOp,ho,resolve,Sem.run_bind,Sem.run_pure,Result.andThen_ok,invoke,builtin,List.map_toArray,List.map_cons,List.map_nil,hρ _ _ hd,hρ _ _ hx,he];exact⟨(),rfl,trivial,(HS.swap hpk (B:=.blk b bt tot ((QbC x i l).map bv)) (λ_ h=>h) r1 r2 r3 r4 (λk hk=>r5 k (by simpa[HA.fp_blk]using hk)) (show QL b bt tot ((QbC x i l).map bv) w' by rw[<-hcs];simpa using hb)).perm h4⟩
end
section
variable{P:Program}{o:Oper}{L:Qa}{w0:World}{M:List Nat}{As As':List HA}
theorem Qdf{dt st by' m cd b tot i:Nat}{d s:Operand}{ad:Option Addr}{bt:TypeId}{x l:List UInt8}{e:TypeId}(ho:o.op=.call {callee:=.builtin .copy,args:=#[d,s],argTypes:=#[dt,st]})(hd:Gx.ev L d=some (.slice ad m cd))(ha:0<m->ad=some ⟨b,i,none⟩)(hx:Gx.ev L s=some (.string (bs l)))(ht:tsl P dt=some (e,1,by'))
  (hp:Put As (.blk b bt tot (x.map bv)) (.blk b bt tot ((QbC x i l).map bv)) As')(hk:l.length<=m)(hr:i+l.length<=x.length) :
  OpH P o L (HS w0 M As) (λ_:Unit=>.int .i64 (l.length:Int)) (λ_=>True) (λ_=>HS w0 M As'):=by
 rcases Nat.eq_zero_or_pos m with h0|h0
 ·subst h0;obtain rfl:l=[]:=List.eq_nil_of_length_eq_zero om;intro ρ w hρ hw;obtain⟨hu,inf,hi,hs1,hs2⟩:=QO ht;have hsz:(Go.sizeOf e).run P w=.ok 1 w:=by simp[Go.sizeOf,typeInfo,hi,hs1]
  have he:(Builtin.copy_ #[dt,st] o.type #[.slice ad 0 cd,.string (bs [])]).run P w=.ok (.int .i64 0) w:=by
   have hfc:(Builtin.firstCells 1 0 (.string (bs []))).run P w=.ok #[] w:=by
    have hx:(bs []).extract 0 0=bs []:=(QeQ _).trans (congrArg bs (by rw[Lib.extract_data];simp));simp only[Builtin.firstCells,hx,Sem.run_pure];simp[bs]
   unfold Builtin.copy_;cases ad with
   | none=>simp[run_underlying hu,Builtin.lenOf,hsz,goInt,hfc]
   | some a=>simp[run_underlying hu,Builtin.lenOf,hsz,goInt,hfc,storeCells]
  obtain⟨Rs,h3,h4⟩:=hp.ex;have hpk:=hw.pick h3;have hcs:QbC x i []=x:=by simp[QbC]
  rw[hcs]at h4;simp only[execOp,ho,resolve,Sem.run_bind,Sem.run_pure,Result.andThen_ok,invoke,builtin,List.map_toArray,List.map_cons,List.map_nil,hρ _ _ hd,hρ _ _ hx,he];exact⟨(),rfl,trivial,hpk.perm h4⟩
 ·exact QhP ho hd ha hx ht hp h0 hk hr
end
end Gx
namespace Go.Proofs
open Go Go.RowKit Gx
attribute [local irreducible] Go.Calls Gx.S Gx.O Gx.D Gx.OpP Gx.OpQ Gx.OpH
set_option maxRecDepth 20000
theorem QmY:tsl Tryz.prog 370=some (112,1,24):=by kernel_rfl
theorem QqR:Qz Tryz.prog 112=some [.slice none 0 0]:=by kernel_rfl
instance:TFn Tryz.prog 340:=⟨by kernel_rfl⟩
instance:TFn Tryz.prog 341:=⟨by kernel_rfl⟩
instance:TFn Tryz.prog 343:=⟨by kernel_rfl⟩
theorem c341(w:World)(n:Int)(hn: -32768<=n/\n<=32767):CR 341 #[.int .i64 n] w (.int .i64 (szN n:Int)):=by
 refine eN1 Tryz.func341 Tryz.ntmps341 ?_
 refine ZH ?_
 refine Qs (α:=Nat) [3,4,5,6,7,8,9,10,11,12,13,14,15,16,17] (λk=>[(3,.int .i64 (k:Int))]) (λ_=>HS w [] []) (λk=>k=1\/(k=2/\¬(-128<=n/\n<=127))) (λk=>3-k) 1 (.inl rfl) aSx (λw h=>h.ent aEt) (λk hx=>?_)
 refine aU2 ?_
 refine QA [] mixed ?_
 refine dP 0 ?_
 refine dP 1 ?_
 refine dP 2 ?_
 try refine dWr ?_
 refine dP 3 ?_
 try refine dWr ?_
 refine dV 4 rfl (QhF rfl rfl rfl om (8*k-1) (by rcases hx with rfl|⟨rfl,_⟩<;>rfl)) (dP 5 ?_)
 refine dP 6 ?_
 try refine dWr ?_
 refine dP 7 ?_
 try refine dWr ?_
 refine dV 8 rfl (QhF rfl rfl rfl om (8*k-1) (by rcases hx with rfl|⟨rfl,_⟩<;>rfl)) (dP 9 ?_)
 try refine dWr ?_
 refine dQ 10 [] rfl (Qd rfl Qlh rfl (λw1 h1=>Qnn w1 _ _ _)) ?_
 refine Qu (show _=Value.bool (szB n k)from by rcases hx with rfl|⟨rfl,_⟩<;>rfl) (dP 11 ?_)
 refine dNi ?_
 refine sCd rfl (λh1=>?_) λh1=>?_
 ·have hk1:k=1/\¬(-128<=n/\n<=127):=by have hq:=h1;rcases hx with rfl|⟨rfl,h9⟩;(refine⟨rfl,?_⟩;simp[szB]at hq;omega);(exfalso;simp[szB]at hq;omega)
  refine aT5 ?_
  refine aU3 ?_
  exact sBk (k+1) om (.inr ⟨om,hk1.2⟩)
 have hv:szN n=k:=by have hq:=h1;unfold szN;rcases hx with rfl|⟨rfl,h9⟩;(simp[szB]at hq;rw[if_pos om]);(rw[if_neg h9])
 refine Qh rfl ?_
 refine aU5 ?_
 exact rV (h:=by rw[hv];rfl)
theorem c343(w:World)(n:Int)(c:Nat)(hc:c<=100):CE 343 #[.int .i64 n,.int .i64 (c:Int)] w [] (λg:(Option Addr×Nat)×List UInt8=>.slice g.1.1 g.2.length g.1.2) (λg=>g.2.length=c) λg=>[.own (.slice g.1.1 g.2.length g.1.2) 5 1 g.2.length (g.2.map bv)]:=by
 refine eN2 Tryz.func343 Tryz.ntmps343 ?_
 refine Qiq ?_
 refine Qs (α:=Nat×(Option Addr×Nat)×List UInt8×Int) [0,5,7,8,9,10,11,12,13,14,15,16] (λy=>[(7,.int .i64 (y.1:Int)),(5,.slice y.2.1.1 y.2.2.1.length y.2.1.2),(0,.int .i64 y.2.2.2)]) (λy=>HS w [] [.own (.slice y.2.1.1 y.2.2.1.length y.2.1.2) 5 1 y.2.2.1.length (y.2.2.1.map bv)]) (λy=>y.1<=c/\y.2.2.1.length=y.1) (λy=>c-y.1) (0,(none,0),[],n) ⟨Nat.zero_le _,rfl⟩ aSx (λw h=>(h.own_nil 5 1).ent aEt) (λ⟨k,A,X,m⟩hx=>?_)
 dsimp only at hx ⊢
 obtain⟨hk1,hk2⟩:=hx
 refine aU5 ?_
 refine sCd rfl (λh1=>?_) λh1=>?_
 ·have hk:k<c:=by have hq:=h1;omega
  refine aU7 ?_
  refine o_p (Q5 rfl rfl YN QeC) rfl (Qn (show _=bv (by8 m)from Qcf _) (o_h (Qg (cs:=[_]) rfl rfl QN Qao rfl rfl rfl) rfl (λb2 _=>o_h (QZ (n:=X.length) [bv (by8 m)] rfl rfl rfl QN Tryz.underlying226 Qao rfl aPk (Xx aPk) rfl (by intro u hu;simp only[List.mem_cons,List.mem_nil_iff,or_false]at hu;subst hu;rfl) om (by simp only[maxLen];omega)) rfl (λb3 _=>aU4 ?_))))
  refine o_p (QiS rfl rfl rfl (by decide) 8 rfl) rfl (aT5 ?_)
  refine aU2 ?_
  exact Qv (k+1,b3,X++[by8 m],m/2^8) (by dsimp only;omega) (by dsimp only;rw[List.length_append,List.length_singleton];exact⟨om,om⟩) (by dsimp only;rw[List.length_append];exact aSx) (λw h=>by dsimp only;rw[List.length_append,List.map_append];exact h.ent aEt)
 obtain rfl:k=c:=by have hq:=h1;omega
 refine Qh rfl ?_
 refine aU5 ?_
 exact rT rfl rfl (λw' h'=>⟨(A,X),rfl,hk2,h'.ent aEt⟩)
theorem c340(w:World)(b:Nat)(ra:Option Addr)(rc:Nat)(l:List Rn)(cap:Nat)(h0:Rd w [] b 0 (.slice ra l.length rc))(hs:Rw Rn.vals 2 w [] ra l)(hm:l.length<=100000):CR 340 #[.slice (some ⟨b,0,none⟩) 1 cap] w (.int .i64 (Yg l).2):=by
 refine eN1 Tryz.func340 Tryz.ntmps340 ?_
 refine QcZ ?_
 refine Qs (α:=Nat) [2,4,5,6,9,10,11,12,13,14,15,16,17,18,19,20,21] (λk=>[(9,.int .i64 (k:Int))]) (λ_=>HS w [] []) (λk=>k<=1/\(k=1->(Yg l).2=0)) (λk=>1-k) 0 ⟨by decide,λh=>by cases h⟩ aSx (λw h=>h.ent aEt) (λk hx=>?_)
 obtain⟨hk1,hk2⟩:=hx
 refine aU5 ?_
 refine sCd rfl (λh1=>?_) λh1=>?_
 ·obtain rfl:k=0:=by have hq:=h1;omega
  refine aU5 ?_
  refine o_p (Qb rfl rfl rfl QmY (0) om om rfl) rfl (o_q (Qp rfl rfl Qee (h0)) rfl (aU5 ?_))
  refine oCq rfl (λw1 h1=>c313 w1 ra rc l (hs.later h1.nil) hm) (QbB ?_)
  refine sCd rfl (λh2=>?_) λh2=>?_
  ·refine aU5 ?_
   exact rV
  refine aT4 ?_
  refine aU2 ?_
  exact sBk (0+1) om ⟨by decide,λ_=>by assumption⟩
 have hz:=hk2 (by have hq:=h1;omega)
 refine Qh rfl ?_
 refine aU4 ?_
 exact rV (h:=by rw[hz];rfl)
set_option maxHeartbeats 4000000 in
theorem c315(w:World)(a:Option Addr)(cap:Nat)(l:List Rn)(hs:Rw Rn.vals 2 w [] a l)(hm:l.length<=100000)(h0:(Yg l).2=0):CE 315 #[.slice a l.length cap] w [] (λg:List UInt8=>.tuple #[.string (bs g),.int .i64 0]) (λg=>g.length=rnN l) λg=>[]:=by
 have hrg:=Zh h0
 have hl64:=(Qha h0).1
 refine eN1 Tryz.func315 Tryz.ntmps315 ?_
 refine aU9 ?_
 refine o_h (Qg (cs:=[_]) rfl rfl QmY QqR rfl rfl rfl) rfl (λb1 _=>oCq rfl (λw1 h1=>c340 w1 b1 a cap l 1 (h1.rd_blk (Mc:=[]) aPk rfl (by simp)) (hs.later h1.nil) hm) (aU7 ?_))
 refine sCd rfl (λh2=>?_) λh2=>?_
 ·exfalso;exact h2 h0
 refine aU17 ?_
 refine Qs (α:=Nat×(Option Addr×Nat)×List UInt8) [5,6,8,9,10,19,20,21,22,23,24,25,26,27,28,29,30,31,32,33,34,35,36,37,38,39,40,41,42,43,44,45,46,47,48,49,50,51,52,53,54,55,56,57,58,59,60,61] (λy=>[(19,.int .i64 (y.1:Int)),(5,.slice y.2.1.1 y.2.2.length y.2.1.2),(6,.int .i64 (rnK l y.1).2)]) (λy=>HS w [] [.own (.slice y.2.1.1 y.2.2.length y.2.1.2) 5 1 y.2.2.length (y.2.2.map bv)]) (λy=>y.1<=l.length/\y.2.2.length=(rnK l y.1).1) (λy=>l.length-y.1) (0,(none,0),[]) ⟨Nat.zero_le _,rfl⟩ aSx (λw h=>(h.own_nil 5 1).ent aEt) (λ⟨k,A,X⟩hx=>?_)
 dsimp only at hx ⊢
 obtain⟨hk1,hk2⟩:=hx
 refine aU5 ?_
 refine sCd rfl (λh3=>?_) λh3=>?_
 ·have hk:k<l.length:=by have hq:=h3;omega
  have hr9:=Zb (hrg k hk)
  have hb9:=QcM (l:=l) (k:=k) (λi hi=>hrg i om)
  have hz1:=QcS (nth l k).ln
  have hz2:=QcS ((nth l k).st-(rnK l k).2)
  have hst:=Qhx (l:=l) (k:=k)
  refine aU5 ?_
  refine o_p (Qb rfl rfl rfl XZ (k) om om (Rw.some hs om)) rfl (o_q (Qr _ rfl rfl YG rfl (Rw.rd hs hk)) rfl (oAl (λb4 _=>?_) Qef))
  refine aU6 ?_
  refine oCq rfl (λw1 h1=>c341 w1 (nth l k).ln om) (ZH ?_)
  refine oCq rfl (λw1 h1=>Qg3 w1 (nth l k)) (aU2 ?_)
  refine YE (α:=Unit) [10,29,30,31,32,33] (λ_=>[(10,.int .i64 (if(nth l k).st= -1 then 0 else(szN ((nth l k).st-(rnK l k).2):Int)))]) (λ_=>HS w [] [.own (.slice A.1 X.length A.2) 5 1 X.length (X.map bv),.blk b4 352 2 [.int .i64 (nth l k).st,.int .i64 (nth l k).ln]]) (λ_=>True) ?_ ?_
  ·skip
   refine sCd rfl (λh5=>?_) λh5=>?_
   ·have hne:¬(nth l k).st= -1:=by have hq:=h5;simpa using hq
    refine aT5 ?_
    refine oCq rfl (λw1 h1=>c341 w1 ((nth l k).st-(rnK l k).2) om) (aU2 ?_)
    exact QM () trivial (by rw[if_neg hne];exact aSx) (λw h=>h.ent aEt)
   have hye:(nth l k).st= -1:=by have hq:=h5;simpa using hq
   refine aU ?_
   exact QM () trivial (by rw[if_pos hye];exact aSx) (λw h=>h.ent aEt)
  intro _ _
  refine aU4 ?_
  refine o_p (QhF rfl rfl rfl (by decide) 4 rfl) rfl (aU2 ?_)
  refine o_p (Q5 rfl rfl YN QeC) rfl (Qn (show _=bv (by8 _)from Qcf _) (o_h (Qg (cs:=[_]) rfl rfl QN Qao rfl rfl rfl) rfl (λb6 _=>o_h (QZ (n:=X.length) [bv (by8 _)] rfl rfl rfl QN Tryz.underlying226 Qao rfl aPk (Xx aPk) rfl (by intro u hu;simp only[List.mem_cons,List.mem_nil_iff,or_false]at hu;subst hu;rfl) om (by simp only[maxLen];omega)) rfl (λb7 _=>aU3 ?_))))
  refine Ql (L':=[(0,_),(2,_),(3,_),(4,_),(5,_),(6,_),(8,_),(9,_),(10,_),(11,_),(12,_),(13,_),(14,_),(15,_),(17,_),(18,_),(19,_)]) aSx (λ_ h=>h) ?_
  refine aU5 ?_
  refine oCh rfl (λw1 h1=>c343 w1 (nth l k).ln (szN (nth l k).ln) om) (λ⟨gS,XS⟩hXS=>?_)
  dsimp only at hXS ⊢
  refine o_h (QZ (n:=X.length+1) (XS.map bv) rfl rfl rfl QN Tryz.underlying226 Qao rfl aPk (λw hw=>(hw.vl_own (a:=gS.1) aPk).src (HS.refl w [])) (by simp) (QfG XS) om (by simp only[maxLen];omega)) rfl (λb8 _=>aU5 ?_)
  refine oCq rfl (λw1 h1=>Qg3 w1 (nth l k)) (aU2 ?_)
  refine sCd rfl (λh9=>?_) λh9=>?_
  ·have hne:¬(nth l k).st= -1:=by have hq:=h9;simpa using hq
   rw[if_neg hne]at hst
   rw[if_neg hne]
   refine aT7 ?_
   refine aU ?_
   refine oCh rfl (λw1 h1=>c343 w1 ((nth l k).st-(rnK l k).2) (szN ((nth l k).st-(rnK l k).2)) om) (λ⟨gT,XT⟩hXT=>?_)
   dsimp only at hXT ⊢
   refine o_h (QZ (n:=X.length+1+XS.length) (XT.map bv) rfl rfl rfl QN Tryz.underlying226 Qao rfl aPk (λw hw=>(hw.vl_own (a:=gT.1) aPk).src (HS.refl w [])) (by simp) (QfG XT) om (by simp only[maxLen];omega)) rfl (λb10 _=>aU2 ?_)
   refine Ql (L':=[(0,_),(2,_),(3,_),(4,_),(5,_),(6,_),(8,_),(11,_),(12,_),(13,_),(14,_),(15,_),(17,_),(18,_),(19,_)]) aSx (λ_ h=>h) ?_
   refine aT8 ?_
   refine aU2 ?_
   exact Qv (k+1,b10,X++[_]++XS++XT) (by dsimp only;omega) (by dsimp only;rw[hst];simp only[List.length_append,List.length_singleton];exact⟨om,om⟩) (by dsimp only;rw[hst];simp only[List.length_append,List.length_singleton];exact aSx) (λw h=>by dsimp only;simp only[List.length_append,List.length_singleton,List.map_append];exact h.ent aEt)
  have hye:(nth l k).st= -1:=by have hq:=h9;simpa using hq
  rw[if_pos hye]at hst
  refine aT4 ?_
  refine aU2 ?_
  exact Qv (k+1,b8,X++[_]++XS) (by dsimp only;omega) (by dsimp only;rw[hst];simp only[List.length_append,List.length_singleton];exact⟨om,om⟩) (by dsimp only;rw[hst];simp only[List.length_append,List.length_singleton];exact aSx) (λw h=>by dsimp only;simp only[List.length_append,List.length_singleton,List.map_append];exact h.ent aEt)
 obtain rfl:k=l.length:=by have hq:=h3;omega
 have hb9:=QcM (l:=l) (k:=l.length) (λi hi=>hrg i om)
 have hxx:X.map bv++[bv 0]=(X++[0]).map bv:=by simp
 refine Qh rfl ?_
 refine aU3 ?_
 refine o_h (Qg (cs:=[_]) rfl rfl QN Qao rfl rfl rfl) rfl (λb11 _=>o_h (QZ (n:=X.length) [bv 0] rfl rfl rfl QN Tryz.underlying226 Qao rfl aPk (Xx aPk) rfl (by intro u hu;simp only[List.mem_cons,List.mem_nil_iff,or_false]at hu;subst hu;rfl) om (by simp only[maxLen];omega)) rfl (λb12 _=>o_q (Zk rfl rfl Tryz.underlying226 Tryz.underlying9 Tryz.underlying5 aPk (by intro v hv;rw[hxx]at hv;exact Zn _ v hv)) rfl (aU3 ?_)))
 exact Qj (rs:=[.tmp 2,.tmp 3]) rfl (.tmp rfl (.tmp rfl (.nil))) (λw' h'=>⟨X++[0],by rw[hxx,Yo];rfl,by rw[List.length_append,hk2];rfl,h'.ent aEt⟩)
instance:TFd Tryz.prog 114 4 4 4:=⟨by kernel_rfl⟩
instance:TFn Tryz.prog 315:=⟨by kernel_rfl⟩
instance:TFn Tryz.prog 316:=⟨by kernel_rfl⟩
instance:TFd Tryz.prog 114 1 1 9:=⟨by kernel_rfl⟩
instance:TFn Tryz.prog 317:=⟨by kernel_rfl⟩
theorem Yi:QJ Tryz.prog 318=true:=by kernel_rfl
instance:TFd Tryz.prog 114 3 3 3:=⟨by kernel_rfl⟩
instance:TFd Tryz.prog 114 2 2 3:=⟨by kernel_rfl⟩
theorem c316(w:World)(b:Bool):CR 316 #[.bool b] w (.int .i64 (hdN b:Int)):=by
 refine eN1 Tryz.func316 Tryz.ntmps316 ?_
 refine aU9 ?_
 refine sCd rfl (λh1=>?_) λh1=>?_
 ·have hb:b=true:=by have hq:=h1;simpa using hq
  refine aU4 ?_
  exact rV (h:=by unfold hdN;rw[if_pos hb];rfl)
 have hb:¬b=true:=by have hq:=h1;simpa using hq
 refine aU5 ?_
 exact rV (h:=by unfold hdN;rw[if_neg hb];rfl)
theorem c317(w:World)(n:Nat)(hn:n<=1000000):CR 317 #[.int .i64 (n:Int)] w (.int .i64 (al8 n:Int)):=by
 refine eN1 Tryz.func317 Tryz.ntmps317 ?_
 refine aT8 ?_
 refine aT ?_
 refine o_p (Qhj rfl rfl rfl om om om) rfl (aT ?_)
 refine aU2 ?_
 exact rV (h:=by simp only[Qw,al8];congr 2;omega)
theorem QbP(w:World)(b tot cap p c:Nat)(X:List UInt8)(n:Int)(hw:HS w [b] [.blk b 5 tot (X.map bv)] w)(hp:p+c<=X.length)(hx:X.length<=1000000):Calls Tryz.prog 318 #[.slice (some ⟨b,0,none⟩) X.length cap,.int .i64 (p:Int),.int .i64 (c:Int),.int .i64 n] w λen w'=>∃Y:List UInt8,en=.returned (.tuple #[])/\Y.length=X.length/\HS w [b] [.blk b 5 tot (Y.map bv)] w':=by
 refine eW4 Tryz.func318 Tryz.ntmps318 hw ?_
 refine aU6 ?_
 refine Qs (α:=Nat×List UInt8×Int) [3,8,10,11,12,13,14,15,16,17,18,19,20,21,22] (λy=>[(10,.int .i64 (y.1:Int)),(3,.int .i64 y.2.2)]) (λy=>HS w [b] [.blk b 5 tot (y.2.1.map bv)]) (λy=>y.1<=c/\y.2.1.length=X.length) (λy=>c-y.1) (0,X,n) ⟨Nat.zero_le _,rfl⟩ aSx (λw h=>h.ent aEt) (λ⟨k,Y,m⟩hy=>?_)
 dsimp only at hy ⊢
 obtain⟨hk1,hk2⟩:=hy
 refine aU5 ?_
 refine sCd rfl (λh1=>?_) λh1=>?_
 ·have hk:k<c:=by have hq:=h1;omega
  refine Qpy ?_
  refine aU ?_
  refine o_p (Q5 rfl rfl YN QeC) rfl (Qn (show _=bv (by8 m)from Qcf _) (o_p (Qb rfl rfl rfl QN ((p+k)) om om rfl) rfl (ZG (X5 rfl rfl rfl QeE rfl aPt (by rw[List.length_map];show _+1<=_;omega) rfl) (λ_ _=>aU3 ?_))))
  refine o_p (QiS rfl rfl rfl (by decide) 8 rfl) rfl (aT5 ?_)
  refine aU2 ?_
  exact Qv (k+1,Y.set (p+k) (by8 m),m/2^8) (by dsimp only;omega) (by dsimp only;rw[List.length_set];exact⟨om,hk2⟩) aSx (λw h=>by have h2:=HS.blk_to (b:=b) h aPk (show Qc (Y.map bv) (0+(p+k)*1) [bv (by8 m)]=(Y.set (p+k) (by8 m)).map bv from by rw[Nat.zero_add,Qhs (x:=by8 m) om rfl]);exact h2.ent aEt)
 refine Qh rfl ?_
 exact QkB rfl (λw' h'=>⟨Y,rfl,hk2,h'.ent aEt⟩)
theorem Qhi{Z A B:List UInt8}{a b N:Nat}(h:Z.length=N)(h1:a+A.length<=N)(h2:b+B.length<=N):(QbC (QbC Z a A) b B).length=N:=by
  have h3:(QbC Z a A).length=N:=(Qex om).trans h;exact(Qex om).trans h3
theorem QfS(c:Nat):Xa [.int .u8 0] (c*1)=(List.replicate c (0:UInt8)).map bv:=by
  rw[Nat.mul_one,List.map_replicate];exact Qes _ _
set_option maxHeartbeats 8000000 in
theorem c283(w:World)(x:Att)(hs:Rw Rn.vals 2 w [] x.ra x.rl)(hm:x.rl.length<=100000)(h1x:Zl x=0)(h2x:Yw x=0):CE 283 #[.agg #[.int .i64 x.ty,.string (bs x.nm),.int .i64 x.id,.int .i64 x.fl,.bool x.rs,.string (bs x.va),.int .i64 x.fi,.slice x.ra x.rl.length x.rc,.int .i64 x.al,.int .i64 x.sz,.int .i64 x.vd]] w [] (λg:List UInt8=>.string (bs g)) (λg=>g.length=lnN x) λg=>[]:=by
 have hh:=QoY h1x
 have hb:=Ql3 h2x
 have hln:=Ql6 (a:=x)
 have hnm:=hh.2.1
 have hva:x.va.length<=400:=by have h9:=hb;unfold bdN at h9;split at h9;exact h9;rename_i h8;have h7:=h2x;unfold Yw at h7;rw[if_neg h8]at h7;rw[(Qci h7).2.1];exact Nat.zero_le _
 refine eN1 Tryz.func283 Tryz.ntmps283 ?_
 refine aU2 ?_
 refine oBx λb1 _=>?_
 refine Qiq ?_
 refine YE (α:=List UInt8) [3,12,13,14,15,16,17] (λW=>[(3,.string (bs W))]) (λ_=>HS w [] [.blk b1 114 11 [.int .i64 x.ty,.string (bs x.nm),.int .i64 x.id,.int .i64 x.fl,.bool x.rs,.string (bs x.va),.int .i64 x.fi,.slice x.ra x.rl.length x.rc,.int .i64 x.al,.int .i64 x.sz,.int .i64 x.vd]]) (λW=>W.length=bdN x) ?_ ?_
 ·skip
  refine sCd rfl (λh2=>?_) λh2=>?_
  ·have hres:¬x.rs=true:=by have hq:=h2;simpa using hq
   have hr0:(Yg x.rl).2=0:=by have h9:=h2x;unfold Yw at h9;rw[if_neg hres]at h9;exact(Qci h9).2.2.2.1
   refine aU3 ?_
   refine oCh rfl (λw1 h1=>c315 w1 x.ra x.rc x.rl (hs.later h1.nil) hm hr0) (λWR hWR=>aU5 ?_)
   exact QM WR (by rw[hWR];unfold bdN;rw[if_neg hres]) aSx (λw h=>h.ent aEt)
  have hres:x.rs=true:=by have hq:=h2;simpa using hq
  refine aU ?_
  exact QM x.va (by unfold bdN;rw[if_pos hres]) aSx (λw h=>h.ent aEt)
 intro W hW
 refine aU4 ?_
 refine oCq rfl (λw1 h1=>c316 w1 x.rs) (aU7 ?_)
 refine o_p (Qi rfl rfl Tryz.underlying9) rfl (aT ?_)
 refine oCq rfl (λw1 h1=>c317 w1 (hdN x.rs+x.nm.length) om) (Qn (show _=Value.int .i64 ((atN x:Nat):Int)from rfl) (aU6 ?_))
 refine o_p (Qi rfl rfl Tryz.underlying9) rfl (aT ?_)
 refine oCq rfl (λw1 h1=>c317 w1 (atN x+W.length) om) (Qn (show _=Value.int .i64 ((lnN x:Nat):Int)from by rw[hW];rfl) (o_h (QeB (n:=(lnN x)) rfl rfl rfl QN Qao om om) rfl (λb3 _=>Qbg (λw h=>HS.blk_to (b:=b3) h aPk (QfS (lnN x))) ?_)))
 obtain⟨Y0,hY00⟩:∃Y0:List UInt8,List.replicate (lnN x) (0:UInt8)=Y0:=⟨_,rfl⟩
 have hY0:Y0.length=lnN x:=by rw[<-hY00,List.length_replicate]
 rw[hY00]
 refine aU7 ?_
 refine o_h (QH (Cs:=[.blk b3 5 (lnN x*1) (Y0.map bv)]) rfl Yi rfl aPs (λw1 h1 hf=>by have h9:=QbP w1 b3 (lnN x*1) (lnN x) 0 4 Y0 x.ty hf om om;rw[hY0]at h9;exact h9)) rfl (λY1 hY10=>?_)
 have hY1:Y1.length=lnN x:=hY10
 refine aU2 ?_
 refine Ql (L':=[(1,_),(2,_),(3,_),(4,_),(5,_),(6,_)]) aSx (λ_ h=>h) ?_
 refine aU4 ?_
 refine o_h (QH (Cs:=[.blk b3 5 (lnN x*1) (Y1.map bv)]) rfl Yi rfl aPs (λw1 h1 hf=>by have h9:=QbP w1 b3 (lnN x*1) (lnN x) 4 4 Y1 (lnN x:Int) hf om om;rw[hY1]at h9;exact h9)) rfl (λY2 hY20=>?_)
 have hY2:Y2.length=lnN x:=hY20
 refine aU6 ?_
 refine o_p (Qi rfl rfl Tryz.underlying9) rfl (o_h (QH (Cs:=[.blk b3 5 (lnN x*1) (Y2.map bv)]) rfl Yi rfl aPs (λw1 h1 hf=>by have h9:=QbP w1 b3 (lnN x*1) (lnN x) 9 1 Y2 (x.nm.length:Int) hf om om;rw[hY2]at h9;exact h9)) rfl (λY3 hY30=>?_))
 have hY3:Y3.length=lnN x:=hY30
 refine aU5 ?_
 refine o_h (QH (Cs:=[.blk b3 5 (lnN x*1) (Y3.map bv)]) rfl Yi rfl aPs (λw1 h1 hf=>by have h9:=QbP w1 b3 (lnN x*1) (lnN x) 10 2 Y3 (hdN x.rs:Int) hf om om;rw[hY3]at h9;exact h9)) rfl (λY4 hY40=>?_)
 have hY4:Y4.length=lnN x:=hY40
 refine aU6 ?_
 refine o_h (QH (Cs:=[.blk b3 5 (lnN x*1) (Y4.map bv)]) rfl Yi rfl aPs (λw1 h1 hf=>by have h9:=QbP w1 b3 (lnN x*1) (lnN x) 12 2 Y4 x.fl hf om om;rw[hY4]at h9;exact h9)) rfl (λY5 hY50=>?_)
 have hY5:Y5.length=lnN x:=hY50
 refine aU6 ?_
 refine o_h (QH (Cs:=[.blk b3 5 (lnN x*1) (Y5.map bv)]) rfl Yi rfl aPs (λw1 h1 hf=>by have h9:=QbP w1 b3 (lnN x*1) (lnN x) 14 2 Y5 x.id hf om om;rw[hY5]at h9;exact h9)) rfl (λY6 hY60=>?_)
 have hY6:Y6.length=lnN x:=hY60
 refine aU7 ?_
 refine Ql (L':=[(1,_),(2,_),(3,_),(4,_),(5,_),(6,_),(58,_)]) aSx (λ_ h=>h) ?_
 refine YE (α:=List UInt8) [59,60,61,62,63,64,65,66,67,68,69,70,71,72,73,74,75,76,77,78,79,80,81,82,83,84,85,86,87,88,89,90,91,92,93,94] (λ_=>[]) (λZ=>HS w [] [.blk b3 5 (lnN x*1) (Z.map bv),.blk b1 114 11 [.int .i64 x.ty,.string (bs x.nm),.int .i64 x.id,.int .i64 x.fl,.bool x.rs,.string (bs x.va),.int .i64 x.fi,.slice x.ra x.rl.length x.rc,.int .i64 x.al,.int .i64 x.sz,.int .i64 x.vd]]) (λZ=>Z.length=lnN x) ?_ ?_
 ·skip
  refine sCd rfl (λh4=>?_) λh4=>?_
  ·have hres:x.rs=true:=by have hq:=h4;simpa using hq
   refine aU4 ?_
   refine o_p (Qi rfl rfl Tryz.underlying9) rfl (o_h (QH (Cs:=[.blk b3 5 (lnN x*1) (Y6.map bv)]) rfl Yi rfl aPs (λw1 h1 hf=>by have h9:=QbP w1 b3 (lnN x*1) (lnN x) 16 4 Y6 (W.length:Int) hf om om;rw[hY6]at h9;exact h9)) rfl (λY7 hY70=>?_))
   have hY7:Y7.length=lnN x:=hY70
   refine aU4 ?_
   refine o_h (QH (Cs:=[.blk b3 5 (lnN x*1) (Y7.map bv)]) rfl Yi rfl aPs (λw1 h1 hf=>by have h9:=QbP w1 b3 (lnN x*1) (lnN x) 20 4 Y7 (atN x:Int) hf om om;rw[hY7]at h9;exact h9)) rfl (λY8 hY80=>?_)
   have hY8:Y8.length=lnN x:=hY80
   refine aU ?_
   exact QM Y8 hY8 aSx (λw h=>h.ent aEt)
  have hres:¬x.rs=true:=by have hq:=h4;simpa using hq
  have hot:XQ x=0:=by have h9:=h2x;unfold Yw at h9;rw[if_neg hres]at h9;exact h9
  have hr0:=(Qci hot).2.2.2.1
  have hfi9:=(Qci hot).2.2.1
  have hb99:=Qdo hr0
  have h40:hdN x.rs=40:=by unfold hdN;rw[if_neg hres]
  refine aU3 ?_
  refine o_h (QH (Cs:=[.blk b3 5 (lnN x*1) (Y6.map bv)]) rfl Yi rfl aPs (λw1 h1 hf=>by have h9:=QbP w1 b3 (lnN x*1) (lnN x) 8 1 Y6 1 hf om om;rw[hY6]at h9;exact h9)) rfl (λY9 hY90=>?_)
  have hY9:Y9.length=lnN x:=hY90
  refine aU6 ?_
  refine o_h (QH (Cs:=[.blk b3 5 (lnN x*1) (Y9.map bv)]) rfl Yi rfl aPs (λw1 h1 hf=>by have h9:=QbP w1 b3 (lnN x*1) (lnN x) 16 4 Y9 x.fi hf om om;rw[hY9]at h9;exact h9)) rfl (λY10 hY100=>?_)
  have hY10:Y10.length=lnN x:=hY100
  refine aU2 ?_
  refine QA [7] mixed ?_
  refine dP 0 ?_
  refine dFa 1 ?_
  refine dLd 2 [[6,5]] ?_
  refine dLn 3 [[4]] ?_
  refine dQ 4 [[]] rfl (Qd rfl Qim rfl (λw1 h1=>Qp9 w1 x (hs.later h1.nil) hm (Zh hr0))) (dP 5 ?_)
  try refine dWr ?_
  refine dP 6 ?_
  try refine dWr ?_
  refine dH 7 rfl (QH (Cs:=[.blk b3 5 (lnN x*1) (Y10.map bv)]) rfl Yi rfl aPs (λw1 h1 hf=>by have h9:=QbP w1 b3 (lnN x*1) (lnN x) 20 4 Y10 (x.fi+X9 x.rl-1) hf om om;rw[hY10]at h9;exact h9)) (λY11 hY110=>dTu [] ?_)
  have hY11:Y11.length=lnN x:=hY110
  refine dNi ?_
  refine aU4 ?_
  refine o_h (QH (Cs:=[.blk b3 5 (lnN x*1) (Y11.map bv)]) rfl Yi rfl aPs (λw1 h1 hf=>by have h9:=QbP w1 b3 (lnN x*1) (lnN x) 24 2 Y11 (atN x:Int) hf om om;rw[hY11]at h9;exact h9)) rfl (λY12 hY120=>?_)
  have hY12:Y12.length=lnN x:=hY120
  refine aU6 ?_
  refine o_h (QH (Cs:=[.blk b3 5 (lnN x*1) (Y12.map bv)]) rfl Yi rfl aPs (λw1 h1 hf=>by have h9:=QbP w1 b3 (lnN x*1) (lnN x) 28 4 Y12 x.al hf om om;rw[hY12]at h9;exact h9)) rfl (λY13 hY130=>?_)
  have hY13:Y13.length=lnN x:=hY130
  refine aU6 ?_
  refine o_h (QH (Cs:=[.blk b3 5 (lnN x*1) (Y13.map bv)]) rfl Yi rfl aPs (λw1 h1 hf=>by have h9:=QbP w1 b3 (lnN x*1) (lnN x) 32 4 Y13 x.sz hf om om;rw[hY13]at h9;exact h9)) rfl (λY14 hY140=>?_)
  have hY14:Y14.length=lnN x:=hY140
  refine aU ?_
  refine Ql (L':=[(1,_),(2,_),(3,_),(4,_),(5,_),(6,_),(58,_)]) aSx (λ_ h=>h) ?_
  refine aU4 ?_
  refine o_h (QH (Cs:=[.blk b3 5 (lnN x*1) (Y14.map bv)]) rfl Yi rfl aPs (λw1 h1 hf=>by have h9:=QbP w1 b3 (lnN x*1) (lnN x) 36 4 Y14 x.vd hf om om;rw[hY14]at h9;exact h9)) rfl (λY15 hY150=>?_)
  have hY15:Y15.length=lnN x:=hY150
  refine aU ?_
  exact QM Y15 hY15 aSx (λw h=>h.ent aEt)
 intro Z hZ
 refine aU ?_
 refine QA [5] mixed ?_
 refine dP 0 ?_
 refine dP 1 ?_
 refine dV 2 rfl (QG _ _ (hdN x.rs) (lnN x) rfl rfl QN ⟨_,_,rfl,rfl⟩ rfl om om) (dFa 3 ?_)
 refine dLd 4 [[]] ?_
 refine dH 5 rfl (Qdf (b:=b3) (i:=hdN x.rs) rfl rfl (λ_=>by rw[Xw om]<;>(congr 2<;>omega)) rfl QN aPt om om) (λ_ _=>dTu [] ?_)
 refine dNi ?_
 refine aU4 ?_
 refine o_p (QG _ _ (atN x) (lnN x) rfl rfl QN ⟨_,_,rfl,rfl⟩ rfl om om) rfl (aU ?_)
 refine o_h (Qdf (b:=b3) (i:=atN x) rfl rfl (λ_=>by rw[Xw om]<;>(congr 2<;>omega)) rfl QN aPt om (by have h3:(QbC Z (hdN x.rs) x.nm).length=lnN x:=(Qex om).trans hZ;omega)) rfl (λ_ _=>aU4 ?_)
 refine o_q (Ys rfl rfl Tryz.underlying226 Tryz.underlying9 Tryz.underlying5 aPk (by simp only[List.length_map];exact Qhi hZ om om) (Zn _)) rfl (aU2 ?_)
 exact rT rfl rfl (λw' h'=>⟨QbC (QbC Z (hdN x.rs) x.nm) (atN x) W,by rw[Yo];rfl,Qhi hZ om om,h'.ent aEt⟩)
theorem Qp5:QJ Tryz.prog 278=true:=by kernel_rfl
theorem QpR:QJ Tryz.prog 279=true:=by kernel_rfl
instance:TFn Tryz.prog 281:=⟨by kernel_rfl⟩
instance:TFn Tryz.prog 282:=⟨by kernel_rfl⟩
instance:TFn Tryz.prog 283:=⟨by kernel_rfl⟩
instance:TFn Tryz.prog 367:=⟨by kernel_rfl⟩
instance:TFn Tryz.prog 349:=⟨by kernel_rfl⟩
theorem QhO:QJ Tryz.prog 351=true:=by kernel_rfl
instance:TFn Tryz.prog 351:=⟨QhO⟩
theorem Qmy:QJ Tryz.prog 350=true:=by kernel_rfl
instance:TFn Tryz.prog 350:=⟨Qmy⟩
instance:TFn Tryz.prog 366:=⟨by kernel_rfl⟩
theorem QoT(x:Att):QC (if x.ty∈QbU then 0 else 15) (QC (Qec x.nm) (if(0<=x.id/\x.id<=65535)/\(0<=x.fl/\x.fl<=7)then 0 else 2))=Zl x:=by
  unfold Zl QC
  by_cases h1:x.ty∈QbU
  · rw[if_pos h1,if_pos h1,if_pos rfl]
    by_cases h2:Qec x.nm=0
    · rw[if_pos h2,if_pos h2]
    · rw[if_neg h2,if_neg h2];unfold Qec at h2 ⊢;split at h2
      · exact absurd rfl h2
      · rename_i h3;rw[if_neg h3]
  · rw[if_neg h1,if_neg h1];rfl
theorem QoU(n m:Int):n%m=(n.tmod m)%m:=by
  have h:=Int.mul_tdiv_add_tmod n m;have h2:n%m=(m*n.tdiv m+n.tmod m)%m:=by rw[h]
  rw[h2,Int.mul_add_emod_self_left]
theorem Qqg{n m:Int}(hm:0<m)(h:n.tmod m<0):n.tmod m+m=n%m:=by
  have h1:=QoU n m
  have h3: -m<n.tmod m:=by
    have h4:=Int.tmod_lt_of_pos (-n) hm;rw[Int.neg_tmod]at h4;omega
  have h2:(n.tmod m+m)%m=n.tmod m+m:=Int.emod_eq_of_lt om om;rw[Int.add_emod_right]at h2;rw[h1,h2]
theorem Qpi{n m:Int}(hm:0<m)(h:¬n.tmod m<0):n.tmod m=n%m:=by
  rw[QoU n m];exact(Int.emod_eq_of_lt om (Int.tmod_lt_of_pos n hm)).symm
theorem Qk3{m:Int}(h:0<=m/\m<=1000000000000):Value.int .i64 (IntKind.i64.wrap ((-m).tdiv 8))=Value.int .i64 (-(m/8)):=by
  rw[Int.neg_tdiv,Int.tdiv_eq_ediv_of_nonneg h.1];exact Qkt om om
theorem QkK{m:Int}(h:0<=m):(-m).tmod 8= -(m%8):=by rw[Int.neg_tmod,Int.tmod_eq_emod_of_nonneg h]
theorem Qq6{n:Int}(h: -128<=n/\n<=127):szN n=1:=if_pos h
theorem Qq7{n:Int}(h:¬(-128<=n/\n<=127)):szN n=2:=if_neg h
set_option maxHeartbeats 4000000 in
theorem c226(w:World)(x:Att)(hs:Rw Rn.vals 2 w [] x.ra x.rl)(hm:x.rl.length<=100000)(hnm:x.nm.length<=1000000)(hva:x.va.length<=1000000):CR 226 #[.agg #[.int .i64 x.ty,.string (bs x.nm),.int .i64 x.id,.int .i64 x.fl,.bool x.rs,.string (bs x.va),.int .i64 x.fi,.slice x.ra x.rl.length x.rc,.int .i64 x.al,.int .i64 x.sz,.int .i64 x.vd]] w (.int .i64 (Zg x)):=by
 refine eN1 Tryz.func226 Tryz.ntmps226 ?_
 refine aU2 ?_
 refine oBx λb1 _=>?_
 refine aU3 ?_
 refine QA [] mixed ?_
 refine dFa 0 ?_
 refine dLd 1 [] ?_
 refine dQ 2 [] rfl (Qd rfl Qp5 rfl (λw1 h1=>c278 w1 x.ty)) (dQ 3 [] rfl (Qd rfl Xi rfl (λw1 h1=>YW w1 _ _)) (dFa 4 ?_))
 refine dLd 5 [] ?_
 refine dQ 6 [] rfl (Qd rfl QpR rfl (λw1 h1=>c279 w1 x.nm hnm)) (dFa 7 ?_)
 refine dLd 8 [] ?_
 refine dQ 9 [] rfl (Qd rfl QfP rfl (λw1 h1=>Qj1 w1 _ _ _)) (dP 10 ?_)
 apply Xl 14
 ·exact rfl
 ·intro hg2
  have hs3:=hg2;try simp only[Bool.and_eq_true,decide_eq_true_eq]at hs3
  refine dFo 11 14 hg2 ?_
  refine dQo 12 14 [] hg2 rfl rfl rfl (Qan rfl rfl ZI aPk rfl) ?_
  refine dQo 13 14 [] hg2 rfl rfl rfl (Qd rfl QfP rfl (λw1 h1=>Qj1 w1 _ _ _)) ?_
  refine dV 14 rfl (Xf rfl rfl hg2 rfl) ?_
  refine Qu (show _=Value.bool (decide ((0<=x.id/\x.id<=65535)/\(0<=x.fl/\x.fl<=7)))from by congr 1;simp_all<;>omega) (dQ 15 [] rfl (Qd rfl Xi rfl (λw1 h1=>YW w1 _ _)) (dH 16 rfl (Qg (cs:=[_,_,_]) rfl rfl Xp YC rfl rfl rfl) (λb4 _=>dBa ?_)))
  refine dQ 17 [] rfl (Qd rfl Qai rfl (λw1 h1=>QfU h1 aPk (by rfl) (by rfl) (by decide))) (Qu (show _=Value.int .i64 (Zl x)from by rw[Qbw,<-QoT];simp only[cond_eq_ite,decide_eq_true_eq]) (dP 18 ?_))
  refine dNi ?_
  refine aU6 ?_
  refine sCd rfl (λh5=>?_) λh5=>?_
  ·have hne:¬Zl x=0:=h5
   have hE:Zg x=Zl x:=if_neg hne
   refine aU5 ?_
   exact rV (h:=by rw[hE];rfl)
  have h1x:Zl x=0:=by have hq:=h5;simpa using hq
  refine aU7 ?_
  refine Ql (L':=[(1,_),(2,_),(3,_),(26,_)]) aSx (λ_ h=>h) ?_
  refine YE (α:=Unit) [3,27,28,29,30] (λ_=>[(3,.int .i64 (Yw x))]) (λ_=>HS w [] [.blk b1 114 11 [.int .i64 x.ty,.string (bs x.nm),.int .i64 x.id,.int .i64 x.fl,.bool x.rs,.string (bs x.va),.int .i64 x.fi,.slice x.ra x.rl.length x.rc,.int .i64 x.al,.int .i64 x.sz,.int .i64 x.vd]]) (λ_=>True) ?_ ?_
  ·skip
   refine sCd rfl (λh6=>?_) λh6=>?_
   ·have hbd:Yw x=Qb0 x:=if_pos (by have hq:=h6;simpa using hq)
    refine aU2 ?_
    refine oCq rfl (λw1 h1=>c281 w1 x om) (aU2 ?_)
    exact QM () trivial (by rw[hbd];exact aSx) (λw h=>h.ent aEt)
   have hbd:Yw x=XQ x:=if_neg (by have hq:=h6;simpa using hq)
   refine aU2 ?_
   refine oCq rfl (λw1 h1=>c282 w1 x (hs.later h1.nil) hm) (aU2 ?_)
   exact QM () trivial (by rw[hbd];exact aSx) (λw h=>h.ent aEt)
  intro _ _
  refine aU6 ?_
  refine sCd rfl (λh7=>?_) λh7=>?_
  ·have hne:¬Yw x=0:=h7
   have hE:Zg x=Yw x:=by unfold Zg;rw[if_pos h1x,if_neg hne]
   refine aU5 ?_
   exact rV (h:=by rw[hE];rfl)
  have h2x:Yw x=0:=by have hq:=h7;simpa using hq
  have hE:Zg x=if lnN x<=440 then 0 else 16:=by unfold Zg;rw[if_pos h1x,if_pos h2x]
  refine aU4 ?_
  refine oCh rfl (λw1 h1=>c283 w1 x (hs.later h1.nil) hm h1x h2x) (λgE hgE=>o_p (Qi rfl rfl Tryz.underlying9) rfl (aU ?_))
  refine oCq rfl (λw1 h1=>YW w1 _ _) (aU2 ?_)
  exact rV (h:=by rw[hE];simp only[Qw,cond_eq_ite,decide_eq_true_eq];rw[hgE];congr 1;by_cases h9:lnN x<=440;(rw[if_pos h9,if_pos om]);(rw[if_neg h9,if_neg om]))
 intro hg8
 have hs9:=hg8;try simp only[Bool.and_eq_false_iff,decide_eq_false_iff_not]at hs9
 refine dOf 11 14 hg8 ?_
 refine dOf 12 14 hg8 ?_
 refine dOf 13 14 hg8 ?_
 refine dV 14 rfl (Xk rfl rfl hg8 rfl) ?_
 refine Qu (show _=Value.bool (decide ((0<=x.id/\x.id<=65535)/\(0<=x.fl/\x.fl<=7)))from by congr 1;simp_all<;>omega) (dQ 15 [] rfl (Qd rfl Xi rfl (λw1 h1=>YW w1 _ _)) (dH 16 rfl (Qg (cs:=[_,_,_]) rfl rfl Xp YC rfl rfl rfl) (λb10 _=>dBa ?_)))
 refine dQ 17 [] rfl (Qd rfl Qai rfl (λw1 h1=>QfU h1 aPk (by rfl) (by rfl) (by decide))) (Qu (show _=Value.int .i64 (Zl x)from by rw[Qbw,<-QoT];simp only[cond_eq_ite,decide_eq_true_eq]) (dP 18 ?_))
 refine dNi ?_
 refine aU6 ?_
 refine sCd rfl (λh11=>?_) λh11=>?_
 ·have hne:¬Zl x=0:=h11
  have hE:Zg x=Zl x:=if_neg hne
  refine aU5 ?_
  exact rV (h:=by rw[hE];rfl)
 have h1x:Zl x=0:=by have hq:=h11;simpa using hq
 refine aU7 ?_
 refine Ql (L':=[(1,_),(2,_),(3,_),(26,_)]) aSx (λ_ h=>h) ?_
 refine YE (α:=Unit) [3,27,28,29,30] (λ_=>[(3,.int .i64 (Yw x))]) (λ_=>HS w [] [.blk b1 114 11 [.int .i64 x.ty,.string (bs x.nm),.int .i64 x.id,.int .i64 x.fl,.bool x.rs,.string (bs x.va),.int .i64 x.fi,.slice x.ra x.rl.length x.rc,.int .i64 x.al,.int .i64 x.sz,.int .i64 x.vd]]) (λ_=>True) ?_ ?_
 ·skip
  refine sCd rfl (λh12=>?_) λh12=>?_
  ·have hbd:Yw x=Qb0 x:=if_pos (by have hq:=h12;simpa using hq)
   refine aU2 ?_
   refine oCq rfl (λw1 h1=>c281 w1 x om) (aU2 ?_)
   exact QM () trivial (by rw[hbd];exact aSx) (λw h=>h.ent aEt)
  have hbd:Yw x=XQ x:=if_neg (by have hq:=h12;simpa using hq)
  refine aU2 ?_
  refine oCq rfl (λw1 h1=>c282 w1 x (hs.later h1.nil) hm) (aU2 ?_)
  exact QM () trivial (by rw[hbd];exact aSx) (λw h=>h.ent aEt)
 intro _ _
 refine aU6 ?_
 refine sCd rfl (λh13=>?_) λh13=>?_
 ·have hne:¬Yw x=0:=h13
  have hE:Zg x=Yw x:=by unfold Zg;rw[if_pos h1x,if_neg hne]
  refine aU5 ?_
  exact rV (h:=by rw[hE];rfl)
 have h2x:Yw x=0:=by have hq:=h13;simpa using hq
 have hE:Zg x=if lnN x<=440 then 0 else 16:=by unfold Zg;rw[if_pos h1x,if_pos h2x]
 refine aU4 ?_
 refine oCh rfl (λw1 h1=>c283 w1 x (hs.later h1.nil) hm h1x h2x) (λgE hgE=>o_p (Qi rfl rfl Tryz.underlying9) rfl (aU ?_))
 refine oCq rfl (λw1 h1=>YW w1 _ _) (aU2 ?_)
 exact rV (h:=by rw[hE];simp only[Qw,cond_eq_ite,decide_eq_true_eq];rw[hgE];congr 1;by_cases h9:lnN x<=440;(rw[if_pos h9,if_pos om]);(rw[if_neg h9,if_neg om]))
theorem QpZ(w:World)(n m:Int)(hn: -100000<=n/\n<=1000000000000)(hm:0<m/\m<=1000000000000):CR 350 #[.int .i64 n,.int .i64 m] w (.int .i64 (n%m)):=by
 have hb1:=Int.tmod_lt_of_pos n hm.1
 have hb2: -m<n.tmod m:=by have h4:=Int.tmod_lt_of_pos (-n) hm.1;rw[Int.neg_tmod]at h4;omega
 refine eN2 Tryz.func350 Tryz.ntmps350 ?_
 refine aU8 ?_
 refine o_p (Qji rfl rfl rfl om) rfl (aU8 ?_)
 refine sCd rfl (λh1=>?_) λh1=>?_
 ·have hz:=Qqg hm.1 h1
  refine aT4 ?_
  refine aU7 ?_
  exact rV (h:=by rw[<-hz];rfl)
 have hz:=Qpi hm.1 h1
 refine aU6 ?_
 exact rV (h:=by rw[<-hz];rfl)
theorem QnW(w:World)(c:Nat)(hc:c<=100000):CR 351 #[.int .i64 (c:Int)] w (.string (bs (List.replicate c 0))):=by
 refine eN1 Tryz.func351 Tryz.ntmps351 ?_
 refine aU7 ?_
 refine o_p (Qit rfl rfl rfl ) rfl (o_p (Qls rfl rfl rfl ) rfl ?_)
 refine Qn (show _=Value.int .i64 (c:Int)from congrArg (Value.int .i64) (by split<;>split<;>omega)) (o_h (QeB (n:=c) rfl rfl rfl QN Qao om om) rfl (λb1 _=>o_q (Ys rfl rfl Tryz.underlying226 Tryz.underlying9 Tryz.underlying5 aPk (by simp[Qt]) (by intro v hv;rw[QfS]at hv;exact Zn _ v hv)) rfl (aU2 ?_)))
 exact rV (h:=by rw[QfS,Yo];rfl)
theorem c367(w:World)(m:Int)(hm:0<=m/\m<=1000000000000):CR 367 #[.int .i64 (-m),.int .i64 8] w (.int .i64 (-((m+7)/8))):=by
 refine eN2 Tryz.func367 Tryz.ntmps367 ?_
 refine aU8 ?_
 refine o_p (QkO rfl rfl rfl (by decide)) rfl (Qn (Qk3 hm) (aU7 ?_))
 refine o_p (Qji rfl rfl rfl (by decide)) rfl (Qn (show _=Value.int .i64 (-(m%8))from by rw[QkK hm.1]) (aU2 ?_))
 refine sCd rfl (λh1=>?_) λh1=>?_
 ·refine aT3 ?_
  refine aU7 ?_
  exact rV (h:=by simp only[Qw];congr 2;omega)
 refine aU6 ?_
 exact rV (h:=by simp only[Qw];congr 2;omega)
theorem Qp7(w:World)(m:Int)(hm:0<=m/\m<=1000000000000):CR 349 #[.int .i64 m,.int .i64 8] w (.int .i64 ((m+7)/8)):=by
 refine eN2 Tryz.func349 Tryz.ntmps349 ?_
 refine aT8 ?_
 refine Qn (show _=Value.int .i64 (-m)from by rw[Int.zero_sub]) (aU ?_)
 refine oCq rfl (λw1 h1=>c367 w1 m hm) (aT ?_)
 refine Qn (show _=Value.int .i64 ((m+7)/8)from by congr 1;omega) (aU2 ?_)
 exact rV
theorem c352(w:World)(s:List UInt8)(hm:s.length<=100000):CR 352 #[.string (bs s)] w (.string (bs (s++List.replicate (al8 s.length-s.length) 0))):=by
 have hal:=QfX s.length
 refine eN1 Tryz.func352 Tryz.ntmps352 ?_
 refine aU8 ?_
 refine o_p (Qi rfl rfl Tryz.underlying9) rfl (oCq rfl (λw1 h1=>Qp7 w1 (s.length:Int) om) (aT ?_))
 refine aU ?_
 refine o_p (Qi rfl rfl Tryz.underlying9) rfl (aT ?_)
 refine Qn (show _=Value.int .i64 ((al8 s.length-s.length:Nat):Int)from by unfold al8 at hal ⊢;congr 1;omega) (oCq rfl (λw1 h1=>QnW w1 (al8 s.length-s.length) om) (o_p (Qk rfl rfl rfl (by(try simp only[List.length_append,List.length_cons,List.length_nil,List.length_replicate,List.length_take,List.length_drop,List.length_replicate]);omega)) rfl (aU2 ?_)))
 exact rV
theorem c366(w:World)(n:Int)(hn: -32768<=n/\n<=32767):CE 366 #[.int .i64 n] w [] (λg:List UInt8=>.string (bs g)) (λg=>g.length=szN n) λg=>[]:=by
 refine eN1 Tryz.func366 Tryz.ntmps366 ?_
 refine aU8 ?_
 refine oCq rfl (λw1 h1=>c27 w1 _ _ _) (aU ?_)
 refine sCd rfl (λh1=>?_) λh1=>?_
 ·have hz:=Qq6 (n:=n) (by have hq:=h1;first|exact hq|omega|(simp at hq;omega))
  refine aU3 ?_
  refine oCq rfl (λw1 h1=>QpZ w1 n 256 om om) (oCq rfl (λw1 h1=>Qat w1 (n%256) 1 om (by decide)) (aU2 ?_))
  exact rT rfl rfl (λw' h'=>⟨Q7 1 (n%256),rfl,(Qm _ _).trans hz.symm,h'.ent aEt⟩)
 have hz:=Qq7 (n:=n) (by have hq:=h1;first|exact hq|omega|(simp at hq;omega))
 refine aU4 ?_
 refine oCq rfl (λw1 h1=>QpZ w1 n 65536 om om) (oCq rfl (λw1 h1=>Qat w1 (n%65536) 2 om (by decide)) (aU2 ?_))
 exact rT rfl rfl (λw' h'=>⟨Q7 2 (n%65536),rfl,(Qm _ _).trans hz.symm,h'.ent aEt⟩)
set_option maxHeartbeats 4000000 in
theorem c348(w:World)(a:Option Addr)(cap:Nat)(l:List Rn)(hs:Rw Rn.vals 2 w [] a l)(hm:l.length<=100000)(h0:(Yg l).2=0):CE 348 #[.slice a l.length cap] w [] (λg:List UInt8=>.string (bs g)) (λg=>g.length=rnN l) λg=>[]:=by
 have hrg:=Zh h0
 have hl64:=(Qha h0).1
 refine eN1 Tryz.func348 Tryz.ntmps348 ?_
 refine Qiq ?_
 refine Qs (α:=Nat×List UInt8) [3,4,5,6,7,8,9,10,11,12,13,14,15,16,17,18,19,20,21,22,23,24,25,26,27,28,29,30,31,32,33,34,35,36,37,38,39,40,41,42,43,44,45,46,47,48,49,50,51,52,53,54,55,56,57,58] (λy=>[(5,.int .i64 (y.1:Int)),(3,.string (bs y.2)),(4,.int .i64 (rnK l y.1).2)]) (λ_=>HS w [] []) (λy=>y.1<=l.length/\y.2.length=(rnK l y.1).1) (λy=>l.length-y.1) (0,[]) ⟨Nat.zero_le _,rfl⟩ aSx (λw h=>h.ent aEt) (λ⟨k,X⟩hx=>?_)
 dsimp only at hx ⊢
 obtain⟨hk1,hk2⟩:=hx
 refine aU8 ?_
 refine sCd rfl (λh1=>?_) λh1=>?_
 ·have hk:k<l.length:=by have hq:=h1;omega
  have hr9:=Zb (hrg k hk)
  have hb9:=QcM (l:=l) (k:=k) (λi hi=>hrg i om)
  have hz1:=QcS (nth l k).ln
  have hz2:=QcS ((nth l k).st-(rnK l k).2)
  have hst:=Qhx (l:=l) (k:=k)
  refine aU7 ?_
  refine o_p (Qb rfl rfl rfl XZ (k) om om (Rw.some hs om)) rfl (aU ?_)
  refine o_q (Qp rfl rfl ZI ((hs.rdj 1 hk rfl))) rfl (oCh rfl (λw1 h1=>c366 w1 (nth l k).ln om) (λXS hXS=>?_))
  try dsimp only at hXS ⊢
  refine aU7 ?_
  refine o_p (Qb rfl rfl rfl XZ (k) om om (Rw.some hs om)) rfl (aU ?_)
  refine o_q (Qp rfl rfl ZI ((hs.rdj 0 hk rfl))) rfl (aU2 ?_)
  refine sCd rfl (λh2=>?_) λh2=>?_
  ·have hye:(nth l k).st= -1:=h2
   rw[if_pos hye]at hst
   refine aU4 ?_
   refine o_p (Qi rfl rfl Tryz.underlying9) rfl (oCq rfl (λw1 h1=>Qat w1 (XS.length:Int) 1 om (by decide)) (o_p (Qk rfl rfl rfl (by(try simp only[List.length_append,List.length_cons,List.length_nil,List.length_replicate,List.length_take,List.length_drop,Qm,List.length_replicate]);omega)) rfl (aU ?_)))
   refine o_p (Qk rfl rfl rfl (by(try simp only[List.length_append,List.length_cons,List.length_nil,List.length_replicate,List.length_take,List.length_drop,Qm,List.length_replicate]);omega)) rfl (aU2 ?_)
   refine Qh rfl ?_
   refine aT3 ?_
   refine aU2 ?_
   exact sBk (k+1,X++Q7 1 (XS.length:Int)++XS) (by dsimp only;omega) (by dsimp only;rw[hst];simp only[List.length_append,Qm];exact⟨om,om⟩) (by dsimp only;rw[hst];exact aSx)
  have hne:¬(nth l k).st= -1:=h2
  rw[if_neg hne]at hst
  refine aU5 ?_
  refine o_p (Qb rfl rfl rfl XZ (k) om om (Rw.some hs om)) rfl (aU ?_)
  refine o_q (Qp rfl rfl ZI ((hs.rdj 0 hk rfl))) rfl (aT2 ?_)
  refine oCh rfl (λw1 h1=>c366 w1 ((nth l k).st-(rnK l k).2) om) (λXT hXT=>?_)
  try dsimp only at hXT ⊢
  refine aU3 ?_
  refine Ql (L':=[(0,_),(2,_),(3,_),(4,_),(5,_),(6,_),(7,_)]) aSx (λ_ h=>h) ?_
  refine aU3 ?_
  refine o_p (Qb rfl rfl rfl XZ (k) om om (Rw.some hs om)) rfl (aU ?_)
  refine o_q (Qp rfl rfl ZI ((hs.rdj 0 hk rfl))) rfl (aU5 ?_)
  refine o_p (Qi rfl rfl Tryz.underlying9) rfl (aU ?_)
  refine o_p (Qi rfl rfl Tryz.underlying9) rfl (aT ?_)
  refine aT ?_
  refine oCq rfl (λw1 h1=>Qat w1 ((XS.length:Int)+16*(XT.length:Int)) 1 om (by decide)) (o_p (Qk rfl rfl rfl (by(try simp only[List.length_append,List.length_cons,List.length_nil,List.length_replicate,List.length_take,List.length_drop,Qm,List.length_replicate]);omega)) rfl (aU ?_))
  refine o_p (Qk rfl rfl rfl (by(try simp only[List.length_append,List.length_cons,List.length_nil,List.length_replicate,List.length_take,List.length_drop,Qm,List.length_replicate]);omega)) rfl (aU ?_)
  refine o_p (Qk rfl rfl rfl (by(try simp only[List.length_append,List.length_cons,List.length_nil,List.length_replicate,List.length_take,List.length_drop,Qm,List.length_replicate]);omega)) rfl (aT6 ?_)
  refine aU2 ?_
  exact sBk (k+1,X++Q7 1 ((XS.length:Int)+16*(XT.length:Int))++XS++XT) (by dsimp only;omega) (by dsimp only;rw[hst];simp only[List.length_append,Qm];exact⟨om,om⟩) (by dsimp only;rw[hst];exact aSx)
 obtain rfl:k=l.length:=by have hq:=h1;omega
 have hb9:=QcM (l:=l) (k:=l.length) (λi hi=>hrg i om)
 refine Qh rfl ?_
 refine aU3 ?_
 refine oCq rfl (λw1 h1=>QnW w1 1 (by decide)) (o_p (Qk rfl rfl rfl (by(try simp only[List.length_append,List.length_cons,List.length_nil,List.length_replicate,List.length_take,List.length_drop,Qm,List.length_replicate]);omega)) rfl (aU2 ?_))
 exact rT rfl rfl (λw' h'=>⟨X++List.replicate 1 0,rfl,by rw[List.length_append,hk2];rfl,h'.ent aEt⟩)
instance:TFn Tryz.prog 348:=⟨by kernel_rfl⟩
theorem QqU:QJ Tryz.prog 352=true:=by kernel_rfl
instance:TFn Tryz.prog 319:=⟨by kernel_rfl⟩
instance:TFn Tryz.prog 320:=⟨by kernel_rfl⟩
instance:TFn Tryz.prog 321:=⟨by kernel_rfl⟩
instance:TFn Tryz.prog 322:=⟨by kernel_rfl⟩
instance:TFn Tryz.prog 323:=⟨by kernel_rfl⟩
theorem Qnk{n:Int}(h:n∈QbU):16<=n/\n<=192:=by
  simp only[QbU,List.mem_cons,List.mem_nil_iff,or_false]at h;omega
theorem Qrc{n:Nat}(h:8<=n):8+al8 (n-8)=al8 n:=by unfold al8;omega
theorem Qq1(x:Att):al8 (atN x)=atN x:=by unfold atN al8;omega
set_option maxHeartbeats 8000000 in
theorem c323(w:World)(x:Att)(hs:Rw Rn.vals 2 w [] x.ra x.rl)(hm:x.rl.length<=100000)(h1x:Zl x=0)(h2x:Yw x=0):CE 323 #[.agg #[.int .i64 x.ty,.string (bs x.nm),.int .i64 x.id,.int .i64 x.fl,.bool x.rs,.string (bs x.va),.int .i64 x.fi,.slice x.ra x.rl.length x.rc,.int .i64 x.al,.int .i64 x.sz,.int .i64 x.vd]] w [] (λg:List UInt8=>.string (bs g)) (λg=>g.length=lnN x) λg=>[]:=by
 have hh:=QoY h1x
 have hty:=Qnk hh.1
 have hb:=Ql3 h2x
 have hln:=Ql6 (a:=x)
 have hnm:=hh.2.1
 have hid:=hh.2.2.1
 have hfl:=hh.2.2.2
 have h8a:=Qq1 x
 have hm9:=Int.emod_nonneg (x.fi+X9 x.rl-1) (show(4294967296:Int)≠0 by decide)
 have hm8:=Int.emod_lt_of_pos (x.fi+X9 x.rl-1) (show(0:Int)<4294967296 by decide)
 refine eN1 Tryz.func323 Tryz.ntmps323 ?_
 refine aU2 ?_
 refine oBx λb1 _=>?_
 refine aU3 ?_
 refine QA [] mixed ?_
 refine dFa 0 ?_
 refine dLd 1 [] ?_
 refine dP 2 ?_
 refine dP 3 ?_
 refine dNi ?_
 refine aU7 ?_
 refine YE (α:=List UInt8) [3,4,14,15,16] (λW=>[(3,.int .i64 (hdN x.rs:Int)),(4,.string (bs W))]) (λ_=>HS w [] [.blk b1 114 11 [.int .i64 x.ty,.string (bs x.nm),.int .i64 x.id,.int .i64 x.fl,.bool x.rs,.string (bs x.va),.int .i64 x.fi,.slice x.ra x.rl.length x.rc,.int .i64 x.al,.int .i64 x.sz,.int .i64 x.vd]]) (λW=>W.length=bdN x) ?_ ?_
 ·skip
  refine sCd rfl (λh2=>?_) λh2=>?_
  ·have hres:¬x.rs=true:=by have hq:=h2;simpa using hq
   have h40:hdN x.rs=40:=by unfold hdN;rw[if_neg hres]
   have hr0:(Yg x.rl).2=0:=by have h9:=h2x;unfold Yw at h9;rw[if_neg hres]at h9;exact(Qci h9).2.2.2.1
   refine aU3 ?_
   refine oCh rfl (λw1 h1=>c348 w1 x.ra x.rc x.rl (hs.later h1.nil) hm hr0) (λWR hWR=>aU3 ?_)
   exact QM WR (by rw[hWR];unfold bdN;rw[if_neg hres]) (by rw[h40];exact aSx) (λw h=>h.ent aEt)
  have hres:x.rs=true:=by have hq:=h2;simpa using hq
  have h24:hdN x.rs=24:=by unfold hdN;rw[if_pos hres]
  refine aU ?_
  exact QM x.va (by unfold bdN;rw[if_pos hres]) (by rw[h24];exact aSx) (λw h=>h.ent aEt)
 intro W hW
 refine aU5 ?_
 refine o_p (Qi rfl rfl Tryz.underlying9) rfl (aT ?_)
 refine oCq rfl (λw1 h1=>Qp7 w1 ((hdN x.rs:Int)+(x.nm.length:Int)) om) (aT ?_)
 refine Qn (show _=Value.int .i64 ((atN x:Nat):Int)from by unfold atN al8;congr 1;omega) (aU3 ?_)
 refine QA [] mixed ?_
 refine dFa 0 ?_
 refine dLd 1 [] ?_
 refine dP 2 ?_
 refine dQ 3 [] rfl (Qd rfl Qpj rfl (λw1 h1=>c219 w1 (!x.rs))) ?_
 refine dQ 4 [] rfl (Qd rfl Za rfl (λw1 h1=>Qat w1 (if(!x.rs)=true then 1 else 0) 1 (by split<;>omega) (by decide))) (dFa 5 ?_)
 refine dLd 6 [] ?_
 refine dV 7 rfl (Qi rfl rfl Tryz.underlying9) (dQ 8 [] rfl (Qd rfl Za rfl (λw1 h1=>Qat w1 (x.nm.length:Int) 1 om (by decide))) (dV 9 rfl (Qk rfl rfl rfl (by(try simp only[List.length_append,List.length_cons,List.length_nil,List.length_replicate,List.length_take,List.length_drop,Qm,List.length_replicate]);omega)) (dP 10 ?_)))
 refine dQ 11 [] rfl (Qd rfl Za rfl (λw1 h1=>Qat w1 (hdN x.rs:Int) 2 om (by decide))) (dV 12 rfl (Qk rfl rfl rfl (by(try simp only[List.length_append,List.length_cons,List.length_nil,List.length_replicate,List.length_take,List.length_drop,Qm,List.length_replicate]);omega)) (dFa 13 ?_))
 refine dLd 14 [] ?_
 refine dQ 15 [] rfl (Qd rfl Za rfl (λw1 h1=>Qat w1 x.fl 2 om (by decide))) (dV 16 rfl (Qk rfl rfl rfl (by(try simp only[List.length_append,List.length_cons,List.length_nil,List.length_replicate,List.length_take,List.length_drop,Qm,List.length_replicate]);omega)) (dFa 17 ?_))
 refine dLd 18 [] ?_
 refine dQ 19 [] rfl (Qd rfl Za rfl (λw1 h1=>Qat w1 x.id 2 om (by decide))) (dV 20 rfl (Qk rfl rfl rfl (by(try simp only[List.length_append,List.length_cons,List.length_nil,List.length_replicate,List.length_take,List.length_drop,Qm,List.length_replicate]);omega)) (dP 21 ?_))
 refine dNi ?_
 refine aU2 ?_
 refine Ql (L':=[(1,_),(2,_),(3,_),(4,_),(5,_),(6,_)]) aSx (λ_ h=>h) ?_
 refine aU4 ?_
 refine YE (α:=List UInt8) [6,7,47,48,49,50,51,52,53,54,55,56,57,58,59,60,61,62,63,64,65,66,67,68,69,70,71,72,73,74,75,76,77,78,79,80,81,82,83,84,85,86,87,88] (λS=>[(6,.string (bs S))]) (λ_=>HS w [] [.blk b1 114 11 [.int .i64 x.ty,.string (bs x.nm),.int .i64 x.id,.int .i64 x.fl,.bool x.rs,.string (bs x.va),.int .i64 x.fi,.slice x.ra x.rl.length x.rc,.int .i64 x.al,.int .i64 x.sz,.int .i64 x.vd]]) (λS=>S.length+8=hdN x.rs) ?_ ?_
 ·skip
  refine sCd rfl (λh3=>?_) λh3=>?_
  ·have hres:x.rs=true:=by have hq:=h3;simpa using hq
   have h24:hdN x.rs=24:=by unfold hdN;rw[if_pos hres]
   have hva:x.va.length<=400:=by have h9:=hb;unfold bdN at h9;rw[if_pos hres]at h9;exact h9
   refine aU4 ?_
   refine o_p (Qi rfl rfl Tryz.underlying9) rfl (oCq rfl (λw1 h1=>Qat w1 (x.va.length:Int) 4 om (by decide)) (o_p (Qk rfl rfl rfl (by(try simp only[List.length_append,List.length_cons,List.length_nil,List.length_replicate,List.length_take,List.length_drop,Qm,List.length_replicate]);omega)) rfl (aU ?_)))
   refine oCq rfl (λw1 h1=>Qat w1 (atN x:Int) 4 om (by decide)) (o_p (Qk rfl rfl rfl (by(try simp only[List.length_append,List.length_cons,List.length_nil,List.length_replicate,List.length_take,List.length_drop,Qm,List.length_replicate]);omega)) rfl (aU2 ?_))
   exact QM (Q7 1 (if(!x.rs)=true then 1 else 0)++Q7 1 (x.nm.length:Int)++Q7 2 (hdN x.rs:Int)++Q7 2 x.fl++Q7 2 x.id++Q7 4 (x.va.length:Int)++Q7 4 (atN x:Int)) (by simp only[List.length_append,Qm];omega) aSx (λw h=>h.ent aEt)
  have hres:¬x.rs=true:=by have hq:=h3;simpa using hq
  have hot:XQ x=0:=by have h9:=h2x;unfold Yw at h9;rw[if_neg hres]at h9;exact h9
  have hr0:=(Qci hot).2.2.2.1
  have hfi9:=(Qci hot).2.2.1
  have hsz9:=(Qci hot).2.2.2.2.2
  have hb99:=Qdo hr0
  have h40:hdN x.rs=40:=by unfold hdN;rw[if_neg hres]
  refine aU ?_
  refine QA [] mixed ?_
  refine dFa 0 ?_
  refine dLd 1 [] ?_
  refine dFa 2 ?_
  refine dLd 3 [] ?_
  refine dQ 4 [] rfl (Qd rfl Qh2 rfl (λw1 h1=>QpS w1 x.ra x.rc x.rl (hs.later h1.nil) hm (Zh hr0))) (dP 5 ?_)
  try refine dWr ?_
  refine dP 6 ?_
  try refine dWr ?_
  refine dQ 7 [] rfl (Qd rfl Qmy rfl (λw1 h1=>QpZ w1 (x.fi+X9 x.rl-1) 4294967296 om (by decide))) (dP 8 ?_)
  refine dNi ?_
  refine QA [] mixed ?_
  refine dP 0 ?_
  refine dFa 1 ?_
  refine dLd 2 [] ?_
  refine dQ 3 [] rfl (Qd rfl Za rfl (λw1 h1=>Qat w1 x.fi 4 om (by decide))) (dV 4 rfl (Qk rfl rfl rfl (by(try simp only[List.length_append,List.length_cons,List.length_nil,List.length_replicate,List.length_take,List.length_drop,Qm,List.length_replicate]);omega)) (dP 5 ?_))
  refine dQ 6 [] rfl (Qd rfl Za rfl (λw1 h1=>Qat w1 ((x.fi+X9 x.rl-1)%4294967296) 4 om (by decide))) (dV 7 rfl (Qk rfl rfl rfl (by(try simp only[List.length_append,List.length_cons,List.length_nil,List.length_replicate,List.length_take,List.length_drop,Qm,List.length_replicate]);omega)) (dP 8 ?_))
  refine dQ 9 [] rfl (Qd rfl Za rfl (λw1 h1=>Qat w1 (atN x:Int) 2 om (by decide))) (dV 10 rfl (Qk rfl rfl rfl (by(try simp only[List.length_append,List.length_cons,List.length_nil,List.length_replicate,List.length_take,List.length_drop,Qm,List.length_replicate]);omega)) (dQ 11 [] rfl (Qd rfl QhO rfl (λw1 h1=>QnW w1 2 (by decide))) (dV 12 rfl (Qk rfl rfl rfl (by(try simp only[List.length_append,List.length_cons,List.length_nil,List.length_replicate,List.length_take,List.length_drop,Qm,List.length_replicate]);omega)) (dFa 13 ?_))))
  refine dLd 14 [] ?_
  refine dQ 15 [] rfl (Qd rfl Za rfl (λw1 h1=>Qat w1 x.al 4 om (by decide))) (dV 16 rfl (Qk rfl rfl rfl (by(try simp only[List.length_append,List.length_cons,List.length_nil,List.length_replicate,List.length_take,List.length_drop,Qm,List.length_replicate]);omega)) (dFa 17 ?_))
  refine dLd 18 [] ?_
  refine dQ 19 [] rfl (Qd rfl Za rfl (λw1 h1=>Qat w1 x.sz 4 om (by decide))) (dV 20 rfl (Qk rfl rfl rfl (by(try simp only[List.length_append,List.length_cons,List.length_nil,List.length_replicate,List.length_take,List.length_drop,Qm,List.length_replicate]);omega)) (dFa 21 ?_))
  refine dLd 22 [] ?_
  refine dQ 23 [] rfl (Qd rfl Za rfl (λw1 h1=>Qat w1 x.vd 4 om (by decide))) (dV 24 rfl (Qk rfl rfl rfl (by(try simp only[List.length_append,List.length_cons,List.length_nil,List.length_replicate,List.length_take,List.length_drop,Qm,List.length_replicate]);omega)) (dP 25 ?_))
  refine dNi ?_
  exact QM (Q7 1 (if(!x.rs)=true then 1 else 0)++Q7 1 (x.nm.length:Int)++Q7 2 (hdN x.rs:Int)++Q7 2 x.fl++Q7 2 x.id++Q7 4 x.fi++Q7 4 ((x.fi+X9 x.rl-1)%4294967296)++Q7 2 (atN x:Int)++List.replicate 2 0++Q7 4 x.al++Q7 4 x.sz++Q7 4 x.vd) (by simp only[List.length_append,Qm,List.length_replicate];omega) aSx (λw h=>h.ent aEt)
 intro S hS
 refine aU ?_
 refine QA [] mixed ?_
 refine dP 0 ?_
 refine dFa 1 ?_
 refine dLd 2 [] ?_
 refine dV 3 rfl (Qk rfl rfl rfl (by(try simp only[List.length_append,List.length_cons,List.length_nil,List.length_replicate,List.length_take,List.length_drop,Qm,List.length_replicate]);omega)) (dP 4 ?_)
 refine dP 5 ?_
 refine dP 6 ?_
 try refine dWr ?_
 refine dFa 7 ?_
 refine dLd 8 [] ?_
 refine dV 9 rfl (Qi rfl rfl Tryz.underlying9) (dP 10 ?_)
 try refine dWr ?_
 refine Qu (show _=Value.int .i64 ((atN x-hdN x.rs-x.nm.length:Nat):Int)from by congr 1;omega) (dQ 11 [] rfl (Qd rfl QhO rfl (λw1 h1=>QnW w1 (atN x-hdN x.rs-x.nm.length) om)) (dV 12 rfl (Qk rfl rfl rfl (by(try simp only[List.length_append,List.length_cons,List.length_nil,List.length_replicate,List.length_take,List.length_drop,Qm,List.length_replicate]);omega)) (dP 13 ?_)))
 refine dV 14 rfl (Qk rfl rfl rfl (by(try simp only[List.length_append,List.length_cons,List.length_nil,List.length_replicate,List.length_take,List.length_drop,Qm,List.length_replicate]);omega)) (dQ 15 [] rfl (Qd rfl QqU rfl (λw1 h1=>c352 w1 (S++x.nm++List.replicate (atN x-hdN x.rs-x.nm.length) 0++W) (by simp only[List.length_append,List.length_replicate];omega))) ?_)
 obtain⟨U,hU0⟩:∃U:List UInt8,(S++x.nm++List.replicate (atN x-hdN x.rs-x.nm.length) 0++W)++List.replicate (al8 (S++x.nm++List.replicate (atN x-hdN x.rs-x.nm.length) 0++W).length-(S++x.nm++List.replicate (atN x-hdN x.rs-x.nm.length) 0++W).length) 0=U:=⟨_,rfl⟩
 have hU:U.length+8=lnN x:=by have hl9:(S++x.nm++List.replicate (atN x-hdN x.rs-x.nm.length) 0++W).length=atN x+bdN x-8:=(by simp only[List.length_append,List.length_replicate];omega);have h77:=QfX (atN x+bdN x-8);have h78:=Qrc (n:=atN x+bdN x) om;rw[<-hU0];rw[List.length_append,List.length_replicate,hl9];show _=al8 (atN x+bdN x);omega
 rw[hU0]
 refine dV 16 rfl (Qk rfl rfl rfl (by(try simp only[List.length_append,List.length_cons,List.length_nil,List.length_replicate,List.length_take,List.length_drop,Qm,List.length_replicate]);omega)) (Qu (show _=Value.string (bs U)from by rw[List.append_nil]) (dP 17 ?_))
 refine dNi ?_
 refine aU3 ?_
 refine o_p (Qi rfl rfl Tryz.underlying9) rfl (aT ?_)
 refine oCq rfl (λw1 h1=>Qp7 w1 ((U.length:Int)+8) om) (aT ?_)
 refine Qn (show _=Value.int .i64 ((lnN x:Nat):Int)from by congr 1;have h79:al8 (atN x+bdN x)=lnN x:=rfl;unfold al8 at h79;omega) (aU3 ?_)
 refine Ql (L':=[(1,_),(2,_),(6,_),(8,_)]) aSx (λ_ h=>h) ?_
 refine aU3 ?_
 refine oCq rfl (λw1 h1=>Qat w1 x.ty 4 om (by decide)) (aU ?_)
 refine oCq rfl (λw1 h1=>Qat w1 ((lnN x:Nat):Int) 4 om (by decide)) (o_p (Qk rfl rfl rfl (by(try simp only[List.length_append,List.length_cons,List.length_nil,List.length_replicate,List.length_take,List.length_drop,Qm,List.length_replicate]);omega)) rfl (aU ?_))
 refine o_p (Qk rfl rfl rfl (by(try simp only[List.length_append,List.length_cons,List.length_nil,List.length_replicate,List.length_take,List.length_drop,Qm,List.length_replicate]);omega)) rfl (aU2 ?_)
 exact rT rfl rfl (λw' h'=>⟨Q7 4 x.ty++Q7 4 ((lnN x:Nat):Int)++U,rfl,by simp only[List.length_append,Qm];omega,h'.ent aEt⟩)
set_option maxHeartbeats 4000000 in
theorem c286(w:World)(x:Att)(hs:Rw Rn.vals 2 w [] x.ra x.rl)(hm:x.rl.length<=100000)(hnm:x.nm.length<=1000000)(hva:x.va.length<=1000000):CR 286 #[.agg #[.int .i64 x.ty,.string (bs x.nm),.int .i64 x.id,.int .i64 x.fl,.bool x.rs,.string (bs x.va),.int .i64 x.fi,.slice x.ra x.rl.length x.rc,.int .i64 x.al,.int .i64 x.sz,.int .i64 x.vd]] w (.int .i64 (Zg x)):=by
 refine eN1 Tryz.func286 Tryz.ntmps286 ?_
 refine aU2 ?_
 refine oBx λb1 _=>?_
 refine aU7 ?_
 refine oCq rfl (λw1 h1=>c319 w1 x.ty) (aU2 ?_)
 refine sCd rfl (λh2=>?_) λh2=>?_
 ·have hE:Zg x=15:=by have hq:=h2;have h9:Zl x=15:=(by unfold Zl;rw[if_neg (by simpa using hq)]);unfold Zg;rw[h9];rfl
  refine aU4 ?_
  exact rV (h:=by rw[hE];rfl)
 have h0t:x.ty∈QbU:=by have hq:=h2;simpa using hq
 refine aU6 ?_
 refine oCq rfl (λw1 h1=>c320 w1 x.nm hnm) (aU2 ?_)
 refine sCd rfl (λh3=>?_) λh3=>?_
 ·have hE:Zg x=4:=by have hq:=h3;have h8:Qec x.nm=4:=(by unfold Qec;rw[if_neg (by simpa using hq)]);have h9:Zl x=4:=(by unfold Zl;rw[if_pos h0t,h8];rfl);unfold Zg;rw[h9];rfl
  refine aU4 ?_
  exact rV (h:=by rw[hE];rfl)
 have h0n:Qec x.nm=0:=by have hq:=h3;unfold Qec;rw[if_pos (by grind)]
 refine aU6 ?_
 refine oCq rfl (λw1 h1=>c27 w1 _ _ _) (aU2 ?_)
 refine oOr 5 16 21 rfl
  (λhg4 _=>by
   refine aU5 ?_
   refine oCq rfl (λw1 h1=>c27 w1 _ _ _) (aU2 ?_)
   exact oJf 5 21)
  (λhg6 _=>by
   refine aU4 ?_
   exact oJt 5 21) ?_
 refine aU ?_
 refine sCd rfl (λh8=>?_) λh8=>?_
 ·have hE:Zg x=2:=by have hq:=h8;have h9:Zl x=2:=(by unfold Zl;rw[if_pos h0t,if_pos h0n,if_neg (by first|omega|(simp at hq;omega))]);unfold Zg;rw[h9];rfl
  refine aU4 ?_
  exact rV (h:=by rw[hE];rfl)
 have h1x:Zl x=0:=by have hq:=h8;unfold Zl;rw[if_pos h0t,if_pos h0n,if_pos (by first|omega|(simp at hq;omega))]
 refine aU4 ?_
 refine oCq rfl (λw1 h1=>c321 w1 x (hs.later h1.nil) hm) (aU8 ?_)
 refine Ql (L':=[(1,_),(2,_),(3,_),(25,_)]) aSx (λ_ h=>h) ?_
 refine YE (α:=Unit) [3,26,27] (λ_=>[(3,.int .i64 (Yw x))]) (λ_=>HS w [] [.blk b1 114 11 [.int .i64 x.ty,.string (bs x.nm),.int .i64 x.id,.int .i64 x.fl,.bool x.rs,.string (bs x.va),.int .i64 x.fi,.slice x.ra x.rl.length x.rc,.int .i64 x.al,.int .i64 x.sz,.int .i64 x.vd]]) (λ_=>True) ?_ ?_
 ·skip
  refine sCd rfl (λh9=>?_) λh9=>?_
  ·have hbd:Yw x=Qb0 x:=if_pos (by have hq:=h9;simpa using hq)
   refine aU2 ?_
   refine oCq rfl (λw1 h1=>c322 w1 x om) (aU2 ?_)
   exact QM () trivial (by rw[hbd];exact aSx) (λw h=>h.ent aEt)
  have hbd:Yw x=XQ x:=if_neg (by have hq:=h9;simpa using hq)
  refine aU ?_
  exact QM () trivial (by rw[hbd];exact aSx) (λw h=>h.ent aEt)
 intro _ _
 refine aU6 ?_
 refine Xu 5 30 35 rfl
  (λhg10 _=>by
   refine aU3 ?_
   refine oCh rfl (λw1 h1=>c323 w1 x (hs.later h1.nil) hm h1x (show Yw x=0 from by have hq:=hg10;simpa using hq)) (λgE hgE=>aU ?_)
   refine o_p (Qi rfl rfl Tryz.underlying9) rfl (aU2 ?_)
   refine Qn (show _=Value.bool (decide (440<lnN x))from by congr 1;exact decide_eq_decide.2 (by have h9:gE.length=lnN x:=hgE;omega)) ?_
   exact oJt 5 35)
  (λhg12 _=>by
   refine aU4 ?_
   exact oJf 5 35) ?_
 refine aU ?_
 refine sCd rfl (λh14=>?_) λh14=>?_
 ·have hE:Zg x=16:=by have hq:=h14;unfold Zg;rw[if_pos h1x,if_pos (by grind),if_neg (by grind)]
  refine aU8 ?_
  exact rV (h:=by rw[hE];rfl)
 have hE:Zg x=Yw x:=by have hq:=h14;unfold Zg;rw[if_pos h1x];by_cases h9:Yw x=0;(rw[if_pos h9,if_pos (by grind),h9]);(rw[if_neg h9])
 refine aU6 ?_
 exact rV (h:=by rw[hE];rfl)
theorem QpK:QJ Tryz.prog 225=true:=by kernel_rfl
instance:TFn Tryz.prog 284:=⟨by kernel_rfl⟩
instance:TFn Tryz.prog 285:=⟨by kernel_rfl⟩
theorem QhQ:QJ Tryz.prog 228=true:=by kernel_rfl
theorem QqV:QJ Tryz.prog 229=true:=by kernel_rfl
theorem QqP:QJ Tryz.prog 227=true:=by kernel_rfl
theorem Qmn:Qz Tryz.prog 288=some [.int .i64 0,.string (bs []),.int .i64 0]:=by kernel_rfl
theorem Qpz:Zi Tryz.prog 288=some [(0,1),(1,1),(2,1)]:=by kernel_rfl
theorem Qmv:tsz Tryz.prog 288=some (3,true):=by kernel_rfl
instance:TSz Tryz.prog 288 3 true:=⟨Qmv⟩
instance:TFd Tryz.prog 288 0 0 3:=⟨by kernel_rfl⟩
instance:TFn Tryz.prog 288:=⟨by kernel_rfl⟩
instance:TFd Tryz.prog 288 1 1 9:=⟨by kernel_rfl⟩
instance:TFd Tryz.prog 288 2 2 3:=⟨by kernel_rfl⟩
theorem QcO:QJ Tryz.prog 232=true:=by kernel_rfl
theorem QpC:QJ Tryz.prog 287=true:=by kernel_rfl
theorem QX:tsl Tryz.prog 111=some (114,11,120):=by kernel_rfl
instance:TFn Tryz.prog 286:=⟨by kernel_rfl⟩
theorem Qm1:tsz Tryz.prog 111=some (1,false):=by kernel_rfl
instance:TSz Tryz.prog 111 1 false:=⟨Qm1⟩
instance:TFn Tryz.prog 277:=⟨by kernel_rfl⟩
instance:TFn Tryz.prog 224:=⟨by kernel_rfl⟩
instance:TFn Tryz.prog 226:=⟨by kernel_rfl⟩
theorem QdN(b:Int):QC 0 b=b:=if_pos rfl
theorem QoK(x y:Att):Qag x y=QC (QC (XL x.ty y.ty) (QC (QaP x.nm y.nm) (XL x.fi y.fi))) (XL x.id y.id):=by
  unfold Qag QC
  by_cases h1:XL x.ty y.ty=0<;>by_cases h2:QaP x.nm y.nm=0<;>by_cases h3:XL x.fi y.fi=0<;>simp[h1,h2,h3]
theorem c284(w:World)(x:Int):CR 284 #[.int .i64 x] w (.bool false):=by
 refine eN1 Tryz.func284 Tryz.ntmps284 ?_
 refine QbB ?_
 exact rV (h:=by simp[Qw])
theorem c285(w:World)(s:List UInt8):CR 285 #[.string (bs s)] w (.bool false):=by
 refine eN1 Tryz.func285 Tryz.ntmps285 ?_
 refine QbB ?_
 exact rV (h:=by simp[Qw])
theorem QpL(w:World)(x y:Int):CR 228 #[.int .i64 x,.int .i64 y] w (.int .i64 (XL x y)):=by
 refine eN2 Tryz.func228 Tryz.ntmps228 ?_
 refine aU7 ?_
 refine oCq rfl (λw1 h1=>c284 w1 _) (aU5 ?_)
 refine oCq rfl (λw1 h1=>c284 w1 _) (aU7 ?_)
 refine sCd rfl (λh1=>?_) λh1=>?_
 ·exfalso;cases h1
 refine aU6 ?_
 refine sCd rfl (λh2=>?_) λh2=>?_
 ·exfalso;cases h2
 refine aU8 ?_
 refine sCd rfl (λh3=>?_) λh3=>?_
 ·have hz:XL x y= -1:=if_pos h3
  refine aU4 ?_
  exact rV (h:=by rw[hz];rfl)
 have h0:¬x<y:=h3
 refine aU8 ?_
 refine sCd rfl (λh4=>?_) λh4=>?_
 ·have hz:XL x y=1:=(if_neg h0).trans (if_pos h4)
  refine aU4 ?_
  exact rV (h:=by rw[hz];rfl)
 have hz:XL x y=0:=(if_neg h0).trans (if_neg h4)
 refine aU5 ?_
 exact rV (h:=by rw[hz];rfl)
theorem c229(w:World)(x y:List UInt8):CR 229 #[.string (bs x),.string (bs y)] w (.int .i64 (QaP x y)):=by
 refine eN2 Tryz.func229 Tryz.ntmps229 ?_
 refine aU7 ?_
 refine oCq rfl (λw1 h1=>c285 w1 _) (aU5 ?_)
 refine oCq rfl (λw1 h1=>c285 w1 _) (aU7 ?_)
 refine sCd rfl (λh1=>?_) λh1=>?_
 ·exfalso;cases h1
 refine aU6 ?_
 refine sCd rfl (λh2=>?_) λh2=>?_
 ·exfalso;cases h2
 refine aU8 ?_
 refine sCd rfl (λh3=>?_) λh3=>?_
 ·have hz:QaP x y= -1:=if_pos h3
  refine aU4 ?_
  exact rV (h:=by rw[hz];rfl)
 have h0:¬Op.bytesLess x y=true:=by have hq:=h3;simpa using hq
 refine aU8 ?_
 refine sCd rfl (λh4=>?_) λh4=>?_
 ·have hz:QaP x y=1:=(if_neg h0).trans (if_pos (by have hq:=h4;simpa using hq))
  refine aU4 ?_
  exact rV (h:=by rw[hz];rfl)
 have hz:QaP x y=0:=(if_neg h0).trans (if_neg (by have hq:=h4;grind))
 refine aU5 ?_
 exact rV (h:=by rw[hz];rfl)
theorem QkY(a b c d:Int):Q2 [a,b,c,d]=QC a (QC b (QC c d)):=by
  simp only[Q2,QC]
  grind
theorem c227(w:World)(a:Option Addr)(cap:Nat)(es:List Int)(hs:Rw inV 1 w [] a es)(hm:es.length<=1000):CR 227 #[.slice a es.length cap] w (.int .i64 (Q2 es)):=by
 refine eN1 Tryz.func227 Tryz.ntmps227 ?_
 refine aU16 ?_
 refine Qs (α:=Nat) [2,5,8,9,10,11,12,13,14,15,16] (λk=>[(8,.int .i64 (k:Int))]) (λ_=>HS w [] []) (λk=>k<=es.length/\Q2 es=Q2 (es.drop k)) (λk=>es.length-k) 0 ⟨om,rfl⟩ aSx (λw h=>h.ent aEt) (λk hk=>?_)
 obtain⟨hk1,hk2⟩:=hk
 refine aU5 ?_
 refine sCd rfl (λh1=>?_) λh1=>?_
 ·have hk:k<es.length:=by have hq:=h1;omega
  refine aU5 ?_
  refine o_p (Qb rfl rfl rfl Xd (k) om om (Rw.some hs om)) rfl (o_q (Qp rfl rfl ZI ((hs.rdj 0 hk rfl))) rfl (aU8 ?_))
  refine sCd rfl (λh2=>?_) λh2=>?_
  ·have hz9:¬es.getD k 0=0:=h2
   refine aU5 ?_
   exact rV (h:=by rw[hk2,XE om,if_neg hz9];rfl)
  have hz9:es.getD k 0=0:=by have hq:=h2;first|exact hq|(simp at hq;exact hq)
  refine aT4 ?_
  refine aU2 ?_
  exact sBk (k+1) om ⟨om,by rw[hk2,XE om,if_pos hz9]⟩
 refine Qh rfl ?_
 refine aU5 ?_
 exact rV (h:=by rw[hk2,Qau om];rfl)
set_option maxHeartbeats 2000000 in
theorem c165(w:World)(x y:Att):CR 165 #[.agg #[.int .i64 x.ty,.string (bs x.nm),.int .i64 x.id,.int .i64 x.fl,.bool x.rs,.string (bs x.va),.int .i64 x.fi,.slice x.ra x.rl.length x.rc,.int .i64 x.al,.int .i64 x.sz,.int .i64 x.vd],.agg #[.int .i64 y.ty,.string (bs y.nm),.int .i64 y.id,.int .i64 y.fl,.bool y.rs,.string (bs y.va),.int .i64 y.fi,.slice y.ra y.rl.length y.rc,.int .i64 y.al,.int .i64 y.sz,.int .i64 y.vd]] w (.int .i64 (Qag x y)):=by
 refine eN2 Tryz.func165 Tryz.ntmps165 ?_
 refine aU2 ?_
 refine oBx λb1 _=>?_
 refine oBx λb2 _=>?_
 refine aU3 ?_
 refine QA [] mixed ?_
 refine dFa 0 ?_
 refine dLd 1 [] ?_
 refine dFa 2 ?_
 refine dLd 3 [] ?_
 refine dQ 4 [] rfl (Qd rfl QhQ rfl (λw1 h1=>QpL w1 _ _)) (dFa 5 ?_)
 refine dLd 6 [] ?_
 refine dFa 7 ?_
 refine dLd 8 [] ?_
 refine dQ 9 [] rfl (Qd rfl QqV rfl (λw1 h1=>c229 w1 _ _)) (dFa 10 ?_)
 refine dLd 11 [] ?_
 refine dFa 12 ?_
 refine dLd 13 [] ?_
 refine dQ 14 [] rfl (Qd rfl QhQ rfl (λw1 h1=>QpL w1 _ _)) (dFa 15 ?_)
 refine dLd 16 [] ?_
 refine dFa 17 ?_
 refine dLd 18 [] ?_
 refine dQ 19 [] rfl (Qd rfl QhQ rfl (λw1 h1=>QpL w1 _ _)) (dH 20 rfl (Qg (cs:=[_,_,_,_]) rfl rfl Xd Qk2 rfl rfl rfl) (λb3 _=>dBa ?_))
 refine dQ 21 [] rfl (Qd rfl QqP rfl (λw1 h1=>c227 w1 (some ⟨b3,0,none⟩) 4 [XL x.ty y.ty,QaP x.nm y.nm,XL x.fi y.fi,XL x.id y.id] (h1.rw_blk (l:=[XL x.ty y.ty,QaP x.nm y.nm,XL x.fi y.fi,XL x.id y.id]) iv1 aPk) (by show 4<=1000;decide))) (dP 22 ?_)
 refine dNi ?_
 exact rV (h:=by rw[QkY];rfl)
theorem c166(w:World)(x y:Att):CR 166 #[.agg #[.int .i64 x.ty,.string (bs x.nm),.int .i64 x.id,.int .i64 x.fl,.bool x.rs,.string (bs x.va),.int .i64 x.fi,.slice x.ra x.rl.length x.rc,.int .i64 x.al,.int .i64 x.sz,.int .i64 x.vd],.agg #[.int .i64 y.ty,.string (bs y.nm),.int .i64 y.id,.int .i64 y.fl,.bool y.rs,.string (bs y.va),.int .i64 y.fi,.slice y.ra y.rl.length y.rc,.int .i64 y.al,.int .i64 y.sz,.int .i64 y.vd]] w (.bool (XU x y)):=by
 refine eN2 Tryz.func166 Tryz.ntmps166 ?_
 refine aU2 ?_
 refine oBx λb1 _=>?_
 refine oBx λb2 _=>?_
 refine ZH ?_
 refine Xu 6 10 16 rfl
  (λhg3 _=>by
   refine ZH ?_
   exact oJt 6 16)
  (λhg5 _=>by
   refine aU5 ?_
   exact oJf 6 16) ?_
 refine aU ?_
 refine Xu 6 17 23 rfl
  (λhg7 _=>by
   refine ZH ?_
   exact oJt 6 23)
  (λhg9 _=>by
   refine aU5 ?_
   exact oJf 6 23) ?_
 refine aU2 ?_
 exact rV
theorem Qqu(w:World)(x y:Int):CR 288 #[.int .i64 x,.int .i64 y] w (.int .i64 (XL x y)):=by
 refine eN2 Tryz.func288 Tryz.ntmps288 ?_
 refine QbB ?_
 refine sCd rfl (λh1=>?_) λh1=>?_
 ·have hz:XL x y= -1:=if_pos h1
  refine aU4 ?_
  exact rV (h:=by rw[hz];rfl)
 have h0:¬x<y:=h1
 refine aU8 ?_
 refine sCd rfl (λh2=>?_) λh2=>?_
 ·have hz:XL x y=1:=(if_neg h0).trans (if_pos h2)
  refine aU4 ?_
  exact rV (h:=by rw[hz];rfl)
 have hz:XL x y=0:=(if_neg h0).trans (if_neg h2)
 refine aU5 ?_
 exact rV (h:=by rw[hz];rfl)
theorem Qka(w:World)(x:Att):CR 232 #[.agg #[.int .i64 x.ty,.string (bs x.nm),.int .i64 x.id,.int .i64 x.fl,.bool x.rs,.string (bs x.va),.int .i64 x.fi,.slice x.ra x.rl.length x.rc,.int .i64 x.al,.int .i64 x.sz,.int .i64 x.vd]] w (.agg #[.int .i64 x.ty,.string (bs x.nm),.int .i64 x.fi]):=by
 refine eN1 Tryz.func232 Tryz.ntmps232 ?_
 refine aU2 ?_
 refine oBx λb1 _=>?_
 refine oAl (λb2 _=>?_) Qmn
 refine aU9 ?_
 refine o_p (XP (cs:=[_,_,_]) rfl rfl Qpz Qmn rfl) rfl (aU2 ?_)
 exact Qj (rs:=[.cell 2 288]) rfl (.cell rfl Qmv aPk rfl (.nil)) (λw' h'=>⟨rfl,h'.below⟩)
theorem c287(w:World)(x y:Att):CR 287 #[.agg #[.int .i64 x.ty,.string (bs x.nm),.int .i64 x.fi],.agg #[.int .i64 y.ty,.string (bs y.nm),.int .i64 y.fi]] w (.int .i64 (QC (XL x.ty y.ty) (QC (QaP x.nm y.nm) (XL x.fi y.fi)))):=by
 refine eN2 Tryz.func287 Tryz.ntmps287 ?_
 refine aU2 ?_
 refine oBx λb1 _=>?_
 refine oBx λb2 _=>?_
 refine aU9 ?_
 refine oCq rfl (λw1 h1=>Qqu w1 _ _) (aU7 ?_)
 refine sCd rfl (λh3=>?_) λh3=>?_
 ·have hz:(QC (XL x.ty y.ty) (QC (QaP x.nm y.nm) (XL x.fi y.fi)))=XL x.ty y.ty:=if_neg h3
  refine aU5 ?_
  exact rV (h:=by rw[hz];rfl)
 have h0:XL x.ty y.ty=0:=by have hq:=h3;simpa using hq
 refine ZH ?_
 refine sCd rfl (λh4=>?_) λh4=>?_
 ·have hz:(QC (XL x.ty y.ty) (QC (QaP x.nm y.nm) (XL x.fi y.fi)))= -1:=by rw[h0,QdN];rw[show QaP x.nm y.nm= -1 from if_pos h4];rfl
  refine aU4 ?_
  exact rV (h:=by rw[hz];rfl)
 have h1:¬Op.bytesLess x.nm y.nm=true:=by have hq:=h4;simpa using hq
 refine ZH ?_
 refine sCd rfl (λh5=>?_) λh5=>?_
 ·have hz:(QC (XL x.ty y.ty) (QC (QaP x.nm y.nm) (XL x.fi y.fi)))=1:=by rw[h0,QdN];rw[show QaP x.nm y.nm=1 from(if_neg h1).trans (if_pos (by have hq:=h5;simpa using hq))];rfl
  refine aU4 ?_
  exact rV (h:=by rw[hz];rfl)
 have hz:(QC (XL x.ty y.ty) (QC (QaP x.nm y.nm) (XL x.fi y.fi)))=XL x.fi y.fi:=by rw[h0,QdN];rw[show QaP x.nm y.nm=0 from(if_neg h1).trans (if_neg (by have hq:=h5;grind))];rfl
 refine aU7 ?_
 refine oCq rfl (λw1 h1=>Qqu w1 _ _) (aU2 ?_)
 exact rV (h:=by rw[hz];rfl)
theorem c231(w:World)(x y:Att):CR 231 #[.agg #[.int .i64 x.ty,.string (bs x.nm),.int .i64 x.id,.int .i64 x.fl,.bool x.rs,.string (bs x.va),.int .i64 x.fi,.slice x.ra x.rl.length x.rc,.int .i64 x.al,.int .i64 x.sz,.int .i64 x.vd],.agg #[.int .i64 y.ty,.string (bs y.nm),.int .i64 y.id,.int .i64 y.fl,.bool y.rs,.string (bs y.va),.int .i64 y.fi,.slice y.ra y.rl.length y.rc,.int .i64 y.al,.int .i64 y.sz,.int .i64 y.vd]] w (.int .i64 (Qag x y)):=by
 refine eN2 Tryz.func231 Tryz.ntmps231 ?_
 refine aU2 ?_
 refine oBx λb1 _=>?_
 refine oBx λb2 _=>?_
 refine aU4 ?_
 refine QA [] mixed ?_
 refine dLn 0 [] ?_
 refine dQ 1 [] rfl (Qd rfl QcO rfl (λw1 h1=>Qka w1 x)) (dLn 2 [] ?_)
 refine dQ 3 [] rfl (Qd rfl QcO rfl (λw1 h1=>Qka w1 y)) (dQ 4 [] rfl (Qd rfl QpC rfl (λw1 h1=>c287 w1 x y)) (dP 5 ?_))
 refine dNi ?_
 refine aU5 ?_
 refine sCd rfl (λh3=>?_) λh3=>?_
 ·have hz:Qag x y=(QC (XL x.ty y.ty) (QC (QaP x.nm y.nm) (XL x.fi y.fi))):=by rw[QoK];exact if_neg h3
  refine aU5 ?_
  exact rV (h:=by rw[hz];rfl)
 have hz:Qag x y=XL x.id y.id:=by rw[QoK];exact if_pos (by have hq:=h3;simpa using hq)
 refine aU7 ?_
 refine oCq rfl (λw1 h1=>Qqu w1 _ _) (aU2 ?_)
 exact rV (h:=by rw[hz];rfl)
theorem c230(w:World)(a:Option Addr)(cap:Nat)(L:List Att)(i:Nat)(hs:AtM w a L)(hb:Qd8 L)(hi:i<L.length):CR 230 #[.slice a L.length cap,.int .i64 (i:Int)] w (.int .i64 (ZX L i)):=by
 have hb40:=hb.1
 refine eN2 Tryz.func230 Tryz.ntmps230 ?_
 refine aU9 ?_
 refine o_p (Qb rfl rfl rfl QX (i) om om (Rw.some hs.1 om)) rfl (o_q (Qr _ rfl rfl Yb rfl (Rw.rd hs.1 hi)) rfl (oCq rfl (λw1 h1=>c286 w1 (nth L i) ((hs.rl hi).later h1.nil) (by have:=(hb.2 i hi).2.1;omega) (by have:=(hb.2 i hi).2.2;omega) (by have:=(hb.2 i hi).1;omega)) (aU7 ?_)))
 refine sCd rfl (λh1=>?_) λh1=>?_
 ·have hz:ZX L i=Zg (nth L i):=if_neg h1
  refine aU5 ?_
  exact rV (h:=by rw[hz];rfl)
 have hz:ZX L i=if Qdj L i=true then 23 else 0:=if_pos (by have hq:=h1;simpa using hq)
 refine aU7 ?_
 refine Qs (α:=Nat) [4,6,15,16,17,18,19,20,21,22,23,24,25,26,27,28,29,30] (λk=>[(6,.int .i64 (k:Int))]) (λ_=>HS w [] []) (λk=>k<=i/\(L.take k).any (λo=>decide (o.id=(nth L i).id))=false) (λk=>i-k) 0 ⟨Nat.zero_le _,rfl⟩ aSx (λw h=>h.ent aEt) (λk hkk=>?_)
 obtain⟨hk1,hk2⟩:=hkk
 refine aU7 ?_
 refine sCd rfl (λh2=>?_) λh2=>?_
 ·have hk:k<i:=by have hq:=h2;omega
  refine aU4 ?_
  refine QA [] mixed ?_
  refine dP 0 ?_
  refine dP 1 ?_
  refine dV 2 rfl (Qb rfl rfl rfl QX (k) om om (Rw.some hs.1 om)) (dFa 3 ?_)
  refine dQ 4 [] rfl (Qp rfl rfl ZI ((hs.1.rdj 2 (show k<L.length by omega) rfl))) (dP 5 ?_)
  refine dP 6 ?_
  refine dV 7 rfl (Qb rfl rfl rfl QX (i) om om (Rw.some hs.1 om)) (dFa 8 ?_)
  refine dQ 9 [] rfl (Qp rfl rfl ZI ((hs.1.rdj 2 hi rfl))) (dP 10 ?_)
  refine dNi ?_
  refine sCd rfl (λh3=>?_) λh3=>?_
  ·have hd:Qdj L i=true:=QnL hk h3 hi
   refine aU4 ?_
   exact rV (h:=by rw[hz,if_pos hd];rfl)
  have hp:¬(nth L k).id=(nth L i).id:=h3
  refine aT5 ?_
  refine aU2 ?_
  exact sBk (k+1) om ⟨om,by rw[List.take_add_one,X4 om,List.any_append,hk2];simp[hp]⟩
 obtain rfl:k=i:=by have hq:=h2;omega
 have hd:¬Qdj L k=true:=by unfold Qdj;rw[hk2];decide
 refine Qh rfl ?_
 refine aU4 ?_
 exact rV (h:=by rw[hz,if_neg hd];rfl)
theorem c225(w:World)(b2 b3:Nat)(a:Option Addr)(cap:Nat)(L:List Att)(i:Nat)(o:Att)(h2:Rd w [] b2 0 (.slice a L.length cap))(h3:Rd w [] b3 0 (.int .i64 (i:Int)))(hs:Rw Att.vals 11 w [] a L)(hi:i<L.length):CR 225 #[.agg #[.int .i64 o.ty,.string (bs o.nm),.int .i64 o.id,.int .i64 o.fl,.bool o.rs,.string (bs o.va),.int .i64 o.fi,.slice o.ra o.rl.length o.rc,.int .i64 o.al,.int .i64 o.sz,.int .i64 o.vd],.pointer (some ⟨b2,0,none⟩),.pointer (some ⟨b3,0,none⟩)] w (.bool (decide (o.id=(nth L i).id))):=by
 refine eN3 Tryz.func225 Tryz.ntmps225 ?_
 refine aU2 ?_
 refine oBx λb1 _=>?_
 refine aU3 ?_
 refine QA [] mixed ?_
 refine dFa 0 ?_
 refine dLd 1 [] ?_
 refine dQ 2 [] rfl (Qp rfl rfl Qm1 (h2)) (dQ 3 [] rfl (Qp rfl rfl ZI (h3)) (dV 4 rfl (Qb rfl rfl rfl QX (i) om om (Rw.some hs om)) (dFa 5 ?_)))
 refine dQ 6 [] rfl (Qp rfl rfl ZI ((hs.rdj 2 hi rfl))) (dP 7 ?_)
 refine dP 8 ?_
 refine dNi ?_
 exact rV
theorem c277(w:World)(a:Option Addr)(cap:Nat)(l:List Att)(q:Nat)(cv:Array Value)(bt:List Bool)(hs:Rw Att.vals 11 w [] a l)(hm:l.length<=1000000)(hq:QJ Tryz.prog q=true)(hb:bt.length=l.length)(hc:∀k w1,k<l.length->HS w [] [] w1->Calls Tryz.prog q (#[]++[.agg (Att.vals (nth l k)).toArray].toArray++cv) w1 λen w2=>en=.returned (.bool (bt.getD k false))/\Below w1.heap.size w1 w2):CR 277 #[.slice a l.length cap,.func (.func q) #[] cv] w (.int .i64 (ixI bt)):=by
 refine eN2 Tryz.func277 Tryz.ntmps277 ?_
 refine QcZ ?_
 refine Qs (α:=Nat) [4,5,8,9,10,11,12,13,14,15,16,17,18] (λk=>[(8,.int .i64 (k:Int))]) (λ_=>_) (λk=>k<=l.length/\∀i,i<k->bt.getD i false=false) (λk=>l.length-k) 0 ⟨om,λi h=>absurd h (Nat.not_lt_zero i)⟩ aSx (λw h=>h) (λk hk=>?_)
 obtain⟨hk1,hk2⟩:=hk
 refine aU5 ?_
 refine sCd rfl (λh1=>?_) λh1=>?_
 ·refine Qby ?_
  refine o_p (Qb rfl rfl rfl QX (k) om om (Rw.some hs om)) rfl (o_q (Qr _ rfl rfl Yb rfl (Rw.rd hs om)) rfl (o_q (Qb5 rfl rfl hq rfl (λw1 h1=>hc k w1 om (h1.ent aEt))) rfl (aU ?_)))
  refine sCd rfl (λh2=>?_) λh2=>?_
  ·refine aU5 ?_
   exact rV (h:=by have e:=Qen (l:=bt) (k:=k) om hk2 (λ_=>by assumption);simp only[Qw,ixI,e];rw[if_pos om])
  refine aT4 ?_
  refine aU2 ?_
  exact Qv (k+1) om ⟨om,λi hi=>(Nat.lt_or_ge i k).elim (hk2 i) (λh=>by obtain rfl:i=k:=om;assumption)⟩ aSx (λw h=>h)
 refine Qh rfl ?_
 refine aU4 ?_
 exact rV (h:=by have e:=Qen (l:=bt) (k:=k) om hk2 (λh=>om);simp only[Qw,ixI,e];rw[if_neg om])
theorem c224(w:World)(a:Option Addr)(cap:Nat)(l:List Att)(q:Nat)(cv:Array Value)(bt:List Bool)(hs:Rw Att.vals 11 w [] a l)(hm:l.length<=1000000)(hq:QJ Tryz.prog q=true)(hb:bt.length=l.length)(hc:∀k w1,k<l.length->HS w [] [] w1->Calls Tryz.prog q (#[]++[.agg (Att.vals (nth l k)).toArray].toArray++cv) w1 λen w2=>en=.returned (.bool (bt.getD k false))/\Below w1.heap.size w1 w2):CR 224 #[.slice a l.length cap,.func (.func q) #[] cv] w (.bool (bt.any id)):=by
 refine eN2 Tryz.func224 Tryz.ntmps224 ?_
 refine aU8 ?_
 refine oCq rfl (λw1 h1=>c277 w1 a cap l q cv bt (hs.later h1) hm hq hb (λk w2 hk h2=>hc k w2 hk (by simpa using h1.call h2))) (aU3 ?_)
 exact rV (h:=by simp only[Qw];rw[<-QiZ])
set_option maxHeartbeats 2000000 in
theorem c162(w:World)(a:Option Addr)(cap:Nat)(L:List Att)(i:Nat)(hs:AtM w a L)(hb:Qd8 L)(hi:i<L.length)(hcp:L.length<=cap):CR 162 #[.slice a L.length cap,.int .i64 (i:Int)] w (.int .i64 (ZX L i)):=by
 have hb40:=hb.1
 have hlt:(L.take i).length=i:=by rw[List.length_take];omega
 refine eN2 Tryz.func162 Tryz.ntmps162 ?_
 refine aU2 ?_
 refine oBx λb1 _=>?_
 refine oBx λb2 _=>?_
 refine aU6 ?_
 refine o_p (QG _ _ 0 i rfl rfl QX rfl ⟨_,_,rfl,rfl⟩ om om) rfl (Qn (show _=Value.slice (YA a cap 0 11) (L.take i).length cap from by rw[hlt];rfl) (aU ?_))
 refine oCq rfl (λw1 h1=>c224 w1 (YA a cap 0 11) cap (L.take i) 225 _ ((L.take i).map λo=>decide (o.id=(nth L i).id)) ((hs.1.cut (i:=0) hcp).takeN i |>.later h1.nil) om QpK (by rw[List.length_map]) (λk w2 hk h2=>by have hk9:k<i:=om;have h9:=c225 w2 b1 b2 a cap L i (nth L k) ((h1.rd_blk (Mc:=[]) aPk rfl (by simp)).later h2 (by simp)) ((h1.rd_blk (Mc:=[]) (b:=b2) (i:=0) aPk rfl (by simp)).later h2 (by simp)) ((hs.1.later h1.nil).later h2) hi;rw[YU (d:=default) hk];have e9:nth (L.take i) k=nth L k:=Zq (by rw[List.getElem?_take,if_pos hk9];exact X4 om);rw[show(L.take i).getD k default=nth L k from e9];rw[e9];exact h9)) ?_
 refine aU6 ?_
 refine o_p (Qb rfl rfl rfl QX (i) om om (Rw.some hs.1 om)) rfl (o_q (Qr _ rfl rfl Yb rfl (Rw.rd hs.1 hi)) rfl (oCq rfl (λw1 h1=>c226 w1 (nth L i) ((hs.rl hi).later h1.nil) (by have:=(hb.2 i hi).2.1;omega) (by have:=(hb.2 i hi).2.2;omega) (by have:=(hb.2 i hi).1;omega)) (aU2 ?_)))
 refine oCq rfl (λw1 h1=>YW w1 _ _) (o_h (Qg (cs:=[_,_]) rfl rfl Xp YC rfl rfl rfl) rfl (λb3 _=>oCq rfl (λw1 h1=>QfU h1 aPk (by rfl) (by rfl) (by decide)) (aU2 ?_)))
 exact rV (h:=by rw[Qgb,List.any_map];unfold ZX;have e9:(List.any (L.take i) (id∘λo:Att=>decide (o.id=(nth L i).id)))=Qdj L i:=rfl;rw[e9];cases Qdj L i<;>rfl)
end Go.Proofs
