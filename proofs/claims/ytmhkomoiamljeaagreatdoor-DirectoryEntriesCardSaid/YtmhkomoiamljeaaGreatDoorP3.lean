/- Contracts of the program's functions, proved by walking them with the rules of the Gx texts; without conditions beyond those that each contract names. -/
import Derived.WalkKit
import Derived.Deep.Draws
import Derived.TacticsIn
import Derived.OrdersIn
import Derived.RangeFuncLeaves
import Derived.Lib.Strings
import Derived.Laws.BytesArg
import Derived.Laws.IdiomStrings
import Derived.Deep.Quiet
import Derived.ProofKit
import Derived.OpenShut
import Derived.Laws.StructEq
import Derived.ChangeKeysEq
import Derived.Laws.Externs
import Derived.Lib.Overlaps
import Derived.Carry
import Derived.Laws.Small
import Derived.Lib.Bytealg
import Derived.Shelf.Small.Strs
import Derived.Shelf.Small.Wraps
import Derived.Shelf.Strconv.Itoa0
import Derived.Shelf.Strconv.Itoa1
import Derived.Shelf.LaysM
import Derived.Shelf.Strconv.Itoa2
import Derived.Shelf.Strconv.Itoa3
import Derived.Shelf.Strings.Search1
import Derived.Shelf.Strings.Search2
import Derived.Shelf.Strings.Cut
import Derived.Shelf.Strings.Shaped
import Derived.Shelf.Strings.LastIndex
import Derived.Shelf.Strings.LastIndexAll
import Derived.Shelf.Strings.Prefix
import Derived.Shelf.Slices.Turned
import Derived.Shelf.Slices.Reverse
import Derived.Shelf.Slices.Equal
import Derived.Ground.Names2Prog
import Derived.Shelf.Slices.Clone
import Derived.Shelf.Slices.SearchI
import Derived.Shelf.Slices.Delete
import Derived.Shelf.Slices.Cells
import Derived.Shelf.Slices.Empties
import Derived.Shelf.Slices.Empties2
import Derived.Ground.SlgnProg
import Derived.Shelf.SlicesE.Reverse
import Derived.Shelf.SlicesE.Delete
import Derived.Shelf.SlicesE.Clone
import Derived.Test.YtmhkomoiamljeaaGreatDoorProg
import Derived.KernelRfl
import Derived.Lib.LastIndexByte
import Derived.Lib.ItoaNum
import Derived.Lib.SmallJoins
import Derived.Lib.AppendIntMem
import Derived.RangeFuncRecord
import Derived.Lib.Builder
import Derived.Laws.Pointers
import Derived.Test.YtmhkomoiamljeaaGreatDoorTie
import Derived.Test.YtmhkomoiamljeaaGreatDoorCards
import Derived.SevenTiedAt
import Derived.LaidMore
import Derived.Lay
import Derived.Stop.Joined
import Derived.Test.YtmhkomoiamljeaaGreatDoorP2
set_option linter.unusedSimpArgs false
set_option maxHeartbeats 1000000
set_option linter.unusedVariables false
set_option linter.unusedSectionVars false
set_option linter.unnecessarySimpa false
namespace Gx
namespace Ev
open Go Go.RowKit
def Qjc(P:Program)(Z:FuncId->Bool):Op->Bool
 | .alloc _=>true
 | .box _ _=>true
 | .store _ _ _=>true
 | .buildSlice _ _ _=>true
 | .makeSlice _ _ _=>true
 | .makeMap _ _=>true
 | .mapUpdate _ _ _ _=>true
 | .convert _ dst _=>match P.underlying dst with
  | some (.slice _)=>true
  | _=>false
 | .call ⟨.value (.func g),_,_⟩=>Q7 P g&& !Z g
 | .call ⟨.value _,_,_⟩=>true
 | .call ⟨.builtin b,_,_⟩=>match b with
  | .append=>true
  | .copy=>true
  | .clear=>true
  | _=>false
 | _=>false
def isQ:Op->Bool
 | .load _ _=>true
 | .lookup _ _ _ _=>true
 | .convert _ _ _=>true
 | .call ⟨.value _,_,_⟩=>true
 | _=>false
noncomputable def at'(ops:List Oper)(i:Nat):Option Oper:=List.rec (λ_=>none) (λo _ ih i=>Nat.rec (some o) (λj _=>ih j) i) ops i
noncomputable def Qn2(P:Program)(Z:FuncId->Bool)(ops:List Oper)(M:Nat)(rows:List Row):Option Nat:=List.rec none (λr _ ih=>Bool.rec (Bool.rec ih (match at' ops r.i with
 | some o=>Bool.rec (some r.i) ih (Qjc P Z o.op||isQ o.op)
 | none=>ih) (Yg r.need M)) ih (has M r.i)) rows
noncomputable def Qn5(P:Program)(Z:FuncId->Bool)(ops:List Oper)(M:Nat)(rows:List Row):Option Nat:=List.rec none (λr _ ih=>Bool.rec (Bool.rec ih (match at' ops r.i with
 | some o=>Bool.rec (some r.i) ih (Qjc P Z o.op)
 | none=>ih) (Yg r.need M)) ih (has M r.i)) rows
noncomputable def Qms(P:Program)(Z:FuncId->Bool)(ops:List Oper)(M:Nat)(rows:List Row):Option Nat:=match Qn2 P Z ops M rows with
 | some i=>some i
 | none=>Qn5 P Z ops M rows
noncomputable def QnG(M:Nat)(rows:List Row):Option Nat:=List.rec none (λr _ ih=>Bool.rec (Bool.rec ih (some r.i) (Yg r.em M)) ih (has M r.i)) rows
def isNw:Op->Bool
 | .makeMap _ none=>true
 | .alloc _=>true
 | _=>false
noncomputable def QnO(M j:Nat)(rows:List Row):Option Nat:=List.rec none (λr _ ih=>Bool.rec (Bool.rec (Bool.rec ih (some r.i) (Yg r.em M)) ih (has M r.i)) ih (Nat.beq r.i j)) rows
noncomputable def psR(P:Program)(Z:FuncId->Bool)(ops:List Oper)(rows:List Row)(j:Nat)(f:Nat):Nat->List Nat:=Nat.rec (λ_=>[]) (λ_ ih M=>match Qms P Z ops M rows with
 | some i=>i::ih (Q1 M i)
 | none=>(match QnO M j rows with
  | some i=>i::ih (Q1 M i)
  | none=>[])) f
noncomputable def QnX(P:Program)(Z:FuncId->Bool)(ops:List Oper)(allr:List Row)(M i:Nat)(ni:Bool)(rows:List Row):Option It:=List.rec none (λr _ ih=>Bool.rec (Bool.rec (Bool.rec ih (match at' ops r.i with
 | some o=>Bool.rec (Bool.rec ih (some (.two r.i i (psR P Z ops allr i ops.length (Q1 M r.i)))) ni) (some (.two i r.i (psR P Z ops allr r.i ops.length (Q1 M i)))) (isNw o.op)
 | none=>ih) (Yg r.em M)) ih (has M r.i)) ih (Nat.beq r.i i)) rows
noncomputable def makR(P:Program)(Z:FuncId->Bool)(ops:List Oper)(rows:List Row)(M i:Nat):It:=Bool.rec (match at' ops i with
 | some o=>(match QnX P Z ops rows M i (isNw o.op) rows with
  | some x=>x
  | none=>.one i)
 | none=>.one i) (.one i) (QfR M i rows)
noncomputable def addI(M:Nat):It->Nat
 | .one i=>Q1 M i
 | .two i j ps=>Q1 (addL ps (Q1 M i)) j
noncomputable def Qce(P:Program)(Z:FuncId->Bool)(ops:List Oper)(rows:List Row)(f:Nat):Nat->List It:=Nat.rec (λ_=>[]) (λ_ ih M=>match Qms P Z ops M rows with
 | some i=>.one i::ih (Q1 M i)
 | none=>(match QnG M rows with
  | some i=>makR P Z ops rows M i::ih (addI M (makR P Z ops rows M i))
  | none=>[])) f
noncomputable def QgM(tm:Nat)(qs:List Nat):Bool:=List.rec true (λq _ ih=>Bool.rec false ih (has tm q)) qs
noncomputable def QcL(P:Program)(Z:FuncId->Bool)(ops:List Oper)(fs:List (Nat×Inf))(rows:List Row)(order:List It):List Nat->List Fin1:=List.rec (λ_=>[]) (λx _ ih qs=>match x with
 | .two _ _ _=>ih qs
 | .one i=>match at' ops i,QaN i rows with
 | some o,some r=>Bool.rec (ih (Bool.rec qs (i::qs) (isQ o.op))) (Bool.rec (ih (Bool.rec qs (i::qs) (isQ o.op))) (⟨i,Qb7 fs r.em⟩::ih []) (QgM (Qb7 fs r.em) qs)) (Qjc P Z o.op)
 | _,_=>ih qs) order
theorem Zu{P:Program}{Z:FuncId->Bool}{ops:List Oper}{fs:List (Nat×Inf)}:∀(order:List It)(qs:List Nat),∀f∈QcL P Z ops fs (Qe fs fs) order qs,QdZ fs f
 | [],qs,f,h=>by cases h
 | .two _ _ _::order,qs,f,h=>Zu order qs f h
 | .one i::order,qs,f,h=>by
  have hu:QcL P Z ops fs (Qe fs fs) (.one i::order) qs=(match at' ops i,QaN i (Qe fs fs)with
   | some o,some r=>Bool.rec (QcL P Z ops fs (Qe fs fs) order (Bool.rec qs (i::qs) (isQ o.op))) (Bool.rec (QcL P Z ops fs (Qe fs fs) order (Bool.rec qs (i::qs) (isQ o.op))) (⟨i,Qb7 fs r.em⟩::QcL P Z ops fs (Qe fs fs) order []) (QgM (Qb7 fs r.em) qs)) (Qjc P Z o.op)
   | _,_=>QcL P Z ops fs (Qe fs fs) order qs):=rfl
  rw[hu]at h;split at h
  ·rename_i o r h1 h2;cases hk:Qjc P Z o.op with
   | false=>rw[hk]at h;exact Zu order _ f h
   | true=>
    rw[hk]at h;cases hh:QgM (Qb7 fs r.em) qs with
    | false=>rw[hh]at h;exact Zu order _ f h
    | true=>
     rw[hh]at h;rcases List.mem_cons.1 h with rfl|h
     ·obtain⟨g1,g2⟩:=XL h2;exact⟨r,g1,g2,rfl⟩
     ·exact Zu order _ f h
  ·exact Zu order _ f h
noncomputable def ltI(n:Nat):It->Bool
 | .one i=>Nat.blt i n
 | .two i j ps=>Nat.blt i n&&(Nat.blt j n&&ps.all λq=>Nat.blt q n)
noncomputable def Qfv(n:Nat)(l:List It):Bool:=List.rec true (λi _ ih=>Bool.rec false ih (ltI n i)) l
theorem Qd3{n:Nat}:∀{l:List It},Qfv n l=true->∀i∈l,Ql4 n i
 | a::l,h,i,hi=>by
  have hu:Qfv n (a::l)=(Bool.rec false (Qfv n l) (ltI n a):Bool):=rfl;rw[hu]at h;cases hb:ltI n a with
  | false=>rw[hb]at h;cases h
  | true=>
   rw[hb]at h;rcases List.mem_cons.1 hi with rfl|hi
   ·cases i with
    | one i=>simpa[ltI,Ql4,Nat.blt_eq]using hb
    | two i j ps=>simpa[ltI,Ql4,Nat.blt_eq]using hb
   ·exact Qd3 h i hi
 | [],_,i,hi=>by cases hi
noncomputable def QkA(P:Program)(Z:FuncId->Bool)(nt:Nat):Array Oper->CS
 | ⟨ops⟩=>match ZI ops 0 ops with
  | some fs=>Bool.rec noC (match QcL P Z ops fs (Qe fs fs) (Qce P Z ops (Qe fs fs) ops.length 0) []with
    | []=>⟨λF T H n=>(ZU P nt ⟨ops⟩ (mkF (Qe fs fs) [] none 0 (Qce P Z ops (Qe fs fs) ops.length 0))).run F T H n []⟩
    | f::Fs=>⟨λF T H n=>(ZU P nt ⟨ops⟩ (mkF (Qe fs fs) Fs (some f) 0 (Qce P Z ops (Qe fs fs) ops.length 0))).run F T H n []⟩)
   (Nat.beq (QdC (Qce P Z ops (Qe fs fs) ops.length 0)) ops.length&&(Nat.beq (Qjn 0 (Qce P Z ops (Qe fs fs) ops.length 0)) (2^ops.length-1)&&Qfv ops.length (Qce P Z ops (Qe fs fs) ops.length 0)))
  | none=>noC
theorem QjZ{P:Program}{Z:FuncId->Bool}(hm:P.follows .mixedOrders=true):Qgu P (QkA P Z):=by
 intro l id r0 w0 X k F T H n ρ L' As hP hF ht hs;unfold QkA at ht;simp only[]at ht;split at ht
 ·rename_i fs hf;cases hc:(Nat.beq (QdC (Qce P Z l (Qe fs fs) l.length 0)) l.length&&(Nat.beq (Qjn 0 (Qce P Z l (Qe fs fs) l.length 0)) (2^l.length-1)&&Qfv l.length (Qce P Z l (Qe fs fs) l.length 0)))with
  | false=>rw[hc]at ht;exact ht.elim
  | true=>
   rw[hc]at ht;simp only[Bool.and_eq_true]at hc;have hlen:=Nat.eq_of_beq_eq_true hc.1
   have key:∀(Fs:List Fin1)(F':Option Fin1),(∀f,F'=some f->QdZ fs f)->(∀f∈Fs,QdZ fs f)->QG r0 w0 ρ X k ((ZU P X.n ⟨l⟩ (mkF (Qe fs fs) Fs F' 0 (Qce P Z l (Qe fs fs) l.length 0))).run F T H n [])->S X (.c (.region id ⟨l⟩ true)::k) L' (HS w0 [] As):=by
    intro Fs F' h1 h2 h;refine Qli ([]++ρ.ex) (Z0 F') (by rw[hP];exact hm) ?_;have:=Qbd (w0:=w0) (k:=k) hF hP hf (Qce P Z l (Qe fs fs) l.length 0) Fs F' (Array.replicate l.length false) 0 (Lm.start _) (Qd3 hc.2.2) (Nat.eq_of_beq_eq_true hc.2.1) h1 h2 T H n [] [] ρ L' As [] h hs rfl trivial;rw[hlen]at this;exact this
   split at ht<;>grind[Zu,Qce,Qe]
 ·exact ht.elim
def extCS(c:Nat):FuncId->List Value->Option Value:=λf vs=>match vs with
 | [.string ⟨⟨a⟩⟩,.string ⟨⟨b⟩⟩]=>bif Nat.beq f c then some (.int .i64 (QdE a b))else none
 | _=>none
theorem extCS_ok{P:Program}{c:Nat}(hc:QnR P c):Qd4 P (extCS c):=by
 intro f vs v h w0 ρ us As hvs o L' args ts ho hev;unfold extCS at h;split at h
 ·rename_i a b;obtain⟨h1,rfl⟩:=bif_some h;have hf:=Nat.eq_of_beq_eq_true h1;subst hf;injection hvs with hvs
  subst hvs
  obtain⟨x,y,hxy,hx,hy⟩:∃x y,args.toList=[x,y]/\Gx.ev L' x=some (.string (bs a))/\Gx.ev L' y=some (.string (bs b)):=by
   match hl:args.toList with
   | []=>rw[hl]at hev;cases hev
   | [x]=>grind[evs]
   | [x,y]=>
    rw[hl]at hev;simp only[evs]at hev;split at hev
    ·rename_i v vs h1 h2;split at h2
     ·rename_i v' vs' h3 h4;injection h4 with h4
      injection h2 with h2
      subst h4 h2;injection hev with hev
      injection hev with e1 e2
      injection e2 with e2 e3
      subst e1 e2;exact⟨x,y,rfl,h1,h3⟩
     ·cases h2
    ·cases hev
   | x::y::z::r=>grind[evs]
  rw[Qbp hxy]at ho;exact⟨_,rfl,QbV ho hx hy hc⟩
 ·cases h
theorem ev_run{P:Program}{K:CallF}{Z:FuncId->Bool}{m f:Nat}{g:FuncId}{vs:List Value}{v:Value}(hK:KnOk P K)(hm:P.follows .mixedOrders=true)(hvs:QI vs=true)(hv:Yt v=true)(h:(match(evF P K Z m (QkA P Z) f).f noY g vs .lf 0 with
  | some r=>some r.1
  | none=>none)=some v):∀w,Calls P g vs.toArray w (λe w'=>e=.returned v/\HS w [] [] w'):=by
 intro w;split at h
 ·rename_i r hr;injection h with h
  subst h;obtain⟨v,H',n'⟩:=r
  have:=((Qi0 (Z:=Z) (m:=m) hK (QjZ hm) f ⟨λ_=>none,[]⟩).f _ _ QaT) g vs .lf 0 v H' n' hr w ⟨λ_=>none,[]⟩ vs [] (Rho.le_refl _) (QS (λa b e=>Qb4 (QaW e)) (Xe hvs)) ⟨[],[],(λm r hm=>by
   have h':XO (pth m) m (.lf:Hp)=some r:=hm;rw[X0]at h';cases h'),rfl,rfl⟩ (λ_ _=>rfl) w (HS.refl w [])
  refine Calls.mono this λe w'⟨ρ',As',u,h1,h2,h3,h4,h5,h6⟩=>?_;rw[YS hv]at h3;injection h3 with h3
  subst h3;exact⟨h5,h6.sub (List.nil_sublist _)⟩
 ·cases h
end Ev
namespace Ev
open Go Go.RowKit
def InsC(P:Program)(f e sz by':Nat):Prop:=∀(w:World)(a:Option Addr)(i n m cap:Nat)(xs news:List Value)(b0 c0 tot2:Nat),HS w (fps [.own (.slice a n cap) e sz n xs,.blk b0 e tot2 news]) [.own (.slice a n cap) e sz n xs,.blk b0 e tot2 news] w->0<m->news.length=m*sz->(∀u∈news,u.oneCell'=true)->(∀u∈xs,u.oneCell'=true)->(n+m)*by'<=140737488355328->i<=n ->
 Calls P f #[.slice a n cap,.int .i64 (i:Int),.slice (some ⟨b0,0,none⟩) m c0] w λen w'=>∃g:Option Addr×Nat,en=.returned (.slice g.1 (n+m) g.2)/\True/\HS w (fps [.own (.slice a n cap) e sz n xs,.blk b0 e tot2 news]) [.own (.slice g.1 (n+m) g.2) e sz (n+m) (xs.take (i*sz)++news++xs.drop (i*sz)),.blk b0 e tot2 news] w'
noncomputable def QnQ(e sz by':Nat)(H:Hp)(n:Nat):List Value->Option (Value×Hp×Nat)
 | [.slice none l c,.int .i64 (.ofNat i),.slice (some ⟨q,0,_⟩) m _]=>match Xq H q with
  | some rq=>bif (Nat.beq rq.ty e&&(Nat.beq rq.cs.length (m*sz)&&(Nat.blt 0 m&&Nat.ble i l)))&&((Nat.beq l 0&&Nat.beq c 0)&&Nat.ble ((l+m)*by') 140737488355328)then some (.slice (some ⟨n,0,none⟩) (l+m) (l+m),Xs H n ⟨e,sz,rq.cs⟩,n+1)else none
  | none=>none
 | [.slice (some ⟨p,0,none⟩) l c,.int .i64 (.ofNat i),.slice (some ⟨q,0,_⟩) m _]=>match Xq H p,Xq H q with
  | some r,some rq=>bif (Nat.beq rq.ty e&&(Nat.beq rq.cs.length (m*sz)&&(Nat.blt 0 m&&Nat.ble i l)))&&((!Nat.beq q p&&(Nat.beq r.ty e&&(Nat.beq r.sz sz&&(Nat.beq r.cs.length (c*sz)&&Nat.blt 0 sz))))&&((Nat.ble l c&&Nat.ble c maxLen)&&Nat.ble ((l+m)*by') 140737488355328))then some (.slice (some ⟨n,0,none⟩) (l+m) (l+m),Xs (QcH H p) n ⟨e,sz,(r.cs.take (l*sz)).take (i*sz)++rq.cs++(r.cs.take (l*sz)).drop (i*sz)⟩,n+1)else none
  | _,_=>none
 | _=>none
noncomputable def insK:List (Nat×Nat×Nat×Nat)->Qaf
 | [],_,_,_,_=>none
 | (f,e,sz,by')::l,g,vs,H,n=>bif Nat.beq g f then QnQ e sz by' H n vs else insK l g vs H n
theorem Qgf{ρ:Rho}{p o l c:Nat}{u:Value}(h:den ρ (.slice (some ⟨p,o,none⟩) l c)=some u):∃b d,ρ p=some (b,d)/\u=.slice (some ⟨b,o,none⟩) l (c+d):=by grind[den,QQ,Qt,Q8]
theorem QhC{ρ:Rho}{p o l c:Nat}{q:Option Nat}{u:Value}(h:den ρ (.slice (some ⟨p,o,q⟩) l c)=some u):∃b d c',ρ p=some (b,d)/\u=.slice (some ⟨b,o,none⟩) l c':=by cases q<;>grind[Qgf,den,QQ,Qt,Q8]
theorem Q5{α β:Type}{f:α->Option β}{a:α}{l:List α}{m:List β}(h:Qg f (a::l)=some m):∃b m',f a=some b/\Qg f l=some m'/\m=b::m':=by grind[Qg]
theorem Qll{P:Program}{f e sz by':Nat}(hI:InsC P f e sz by'){vs:List Value}{H:Hp}{n:Nat}{v:Value}{H':Hp}{n':Nat}(h:QnQ e sz by' H n vs=some (v,H',n'))(w0:World)(ρ:Rho)(us:List Value)(As:List HA)(hus:Qg (den ρ) vs=some us)(hH:HM ρ H As)(hf:Qq ρ n)(w:World)(hw:HS w0 [] As w):Calls P f us.toArray w (QhM w0 ρ v H' n'):=by
 unfold QnQ at h;split at h
 ·rename_i l c i q x m y;obtain⟨u1,m1,d1,hus1,rfl⟩:=Q5 hus;obtain⟨u2,m2,d2,hus2,rfl⟩:=Q5 hus1;obtain⟨u3,m3,d3,hus3,rfl⟩:=Q5 hus2;cases hus3;cases d1;cases d2;obtain⟨b0,d0,c0,e1,rfl⟩:=QhC d3;split at h
  ·rename_i rq hq;obtain⟨hc,he⟩:=bif_some h
   clear h
   simp only[Bool.and_eq_true]at hc;obtain⟨⟨k1,k2,k3,k4⟩,⟨k5,k6⟩,k7⟩:=hc;have hl0:=Nat.eq_of_beq_eq_true k5;have hc0:=Nat.eq_of_beq_eq_true k6;have hi0:i=0:=by have:=Nat.le_of_ble_eq_true k4;omega
   have hty:=Nat.eq_of_beq_eq_true k1;subst hl0 hc0 hi0 hty;injection he with h1 h2
   injection h2 with h2 h3
   subst h1 h2 h3;obtain⟨b,d,cu,Rs,g1,g2,g3,g4,_,_⟩:=Xd hH hq;rw[g1]at e1;injection e1 with e1
   injection e1 with e1 e3
   subst e1 e3;have hw2:=((hw.perm g4.perm).own_nil rq.ty sz);have hlen:cu.length=m*sz:=by rw[Qz g2];exact Nat.eq_of_beq_eq_true k2
   have hfoc:=HS.focus (Cs:=[.own (.slice none 0 0) rq.ty sz 0 [],.blk b rq.ty (cu.length+d*rq.sz) cu]) (Ds:=Rs) hw2;refine Calls.mono (hI w none 0 0 m 0 [] cu b c0 _ hfoc (by simpa[Nat.blt_eq]using k3) hlen (List.all_eq_true.1 (XU g2)) (λ_ h=>by cases h) (Nat.le_of_ble_eq_true k7) (Nat.le_refl _)) λen w'⟨g,h1,_,h2⟩=>?_;have h3:=HS.callM (Cs:=[.own (.slice none 0 0) rq.ty sz 0 [],.blk b rq.ty (cu.length+d*rq.sz) cu]) (As:=Rs) hw2 (λb hb=>by obtain⟨A,hA,hb⟩:=List.mem_flatMap.1 hb;exact⟨A,hA,hb⟩) h2;have hpos:0<0+m:=by simpa[Nat.blt_eq]using k3
   obtain⟨gg,ga,_,hn,hcm,hxl,h4⟩:=h3.own_blk hpos .here;have h5:HS w0 [] (.blk gg rq.ty (g.2*sz) ([].take (0*sz)++cu++[].drop (0*sz))::As) w':=h4.perm (.cons _ g4.perm.symm);obtain⟨ρ',As',o1,o2,o3,o4,o5⟩:=Qbr (w0:=w0) (e:=rq.ty) (sz:=sz) (k:=0) (m:=m) (g:=(gg,g.2)) (xs:=cu) ⟨As,hH,.refl _⟩ hf g2 hn hcm (by rw[hlen,Nat.zero_add]);refine⟨ρ',As',_,o1,o2,o3,o4,?_,o5 _ (by simpa using h5)⟩;rw[h1,ga]
  ·cases h
 ·rename_i p l c i q x m y;obtain⟨u1,m1,d1,hus1,rfl⟩:=Q5 hus;obtain⟨u2,m2,d2,hus2,rfl⟩:=Q5 hus1;obtain⟨u3,m3,d3,hus3,rfl⟩:=Q5 hus2;cases hus3;cases d2;obtain⟨b9,d9,e9,rfl⟩:=Qgf d1;obtain⟨b0,d0,c0,e1,rfl⟩:=QhC d3;split at h
  ·rename_i r rq hp hq;obtain⟨hc,he⟩:=bif_some h
   clear h
   simp only[Bool.and_eq_true]at hc;obtain⟨⟨k1,k2,k3,k4⟩,⟨k5,k6,k7,k8,k9⟩,⟨k10,k11⟩,k12⟩:=hc;have hty:=Nat.eq_of_beq_eq_true k1;have hty2:=Nat.eq_of_beq_eq_true k6;have hsz2:=Nat.eq_of_beq_eq_true k7;have hlenr:=Nat.eq_of_beq_eq_true k8;have hsz0:0<sz:=by simpa[Nat.blt_eq]using k9
   have hlc:=Nat.le_of_ble_eq_true k10;have hcm:=Nat.le_of_ble_eq_true k11;have hqp:q≠p:=λh=>by subst h;simp[Nat.beq_refl]at k5
   injection he with h1 h2
   injection h2 with h2 h3
   subst h1 h2 h3;obtain⟨b,d,rs,Rs,g1,g2,g3,g4,_,As3,g6,g7⟩:=Xd hH hp;rw[g1]at e9;injection e9 with e9
   injection e9 with e9 e3
   subst e9 e3;obtain⟨b',d',cu,Rs2,f1,f2,f3,f4,_,_⟩:=Xd g6 (by unfold Xq;rw[Qae hqp];exact hq);rw[f1]at e1;injection e1 with e1
   injection e1 with e1 e3
   subst e1 e3;have hlr:=Qz g2
   have hcd:c+d<=maxLen:=by
    unfold QbH at g3;rcases g3 with g3|g3
    ·omega
    ·rw[hlenr,hsz2,<-Nat.add_mul]at g3;exact Nat.le_of_mul_le_mul_right g3 hsz0
   have htot:rs.length+d*r.sz=(c+d)*sz:=by rw[hlr,hlenr,hsz2,Nat.add_mul]
   rw[hty2,htot]at g4;rw[hty]at f4;have hw2:=HS.to_own (n:=l) g4 hw (List.take_append_drop (l*sz) rs).symm (by rw[List.length_take,hlr,hlenr];exact Nat.min_eq_left (Nat.mul_le_mul_right _ hlc)) om hcd;have hw3:=hw2.perm (.cons _ (g7.trans f4.perm));have hlen:cu.length=m*sz:=by rw[Qz f2];exact Nat.eq_of_beq_eq_true k2
   have hfoc:=HS.focus (Cs:=[.own (.slice (some ⟨b,0,none⟩) l (c+d)) e sz l (rs.take (l*sz)),.blk b' e (cu.length+d'*rq.sz) cu]) (Ds:=Rs2) hw3;have hone:=List.all_eq_true.1 (XU g2);refine Calls.mono (hI w _ i l m (c+d) (rs.take (l*sz)) cu b' c0 _ hfoc (by simpa[Nat.blt_eq]using k3) hlen (List.all_eq_true.1 (XU f2)) (λu hu=>hone u (List.mem_of_mem_take hu)) (Nat.le_of_ble_eq_true k12) (Nat.le_of_ble_eq_true k4)) λen w'⟨g,h1,_,h2⟩=>?_;have h3:=HS.callM (Cs:=[.own (.slice (some ⟨b,0,none⟩) l (c+d)) e sz l (rs.take (l*sz)),.blk b' e (cu.length+d'*rq.sz) cu]) (As:=Rs2) hw3 (λb hb=>by obtain⟨A,hA,hb⟩:=List.mem_flatMap.1 hb;exact⟨A,hA,hb⟩) h2
   have hpos:0<l+m:=by
     have:0<m:=by simpa[Nat.blt_eq]using k3
     omega
   obtain⟨gg,ga,_,hn,hcm2,hxl,h4⟩:=h3.own_blk hpos .here;have h5:HS w0 [] (.blk gg e (g.2*sz) ((rs.take (l*sz)).take (i*sz)++cu++(rs.take (l*sz)).drop (i*sz))::As3) w':=h4.perm (.cons _ f4.perm.symm);have hcells:Qg (Qt ρ) ((r.cs.take (l*sz)).take (i*sz)++rq.cs++(r.cs.take (l*sz)).drop (i*sz))=some ((rs.take (l*sz)).take (i*sz)++cu++(rs.take (l*sz)).drop (i*sz)):=Ya (Ya (QX _ (QX _ g2)) f2) (XK _ (QX _ g2));obtain⟨ρ',As',o1,o2,o3,o4,o5⟩:=Qbr (w0:=w0) (e:=e) (sz:=sz) (k:=l) (m:=m) (g:=(gg,g.2)) ⟨As3,g6,.refl _⟩ hf hcells hn hcm2 hxl;refine⟨ρ',As',_,o1,o2,o3,o4,?_,o5 _ h5⟩;rw[h1,ga]
  ·cases h
 ·cases h
theorem insK_ok{P:Program}{r0:Rho}:∀{l:List (Nat×Nat×Nat×Nat)},(∀x∈l,InsC P x.1 x.2.1 x.2.2.1 x.2.2.2)->Qbu P r0 (insK l)
 | [],_=>λ_ _ _ _ _ _ _ h=>by cases h
 | (f,e,sz,by')::l,hl=>by
  intro g vs H n v H' n' h;simp only[insK]at h;cases hb:Nat.beq g f with
  | true=>
   rw[hb]at h;have hg:=Nat.eq_of_beq_eq_true hb;subst hg;exactλw0 ρ us As _ hus hH hf w hw=>Qll (hl _ (List.mem_cons_self ..)) h w0 ρ us As hus hH hf w hw
  | false=>
   rw[hb]at h;exact insK_ok (λx hx=>hl x (List.mem_cons_of_mem _ hx)) g vs H n v H' n' h
end Ev
namespace Ev
open Go Go.RowKit
def QCon(P:Program)(f:FuncId)(φ:List Value->Option Value):Prop:=∀vs v,φ vs=some v->Qes vs=true/\den ⟨λ_=>none,[]⟩ v=some v/\∀w:World,Calls P f vs.toArray w λen w'=>en=.returned v/\Below w.heap.size w w'
noncomputable def knP(e:FuncId->List Value->Option Value):List (FuncId×(List Value->Option Value))->FuncId->List Value->Option Value
 | [],g,vs=>e g vs
 | x::l,g,vs=>bif Nat.beq g x.1 then x.2 vs else knP e l g vs
theorem knP_ok{P:Program}{e:FuncId->List Value->Option Value}(he:Qd4 P e):∀{l:List (FuncId×(List Value->Option Value))},(∀x∈l,Q7 P x.1=true/\QCon P x.1 x.2)->Qd4 P (knP e l)
 | [],_=>he
 | x::l,hl=>by
  intro g vs v h w0 ρ us As hvs o L' args ts ho hev;simp only[knP]at h;cases hb:Nat.beq g x.1 with
  | true=>
   rw[hb]at h;have hg:=Nat.eq_of_beq_eq_true hb;subst hg;obtain⟨hfn,hq⟩:=hl x (List.mem_cons_self ..);obtain⟨h1,h2,h3⟩:=hq vs v h
   have hus:us=vs:=by
    have h4:=Qal (ρ:=ρ) h1;rw[h4]at hvs;exact(Option.some.inj hvs).symm
   subst hus
   have hmono:den ρ v=some v:=by
    have h4:=Zr (ρ:=⟨λ_=>none,ρ.ex⟩) (ρ':=ρ) ⟨λn x h=>(by cases h),rfl⟩ v v h2;exact h4
   refine⟨v,hmono,?_⟩;intro a w hρ hw;rw[YJ ho hρ (show ev L' (.func x.1)=some (.func (.func x.1) #[] #[])from rfl) hfn hev];simp only[Array.empty_append,Array.append_empty];refine Calls.mono (h3 w) λe w'⟨h5,h6⟩=>?_;exact⟨_,h5,rfl,h6⟩
  | false=>
   rw[hb]at h;exact knP_ok he (λy hy=>hl y (List.mem_cons_of_mem _ hy)) g vs v h w0 ρ us As hvs o L' args ts ho hev
theorem Qht{g:FuncId}{vs:List Value}{v:Value}:∀{l:List (FuncId×(List Value->Option Value))},knP (λ_ _=>none) l g vs=some v->∃x∈l,g=x.1/\x.2 vs=some v
 | [],h=>by cases h
 | x::l,h=>by
  simp only[knP]at h;cases hb:Nat.beq g x.1 with
  | true=>
   rw[hb]at h;exact⟨x,List.mem_cons_self ..,Nat.eq_of_beq_eq_true hb,h⟩
  | false=>
   rw[hb]at h;obtain⟨y,hy,h2⟩:=Qht h;exact⟨y,List.mem_cons_of_mem _ hy,h2⟩
noncomputable def knR(K:Qaf)(l:List (FuncId×(List Value->Option Value))):Qaf:=λg vs H n=>match knP (λ_ _=>none) l g vs with
 | some v=>some (v,H,n)
 | none=>K g vs H n
theorem knR_ok{P:Program}{r0:Rho}{K:Qaf}(hK:Qbu P r0 K){l:List (FuncId×(List Value->Option Value))}(hl:∀x∈l,QCon P x.1 x.2):Qbu P r0 (knR K l):=by
 intro g vs H n v H' n' h w0 ρ us As hle hus hH hf w hw;unfold knR at h;split at h
 ·rename_i v2 hv;injection h with h
  injection h with h1 h
  injection h with h2 h3
  subst h1 h2 h3;obtain⟨x,hx,rfl,hφ⟩:=Qht hv;obtain⟨h1,h2,h3⟩:=hl x hx vs v2 hφ;rw[Qal h1]at hus;injection hus with hus
  subst hus;refine Calls.mono (h3 w) λe w'⟨h5,h6⟩=>⟨ρ,As,v2,Rho.le_refl _,hf,Zr (ρ:=⟨λ_=>none,ρ.ex⟩) (ρ':=ρ) ⟨λn x h=>(by cases h),rfl⟩ v2 v2 h2,hH,h5,hw.stable h6⟩
 ·exact hK g vs H n v H' n' h w0 ρ us As hle hus hH hf w hw
noncomputable def Qhr:List Value->Option (List (List UInt8))
 | []=>some []
 | .string b::l=>match Qhr l with
  | some r=>some (b.data.toList::r)
  | none=>none
 | _=>none
theorem Qfz:∀{cs:List Value}{l:List (List UInt8)},Qhr cs=some l->cs=l.map (λs=>Value.string (bs s))/\QI cs=true
 | [],l,h=>by
  injection h with h
  subst h;exact⟨rfl,rfl⟩
 | c::cs,l,h=>by
  cases c with
  | string b=>
   simp only[Qhr]at h;split at h
   ·rename_i r hr;injection h with h
    subst h;obtain⟨h1,h2⟩:=Qfz hr;refine⟨by rw[List.map_cons,<-h1];rfl,?_⟩;simp only[QI,List.all_cons];rw[show Yt (Value.string b)=true from rfl];exact h2
   ·cases h
  | _=>cases h
def SCon(P:Program)(f:FuncId)(φ:List UInt8->List UInt8->List (List UInt8)->Option Value):Prop:=∀t s l v,φ t s l=some v->den ⟨λ_=>none,[]⟩ v=some v/\∀(w:World)(a:Option Addr)(cap:Nat),Vl w a (l.map λs=>Value.string (bs s))->Calls P f #[.string (bs t),.string (bs s),.slice a l.length cap] w λen w'=>en=.returned v/\Below w.heap.size w w'
noncomputable def knS(K:Qaf)(f:FuncId)(φ:List UInt8->List UInt8->List (List UInt8)->Option Value):Qaf:=λg vs H n=>bif Nat.beq g f then(match vs with
 | [.string t,.string s,.slice (some ⟨p,0,none⟩) m c]=>match Xq H p with
  | some r=>bif Nat.beq r.sz 1&&Nat.ble m r.cs.length then(match Qhr (r.cs.take m)with
   | some l=>(match φ t.data.toList s.data.toList l with
    | some v=>some (v,H,n)
    | none=>none)
   | none=>none)else none
  | none=>none
 | [.string t,.string s,.slice none 0 c]=>match φ t.data.toList s.data.toList []with
  | some v=>some (v,H,n)
  | none=>none
 | _=>none)else K g vs H n
theorem knS_ok{P:Program}{r0:Rho}{K:Qaf}(hK:Qbu P r0 K){f:FuncId}{φ:List UInt8->List UInt8->List (List UInt8)->Option Value}(hl:SCon P f φ):Qbu P r0 (knS K f φ):=by
 intro g vs H n v H' n' h w0 ρ us As hle hus hH hf w hw;unfold knS at h;cases hb:Nat.beq g f with
 | false=>
  rw[hb]at h;exact hK g vs H n v H' n' h w0 ρ us As hle hus hH hf w hw
 | true=>
  rw[hb]at h;simp only[cond_true]at h;have hg:=Nat.eq_of_beq_eq_true hb;subst hg;have self:∀{v2:Value},den ⟨λ_=>none,[]⟩ v2=some v2->den ρ v2=some v2:=λ{v2}h2=>Zr (ρ:=⟨λ_=>none,ρ.ex⟩) (ρ':=ρ) ⟨λn x h=>(by cases h),rfl⟩ v2 v2 h2;split at h
  ·rename_i t s p m c;obtain⟨u1,m1,d1,hus1,rfl⟩:=Q5 hus;obtain⟨u2,m2,d2,hus2,rfl⟩:=Q5 hus1;obtain⟨u3,m3,d3,hus3,rfl⟩:=Q5 hus2;cases hus3;cases d1;cases d2;obtain⟨b0,d0,e0,rfl⟩:=Qgf d3;split at h
   ·rename_i r hr;obtain⟨hc,h⟩:=bif_in h;simp only[Bool.and_eq_true]at hc;have hsz:=Nat.eq_of_beq_eq_true hc.1;have hm:=Nat.le_of_ble_eq_true hc.2;split at h
    ·rename_i l hl2;split at h
     ·rename_i v2 hv;injection h with h
      injection h with h1 h
      injection h with h2 h3
      subst h1 h2 h3;obtain⟨b,d,cu,Rs,g1,g2,g3,g4,_,_⟩:=Xd hH hr;rw[g1]at e0;injection e0 with e0
      injection e0 with e0 e1
      subst e0 e1;obtain⟨k1,k2⟩:=Qfz hl2;obtain⟨k3,k4⟩:=hl _ _ _ v2 hv
      have hcu:(cu.take m)=l.map λs=>Value.string (bs s):=by
       have h5:=QX m g2;rw[Xe k2]at h5;injection h5 with h5
       rw[<-h5,k1]
      have hlen:m=l.length:=by
       have h6:=congrArg List.length hcu;rw[List.length_take,List.length_map,Qz g2]at h6;omega
      have hV:Vl w (some ⟨b,0,none⟩) (l.map λs=>Value.string (bs s)):=by
       rw[<-hcu];have hlt:(cu.take m).length<=cu.length:=by rw[List.length_take];omega
       refine hw.sl_blk g4 (n:=(cu.take m).length) (cell:=λi=>((cu.take m)[i]?).toList) λi hi=>?_;have h7:=Qhw (vs:=cu.take m) hi;refine⟨h7.1,λj v hj=>?_⟩;have h8:=h7.2 j v hj;rw[List.getElem?_take]at h8;split at h8
       ·exact h8
       ·cases h8
      have hcall:=k4 w (some ⟨b,0,none⟩) (c+d) hV;rw[<-hlen]at hcall;exact Calls.mono hcall λe w'⟨h5,h6⟩=>⟨ρ,As,v2,Rho.le_refl _,hf,self k3,hH,h5,hw.stable h6⟩
     ·cases h
    ·cases h
   ·cases h
  ·rename_i t s c;obtain⟨u1,m1,d1,hus1,rfl⟩:=Q5 hus;obtain⟨u2,m2,d2,hus2,rfl⟩:=Q5 hus1;obtain⟨u3,m3,d3,hus3,rfl⟩:=Q5 hus2;cases hus3;cases d1;cases d2;cases d3;split at h
   ·rename_i v2 hv;injection h with h
    injection h with h1 h
    injection h with h2 h3
    subst h1 h2 h3;obtain⟨k3,k4⟩:=hl _ _ _ v2 hv;have hV:Vl w none (([]:List (List UInt8)).map λs=>Value.string (bs s)):=⟨λhn=>absurd hn (Nat.lt_irrefl 0)⟩;have hcall:=k4 w none c hV;exact Calls.mono hcall λe w'⟨h5,h6⟩=>⟨ρ,As,v2,Rho.le_refl _,hf,self k3,hH,h5,hw.stable h6⟩
   ·cases h
  ·cases h
end Ev
end Gx
namespace Gx
open Go Go.RowKit
def mtF(t s:List UInt8):Nat->List UInt8->Nat->Bool
 | 0,_,_=>false
 | _+1,[],i=>decide (i=0)
 | f+1,c::r,0=>if c=42 then mtF t s f r 0 else false
 | f+1,c::r,i+1=>if c=42 then mtF t s f r (i+1)||mtF t s f (c::r) i else mtF t s f r i&&(decide (c=63)||decide (t.getD c.toNat 0=t.getD (s.getD i 0).toNat 0))
theorem Qdp{t s:List UInt8}:∀(f:Nat)(r:List UInt8)(i:Nat),r.length+i<f->mtF t s f r i=mtR t s r i
 | 0,_,_,h=>absurd h (Nat.not_lt_zero _)
 | f+1,[],i,h=>by rw[mtF,mtR]
 | f+1,c::r,0,h=>by
  simp only[List.length_cons]at h;rw[mtF,mtR,Qdp f r 0 om]
 | f+1,c::r,i+1,h=>by
  simp only[List.length_cons]at h;rw[mtF,mtR,Qdp f r (i+1) om,Qdp f (c::r) i (by simp only[List.length_cons];omega),Qdp f r i om]
def mtK(t p s:List UInt8):Bool:=mtF t s (p.length+s.length+1) p.reverse s.length
theorem Qm7(t p s:List UInt8):mtK t p s=mtU t p s:=Qdp _ _ _ (by rw[List.length_reverse];omega)
end Gx
namespace Go.Proofs
open Go Go.RowKit Gx
theorem Qns:Ev.InsC Tryz.prog 239 84 2 32:=λw a i n m cap xs news b0 c0 tot2=>c239 w a i n m cap xs news b0 c0 tot2
theorem QnI:Ev.InsC Tryz.prog 302 3 1 8:=λw a i n m cap xs news b0 c0 tot2=>c302 w a i n m cap xs news b0 c0 tot2
def smB(b:ByteArray):Bool:=Nat.ble b.data.toList.length 1000000
theorem Ye{b:ByteArray}(h:smB b=true):b.data.toList.length<=1000000:=Nat.le_of_ble_eq_true h
def Qm2:List Value->Option Value
  | [.string b]=>bif smB b then some (.int .i64 (Q2 b.data.toList))else none
  | _=>none
theorem qc75:Ev.QCon Tryz.prog 75 Qm2:=λvs v h=>by
  unfold Qm2 at h;split at h
  · rename_i b;obtain⟨h1,rfl⟩:=Ev.bif_some h;exact⟨rfl,rfl,λw=>c75 w b.data.toList (Ye h1)⟩
  · cases h
def QnF:List Value->Option Value
  | []=>some (.string (bs Qgl))
  | _=>none
theorem qc82:Ev.QCon Tryz.prog 82 QnF:=λvs v h=>by
  unfold QnF at h;split at h
  · injection h with h
    subst h;exact⟨rfl,rfl,λw=>c82 w⟩
  · cases h
def QkB:List Value->Option Value
  | [.string b]=>bif smB b then some (.bool (Qad b.data.toList))else none
  | _=>none
theorem QnU:Ev.QCon Tryz.prog 171 QkB:=λvs v h=>by
  unfold QkB at h;split at h
  · rename_i b;obtain⟨h1,rfl⟩:=Ev.bif_some h;exact⟨rfl,rfl,λw=>Qno w b.data.toList (Ye h1)⟩
  · cases h
def Qkj:List Value->Option Value
  | [.string t,.string s]=>bif smB t&&smB s then some (.tuple #[.bool (if openE t.data.toList [s.data.toList]=0 then !Qad (up t.data.toList s.data.toList)else false),.int .i64 (openE t.data.toList [s.data.toList])])else none
  | _=>none
theorem QnZ:Ev.QCon Tryz.prog 169 Qkj:=λvs v h=>by
  unfold Qkj at h;split at h
  · rename_i t s;obtain⟨h1,rfl⟩:=Ev.bif_some h;rw[Bool.and_eq_true]at h1;exact⟨rfl,rfl,λw=>c169 w t.data.toList s.data.toList (Ye h1.1) (Ye h1.2)⟩
  · cases h
def QmU:List Value->Option Value
  | [.string t,.string p,.string s]=>bif smB t&&(smB p&&smB s)then some (.tuple #[.bool (if Qep t.data.toList p.data.toList s.data.toList=0 then mtK t.data.toList p.data.toList s.data.toList else false),.int .i64 (Qep t.data.toList p.data.toList s.data.toList)])else none
  | _=>none
theorem qc81:Ev.QCon Tryz.prog 81 QmU:=λvs v h=>by
  unfold QmU at h;split at h
  · rename_i t p s;obtain⟨h1,rfl⟩:=Ev.bif_some h;rw[Bool.and_eq_true,Bool.and_eq_true]at h1;refine⟨rfl,rfl,λw=>?_⟩;have h9:=c81 w t.data.toList p.data.toList s.data.toList (Ye h1.1) (Ye h1.2.1) (Ye h1.2.2);rw[<-Qm7]at h9;exact h9
  · cases h
def QiH:List Value->Option Value
  | [.string a,.string b]=>bif smB a&&smB b then some (.int .i64 (QdE (a.data.toList.map QaX) (b.data.toList.map QaX)))else none
  | _=>none
theorem Qn9:Ev.QCon Tryz.prog 211 QiH:=λvs v h=>by
  unfold QiH at h;split at h
  · rename_i a b;obtain⟨h1,rfl⟩:=Ev.bif_some h;rw[Bool.and_eq_true]at h1;exact⟨rfl,rfl,λw=>c211 w a.data.toList b.data.toList (Ye h1.1) (Ye h1.2)⟩
  · cases h
def Qnt:List Value->Option Value
  | [.agg ⟨[.string a,.string b]⟩]=>bif smB a&&smB b then some (.tuple #[.agg #[.string (bs (dcD ⟨a.data.toList,b.data.toList⟩).nm),.int .i64 (dcD ⟨a.data.toList,b.data.toList⟩).sp,.string (bs (dcD ⟨a.data.toList,b.data.toList⟩).ot),.int .i64 (dcD ⟨a.data.toList,b.data.toList⟩).re,.int .i64 (dcD ⟨a.data.toList,b.data.toList⟩).sq,.int .i64 (dcD ⟨a.data.toList,b.data.toList⟩).fl,.int .i64 (dcD ⟨a.data.toList,b.data.toList⟩).tm,.int .i64 (dcD ⟨a.data.toList,b.data.toList⟩).al,.int .i64 (dcD ⟨a.data.toList,b.data.toList⟩).sz],.int .i64 (dcE ⟨a.data.toList,b.data.toList⟩)])else none
  | _=>none
theorem qc40:Ev.QCon Tryz.prog 40 Qnt:=λvs v h=>by
  unfold Qnt at h;split at h
  · rename_i a b;obtain⟨h1,rfl⟩:=Ev.bif_some h;rw[Bool.and_eq_true]at h1;exact⟨rfl,rfl,λw=>c40 w ⟨a.data.toList,b.data.toList⟩ (Ye h1.1) (Ye h1.2)⟩
  · cases h
def okI(n:Int):Bool:=decide (0<=n/\n<=9223372036854775807)
def QmQ:List Value->Option Value
  | [.agg ⟨[.string a,.int .i64 sp,.string o,.int .i64 re,.int .i64 sq,.int .i64 fl,.int .i64 tm,.int .i64 al,.int .i64 sz]⟩]=>bif (smB a&&smB o)&&((okI re&&okI sq)&&(okI sp&&(okI fl&&(okI tm&&(okI al&&okI sz)))))then some (.agg #[.string (bs (Qa6 ⟨a.data.toList,sp,o.data.toList,re,sq,fl,tm,al,sz⟩).key),.string (bs (Qa6 ⟨a.data.toList,sp,o.data.toList,re,sq,fl,tm,al,sz⟩).val)])else none
  | _=>none
theorem qc98:Ev.QCon Tryz.prog 98 QmQ:=λvs v h=>by
  unfold QmQ at h;split at h
  · rename_i a sp o re sq fl tm al sz;obtain⟨h1,rfl⟩:=Ev.bif_some h;simp only[Bool.and_eq_true]at h1;obtain⟨⟨k1,k2⟩,⟨k3,k4⟩,k5,k6,k7,k8,k9⟩:=h1;exact⟨rfl,rfl,λw=>c98 w ⟨a.data.toList,sp,o.data.toList,re,sq,fl,tm,al,sz⟩ (Ye k1) (Ye k2) (of_decide_eq_true k3) (of_decide_eq_true k4) (of_decide_eq_true k5) (of_decide_eq_true k6) (of_decide_eq_true k7) (of_decide_eq_true k8) (of_decide_eq_true k9)⟩
  · cases h
def Qhc(t s:List UInt8)(ks:List (List UInt8)):Nat->Nat->Option Nat
  | 0,_=>none
  | f+1,k=>if up t (Yn t s k)∈ks then Qhc t s ks f (k+1)else some k
theorem Qfi{t s:List UInt8}{ks:List (List UInt8)}:∀{f k m:Nat},Qhc t s ks f k=some m->k<=m/\m<k+f/\¬up t (Yn t s m)∈ks
  | 0,k,m,h=>by cases h
  | f+1,k,m,h=>by
    unfold Qhc at h;split at h
    · obtain⟨h1,h2,h3⟩:=Qfi h;exact⟨om,om,h3⟩
    · rename_i hn;injection h with h
      subst h;exact⟨om,om,hn⟩
def QiV(t s:List UInt8)(l:List (List UInt8)):Option Value:=bif Nat.ble t.length 1000000&&(Nat.ble s.length 1000000&&(Nat.ble l.length 1000000&&l.all λs=>Nat.ble s.length 1000000))then(match Qhc t s (l.map (up t)) 99 1 with
  | some _=>some (.tuple #[.string (bs (if Zk t s l=0 then(YR t s (l.map (up t))).1 else[])),.int .i64 (if Zk t s l=0 then(YR t s (l.map (up t))).2 else Zk t s l)])
  | none=>none)else none
theorem Qoa:Ev.SCon Tryz.prog 118 QiV:=λt s l v h=>by
  unfold QiV at h;obtain⟨h1,h⟩:=Ev.bif_in h;simp only[Bool.and_eq_true]at h1;obtain⟨k1,k2,k3,k4⟩:=h1;split at h
  · rename_i m hm;injection h with h
    subst h;obtain⟨f1,f2,f3⟩:=Qfi hm;exact⟨rfl,λw a cap hV=>c118 w t s a cap l (Nat.le_of_ble_eq_true k1) (Nat.le_of_ble_eq_true k2) hV (Nat.le_of_ble_eq_true k3) (λs hs=>Nat.le_of_ble_eq_true (List.all_eq_true.1 k4 s hs)) m ⟨f1,om⟩ f3⟩
  · cases h
noncomputable def K14:Ev.CallF:=⟨λ_=>Ev.knS (Ev.knR (Ev.insK [(239,84,2,32),(302,3,1,8)]) [(211,QiH)]) 118 QiV,Ev.knP (Ev.extCS 308) [(75,Qm2),(81,QmU),(169,Qkj),(40,Qnt),(98,QmQ),(171,QkB),(82,QnF)],Ev.noY⟩
theorem Qnr:Ev.KnOk Tryz.prog K14:=⟨λr1 _=>Ev.knS_ok (Ev.knR_ok (Ev.insK_ok λx hx=>by
    rcases List.mem_cons.1 hx with rfl|hx
    · exact Qns
    · rcases List.mem_cons.1 hx with rfl|hx
      · exact QnI
      · cases hx) λx hx=>by
    rcases List.mem_cons.1 hx with rfl|hx
    · exact Qn9
    · cases hx) Qoa,Ev.knP_ok (Ev.extCS_ok QiX) λx hx=>by
  simp only[List.mem_cons,List.mem_nil_iff,or_false]at hx;rcases hx with rfl|rfl|rfl|rfl|rfl|rfl|rfl
  · exact⟨by kernel_rfl,qc75⟩
  · exact⟨by kernel_rfl,qc81⟩
  · exact⟨by kernel_rfl,QnZ⟩
  · exact⟨by kernel_rfl,qc40⟩
  · exact⟨by kernel_rfl,qc98⟩
  · exact⟨by kernel_rfl,QnU⟩
  · exact⟨by kernel_rfl,qc82⟩⟩
theorem Ql3:Tryz.prog.follows .mixedOrders=true:=by kernel_rfl
end Go.Proofs
namespace Go.Proofs
open Go Go.RowKit Gx
set_option maxRecDepth 1000000 in
theorem c11(w:World):CR 11 #[] w (.bool true):=by
  have h:=Ev.ev_run (P:=Tryz.prog) (K:=K14) (Z:=λg=>Ev.memN g [145,40,98,75,81,82,169,171]) (m:=1000) (f:=60) (g:=11) (vs:=[]) (v:=.bool true) Qnr Ql3 rfl rfl (by kernel_rfl) w
  refine Calls.mono h ?_
  intro en w' hh
  obtain⟨h1,h2⟩:=hh
  exact⟨h1,HS.below h2⟩
end Go.Proofs
namespace Gx
open Go Go.RowKit
section
variable{P:Program}{w:World}
def tqF(q:TypeId->Option (List Nat))(P:Program):List Field->Nat->Option (List Nat)
 | [],_=>some []
 | f::fs,k=>if !(f.name== "_")&&Nat.beq f.offset k then
   match q f.type with
   | some ks=>if Nat.beq (P.cellsOf f.type) ks.length&&(P.info? f.type).isSome then(tqF q P fs (k+ks.length)).map (ks++ ·)else none
   | none=>none
  else none
def tqS(P:Program):Nat->TypeId->Option (List Nat)
 | 0,_=>none
 | d+1,t=>match P.underlying t with
  | some (.int _)=>some [0]
  | some .string=>some [1]
  | some .bool=>some [2]
  | some (.struct fs)=>if !P.stoodInHeld t then tqF (tqS P d) P fs.toList 0 else none
  | _=>none
def Qe2(P:Program)(t:TypeId):Bool:=match P.underlying t with
 | some (.struct _)=>true
 | _=>false
def Qjd(P:Program)(t:TypeId):Option (List Nat):=if Qe2 P t&& !P.eqGuardType P.depth t then tqS P 4 t else none
def vOf(P:Program)(t:TypeId)(xs:List Value):Value:=if Qe2 P t then .agg xs.toArray else xs.headD default
theorem QdK:∀{a a' c c':List Value}{b:Bool},a.length=c.length->eqC (a++a') (c++c')=some b->∃p q,eqC a c=some p/\eqC a' c'=some q/\b=(p&&q)
 | [],a',[],c',b,_,h=>⟨true,b,rfl,h,by simp⟩
 | x::a,a',y::c,c',b,hl,h=>by
  simp only[List.cons_append,eqC]at h;split at h
  ·rename_i p q e1 e2;cases h;obtain⟨p',q',h1,h2,h3⟩:=QdK (by simpa using hl) e2;refine⟨p&&p',q',by simp only[eqC,e1,h1],h2,by rw[h3,Bool.and_assoc]⟩
  ·cases h
theorem Qfw{d:Nat}{t:TypeId}{ks:List Nat}(h:tqS P (d+1) t=some ks)(hs:Qe2 P t=false):lfT P t=true/\∃k,tlk P t=some k/\ks=[k]:=by
 unfold tqS at h;unfold Qe2 at hs;unfold lfT tlk;split at h<;>rename_i hu<;>simp only[hu]at hs ⊢ <;>first|(cases h;done)|(cases hs;done)|skip
 all_goals
  cases h;exact⟨trivial,_,rfl,rfl⟩
theorem Qd7{t:TypeId}{k:Nat}{x:Value}(h:tlk P t=some k)(hx:Xb x=k):Qcx P t x=true:=by
 unfold tlk at h;unfold Qcx;split at h<;>first|(cases h;done)|skip
 all_goals
  rename_i hu;cases h;rw[hu];cases x<;>first|rfl|cases hx
theorem Qhe{d:Nat}{t:TypeId}{ks:List Nat}(h:tqS P d t=some ks)(hc:P.cellsOf t=ks.length)(hi:(P.info? t).isSome=true){X:Array Value}{k:Nat}{a r:List Value}(hX:X.toList.drop k=a++r)(ha:a.length=ks.length):(part t X k).run P w=.ok (vOf P t a) w:=by
 cases d with
 | zero=>cases h
 | succ d=>
 cases hs:Qe2 P t with
 | false=>
  obtain⟨hl,kk,_,rfl⟩:=Qfw h hs;obtain⟨x,rfl⟩:∃x,a=[x]:=List.length_eq_one_iff.1 ha;have hx:X[k]?=some x:=by rw[<-Array.getElem?_toList];exact Zi (xs:=r) (by simpa using hX)
  rw[Zq hl hx];simp[vOf,hs]
 | true=>
  have hag:(isAgg t).run P w=.ok true w:=by
   unfold Qe2 at hs;split at hs
   ·rename_i fs hu;simp[isAgg,run_underlying hu]
   ·cases hs
  obtain⟨i,hi⟩:=Option.isSome_iff_exists.1 hi;have hsz:(Go.sizeOf t).run P w=.ok (P.cellsOf t) w:=by simp[Go.sizeOf,typeInfo,hi,Program.cellsOf]
  simp only[part,Sem.run_bind,hag,Result.andThen_ok,if_true,hsz,Sem.run_pure]
  have hex:X.extract k (k+P.cellsOf t)=a.toArray:=by
   apply Array.toList_inj.1;rw[Array.toList_extract,List.extract_eq_take_drop,hX,hc,Nat.add_sub_cancel_left,<-ha,List.take_left]
  rw[hex];simp[vOf,hs]
theorem QgR{D d:Nat}(hq:∀(t:TypeId)(ks:List Nat)(a c:List Value)(b:Bool),tqS P d t=some ks->a.map Xb=ks->c.map Xb=ks->eqC a c=some b->(Op.equalIn D t (vOf P t a) (vOf P t c)).run P w=.ok b w)(X Y:Array Value) :
  ∀(fs:List Field)(k:Nat)(ks:List Nat)(xs ys:List Value)(b:Bool),tqF (tqS P d) P fs k=some ks->X.toList.drop k=xs->Y.toList.drop k=ys->xs.map Xb=ks->ys.map Xb=ks->eqC xs ys=some b->(Op.eqFields D X Y fs).run P w=.ok b w
 | [],k,ks,xs,ys,b,hf,hX,hY,h1,h2,h=>by
  cases hf;cases List.map_eq_nil_iff.1 h1;cases List.map_eq_nil_iff.1 h2;cases h;simp[Op.eqFields]
 | f::fs,k,ks,xs,ys,b,hf,hX,hY,h1,h2,h=>by
  unfold tqF at hf;split at hf
  ·rename_i hno;simp only[Bool.and_eq_true,Bool.not_eq_true',beq_eq_false_iff_ne]at hno;have ho:=Nat.eq_of_beq_eq_true hno.2;split at hf
   ·rename_i kf e1;split at hf
    ·rename_i hci;simp only[Bool.and_eq_true]at hci;have hc:=Nat.eq_of_beq_eq_true hci.1;obtain⟨kr,e2,e3⟩:=Option.map_eq_some_iff.1 hf;subst e3
     have sp:∀{zs:List Value},zs.map Xb=kf++kr->zs=zs.take kf.length++zs.drop kf.length/\(zs.take kf.length).map Xb=kf/\(zs.drop kf.length).map Xb=kr:=by
      intro zs hz;refine⟨(List.take_append_drop _ _).symm,?_,?_⟩
      ·rw[List.map_take,hz,List.take_left]
      ·rw[List.map_drop,hz,List.drop_left]
     obtain⟨s1,s2,s3⟩:=sp h1;obtain⟨t1,t2,t3⟩:=sp h2;have la:(xs.take kf.length).length=kf.length:=by rw[<-List.length_map (f:=Xb),s2]
     have lc:(ys.take kf.length).length=kf.length:=by rw[<-List.length_map (f:=Xb),t2]
     rw[s1,t1]at h;obtain⟨p,q,g1,g2,rfl⟩:=QdK (la.trans lc.symm) h;have pa:=Qhe (w:=w) e1 hc hci.2 (X:=X) (k:=k) (a:=xs.take kf.length) (r:=xs.drop kf.length) (hX.trans s1) la;have pc:=Qhe (w:=w) e1 hc hci.2 (X:=Y) (k:=k) (a:=ys.take kf.length) (r:=ys.drop kf.length) (hY.trans t1) lc;have ih:=QgR hq X Y fs (k+kf.length) kr (xs.drop kf.length) (ys.drop kf.length) q e2 (by rw[<-List.drop_drop,hX]) (by rw[<-List.drop_drop,hY]) s3 t3 g2;have he:=hq f.type kf _ _ p e1 s2 t2 g1;simp only[Op.eqFields,ne_eq,hno.1,not_false_eq_true,if_true,Sem.run_bind,ho,pa,pc,Result.andThen_ok,he];cases p
     ·simp
     ·simpa using ih
    ·cases hf
   ·cases hf
  ·cases hf
theorem Qhy:∀(d e:Nat)(t:TypeId)(ks:List Nat)(xs ys:List Value)(b:Bool),tqS P d t=some ks->xs.map Xb=ks->ys.map Xb=ks->eqC xs ys=some b->(Op.equalIn (d+e) t (vOf P t xs) (vOf P t ys)).run P w=.ok b w
 | 0,e,t,ks,xs,ys,b,ht,h1,h2,h=>by cases ht
 | d+1,e,t,ks,xs,ys,b,ht,h1,h2,h=>by
  rw[show d+1+e=(d+e)+1 from by omega];cases hs:Qe2 P t with
  | false=>
   obtain⟨hl,k,hk,rfl⟩:=Qfw ht hs;obtain⟨x,rfl⟩:∃x,xs=[x]:=List.length_eq_one_iff.1 (by rw[<-List.length_map (f:=Xb),h1];rfl);obtain⟨y,rfl⟩:∃y,ys=[y]:=List.length_eq_one_iff.1 (by rw[<-List.length_map (f:=Xb),h2];rfl);simp only[List.map_cons,List.map_nil,List.cons.injEq,and_true]at h1 h2;simp only[vOf,hs,Bool.false_eq_true,if_false,List.headD_cons];refine QeP (d+e) (Qd7 hk h1) (Qd7 hk h2) ?_;simp only[eqC]at h;split at h
   ·rename_i p q e1 e2;cases e2;cases h;rw[e1];simp
   ·cases h
  | true=>
   simp only[vOf,hs,if_true];have hs0:=hs;unfold Qe2 at hs;split at hs
   ·rename_i fs hu;unfold tqS at ht;simp only[hu]at ht;split at ht
    ·rename_i hc;simp only[Bool.not_eq_true']at hc;have hfo:P.fieldsOf t=fs:=by unfold Program.fieldsOf;rw[hu]
     rw[run_equalIn_struct w (d+e) t _ _ (by rw[hfo];exact hu) hc,hfo];exact QgR (λt ks a c b q1 q2 q3 q4=>Qhy d e t ks a c b q1 q2 q3 q4) _ _ fs.toList 0 ks xs ys b ht (by simp) (by simp) h1 h2 h
    ·cases ht
   ·cases hs
variable{o:Oper}{L:Qa}
theorem QiI{t:TypeId}{ks:List Nat}{xs ys:List Value}{b:Bool}(ht:Qjd P t=some ks)(h1:xs.map Xb=ks)(h2:ys.map Xb=ks)(h:eqC xs ys=some b):(Op.equalIn 10000 t (.agg xs.toArray) (.agg ys.toArray)).run P w=.ok b w/\P.eqGuardType P.depth t=false:=by
 unfold Qjd at ht;split at ht
 ·rename_i hc;simp only[Bool.and_eq_true,Bool.not_eq_true']at hc;have h9:=Qhy (w:=w) 4 9996 t ks xs ys b ht h1 h2 h;simp only[vOf,hc.1,if_true]at h9;exact⟨h9,hc.2⟩
 ·cases ht
theorem Qde{t t':TypeId}{x y:Operand}{xs ys:List Value}{ks:List Nat}{b:Bool}(ho:o.op=.binOp .neq t x y t')(hx:ev L x=some (.agg xs.toArray))(hy:ev L y=some (.agg ys.toArray))(ht:Qjd P t=some ks)(h1:xs.map Xb=ks)(h2:ys.map Xb=ks)(h:eqC xs ys=some b):OpP P o L (.bool (!b)):=by
 intro ρ w hρ;obtain⟨g1,g2⟩:=QiI (w:=w) ht h1 h2 h;simp only[execOp,ho,hρ _ _ hx,hρ _ _ hy,Sem.run_bind,run_eqGuard_agg w _ _ _ _ _ _ g2,run_neq_struct,g1,Result.andThen_ok,Sem.run_pure]
end
end Gx
namespace Go.Proofs
open Go Go.RowKit Gx
attribute [local irreducible] Go.Calls Gx.S Gx.O Gx.D Gx.OpP Gx.OpQ Gx.OpH
set_option maxRecDepth 20000
instance:TFn Tryz.prog 11:=⟨by kernel_rfl⟩
instance:TFn Tryz.prog 39:=⟨by kernel_rfl⟩
instance:TFn Tryz.prog 40:=⟨by kernel_rfl⟩
instance:TFn Tryz.prog 41:=⟨by kernel_rfl⟩
instance:TFn Tryz.prog 42:=⟨by kernel_rfl⟩
instance:TFn Tryz.prog 43:=⟨by kernel_rfl⟩
instance:TFn Tryz.prog 44:=⟨by kernel_rfl⟩
theorem Qm5:Qjd Tryz.prog 66=some [1,0,1,0,0,0,0,0,0]:=by kernel_rfl
theorem QnD:Qjd Tryz.prog 82=some [0,0,0,1]:=by kernel_rfl
theorem QcI:Qgi Tryz.prog 84=some [1,1]:=by kernel_rfl
theorem QkW:Q7 Tryz.prog 46=true:=by kernel_rfl
instance:TFn Tryz.prog 48:=⟨by kernel_rfl⟩
theorem Qkn(x:TEnt)(n:Nat)(hk:x.key.length<=n)(hv:x.val.length<=n):(Qv x).nm.length<=n/\(Qv x).ot.length<=n:=
  ⟨hk,by show(x.val.drop 20).length<=n;rw[List.length_drop];omega⟩
theorem QlC(x:TEnt)(n:Nat)(hk:x.key.length<=n)(hv:x.val.length<=n):(dcD x).nm.length<=n/\(dcD x).ot.length<=n:=by
  unfold dcD;split
  · exact Qkn x n hk hv
  · exact⟨Nat.zero_le _,Nat.zero_le _⟩
theorem QmN{x:TEnt}(h:dcE x=0):Xc (dcD x)=0/\Qa6 (dcD x)=x:=by
  have h1:dcD x=Qv x:=if_pos h;unfold dcE at h;split at h
  · cases h
  · rename_i hl;rw[h1];exact⟨h,Qlm om⟩
theorem Qln(s:List UInt8)(n:Nat)(hv:s.length<=n):(dlD s).nm.length<=n:=by
  unfold dlD;split
  · show(s.drop 8).length<=n;rw[List.length_drop];omega
  · exact Nat.zero_le _
theorem QmH{s:List UInt8}(h:dlE s=0):Xh (dlD s)=0/\Qlf (dlD s)=s:=by
  have h1:dlD s=Yb s:=if_pos h;unfold dlE at h;split at h
  · cases h
  · rename_i hl;obtain⟨a,b⟩:=Qac h;have h2:=QdO (by decide) a;rw[h1];exact⟨b,QjD om (by simpa using h2)⟩
theorem c8z(w:World)(e:DEnt)(l:DLnk)(x:TEnt)(m1:e.nm.length<=9223372036854775807)(m2:e.ot.length<=9223372036854775807)(m3:l.nm.length<=9223372036854775807)(m4:x.key.length<=9223372036854775807)(m5:x.val.length<=9223372036854775807)(hz:¬(e.nm.length<=200/\e.ot.length<=200/\l.nm.length<=200/\x.key.length<=200/\x.val.length<=200)):CR 8 #[.agg #[.string (bs e.nm),.int .i64 e.sp,.string (bs e.ot),.int .i64 e.re,.int .i64 e.sq,.int .i64 e.fl,.int .i64 e.tm,.int .i64 e.al,.int .i64 e.sz],.agg #[.int .i64 l.re,.int .i64 l.sq,.int .i64 l.sp,.string (bs l.nm)],.agg #[.string (bs x.key),.string (bs x.val)]] w (.bool true):=by
 refine eN3 Tryz.func8 Tryz.ntmps8 ?_
 refine aU2 ?_
 refine oBx λb1 _=>?_
 refine oBx λb2 _=>?_
 refine oBx λb3 _=>?_
 refine aU5 ?_
 refine oCq rfl (λw1 h1=>c11 w1) (aU2 ?_)
 refine sCd rfl (λh4=>?_) λh4=>?_
 ·exfalso;simp at h4
 refine aU6 ?_
 refine o_p (Qf rfl rfl Tryz.underlying9) rfl (aU2 ?_)
 refine oOr 5 30 35 rfl
  (λhg5 _=>by
   refine aU5 ?_
   refine o_p (Qf rfl rfl Tryz.underlying9) rfl (aU2 ?_)
   exact oJf 5 35)
  (λhg7 _=>by
   refine aU4 ?_
   exact oJt 5 35) ?_
 refine aU ?_
 refine oOr 5 36 41 rfl
  (λhg9 _=>by
   refine aU5 ?_
   refine o_p (Qf rfl rfl Tryz.underlying9) rfl (aU2 ?_)
   exact oJf 5 41)
  (λhg11 _=>by
   refine aU4 ?_
   exact oJt 5 41) ?_
 refine aU ?_
 refine oOr 5 42 47 rfl
  (λhg13 _=>by
   refine aU5 ?_
   refine o_p (Qf rfl rfl Tryz.underlying9) rfl (aU2 ?_)
   exact oJf 5 47)
  (λhg15 _=>by
   refine aU4 ?_
   exact oJt 5 47) ?_
 refine aU ?_
 refine oOr 5 48 53 rfl
  (λhg17 _=>by
   refine aU5 ?_
   refine o_p (Qf rfl rfl Tryz.underlying9) rfl (aU2 ?_)
   exact oJf 5 53)
  (λhg19 _=>by
   refine aU4 ?_
   exact oJt 5 53) ?_
 refine aU ?_
 refine sCd rfl (λh21=>?_) λh21=>?_
 ·refine aU4 ?_
  exact rV
 exfalso;have hq:=h21;exact hz (by simp at hq;omega)
set_option maxHeartbeats 8000000 in
theorem c8w(w:World)(e:DEnt)(l:DLnk)(x:TEnt)(m1:e.nm.length<=200)(m2:e.ot.length<=200)(m3:l.nm.length<=200)(m4:x.key.length<=200)(m5:x.val.length<=200):CR 8 #[.agg #[.string (bs e.nm),.int .i64 e.sp,.string (bs e.ot),.int .i64 e.re,.int .i64 e.sq,.int .i64 e.fl,.int .i64 e.tm,.int .i64 e.al,.int .i64 e.sz],.agg #[.int .i64 l.re,.int .i64 l.sq,.int .i64 l.sp,.string (bs l.nm)],.agg #[.string (bs x.key),.string (bs x.val)]] w (.bool true):=by
 have hx1:=QlC x 200 m4 m5
 have hx2:=Qln x.val 200 m5
 refine eN3 Tryz.func8 Tryz.ntmps8 ?_
 refine aU2 ?_
 refine oBx λb1 _=>?_
 refine oBx λb2 _=>?_
 refine oBx λb3 _=>?_
 refine aU5 ?_
 refine oCq rfl (λw1 h1=>c11 w1) (aU2 ?_)
 refine sCd rfl (λh4=>?_) λh4=>?_
 ·exfalso;simp at h4
 refine aU6 ?_
 refine o_p (Qf rfl rfl Tryz.underlying9) rfl (aU2 ?_)
 refine oOr 5 30 35 rfl
  (λhg5 _=>by
   refine aU5 ?_
   refine o_p (Qf rfl rfl Tryz.underlying9) rfl (aU2 ?_)
   exact oJf 5 35)
  (λhg7 _=>by
   refine aU4 ?_
   exact oJt 5 35) ?_
 refine aU ?_
 refine oOr 5 36 41 rfl
  (λhg9 _=>by
   refine aU5 ?_
   refine o_p (Qf rfl rfl Tryz.underlying9) rfl (aU2 ?_)
   exact oJf 5 41)
  (λhg11 _=>by
   refine aU4 ?_
   exact oJt 5 41) ?_
 refine aU ?_
 refine oOr 5 42 47 rfl
  (λhg13 _=>by
   refine aU5 ?_
   refine o_p (Qf rfl rfl Tryz.underlying9) rfl (aU2 ?_)
   exact oJf 5 47)
  (λhg15 _=>by
   refine aU4 ?_
   exact oJt 5 47) ?_
 refine aU ?_
 refine oOr 5 48 53 rfl
  (λhg17 _=>by
   refine aU5 ?_
   refine o_p (Qf rfl rfl Tryz.underlying9) rfl (aU2 ?_)
   exact oJf 5 53)
  (λhg19 _=>by
   refine aU4 ?_
   exact oJt 5 53) ?_
 refine aU ?_
 refine sCd rfl (λh21=>?_) λh21=>?_
 ·exfalso;have hq:=h21;first|omega|(simp at hq;omega)
 refine aU4 ?_
 refine oCq rfl (λw1 h1=>c39 w1 e om om) (aU3 ?_)
 refine oAl (λb22 _=>?_) Qan
 refine aU6 ?_
 refine oCq rfl (λw1 h1=>c40 w1 x om om) (aU3 ?_)
 refine oAl (λb23 _=>?_) ZT
 refine aU4 ?_
 refine Qj (L':=[(3,_),(4,_),(5,_),(6,_),(7,_),(8,_),(9,_),(10,_)]) aSx (λ_ h=>h) ?_
 refine aU2 ?_
 refine oCq rfl (λw1 h1=>c41 w1 l om) (Qcf ?_)
 refine oCq rfl (λw1 h1=>c42 w1 x.val om) (aU3 ?_)
 refine oAl (λb24 _=>?_) ZX
 refine aU6 ?_
 refine oCq rfl (λw1 h1=>c43 w1 x om om) (aU3 ?_)
 refine oAl (λb25 _=>?_) ZT
 refine aU4 ?_
 refine Qj (L':=[(3,_),(4,_),(5,_),(6,_),(7,_),(8,_),(9,_),(10,_),(11,_),(12,_),(13,_),(14,_),(15,_),(16,_)]) aSx (λ_ h=>h) ?_
 refine aU3 ?_
 refine oCq rfl (λw1 h1=>c44 w1 x.val om) (aU3 ?_)
 refine oAl (λb26 _=>?_) ZX
 refine Qcf ?_
 refine oOr 4 89 93 rfl
  (λhg27 _=>by
   refine aU5 ?_
   refine o_p (Qde rfl rfl rfl Qm5 (by rfl) (by rfl) (by rfl)) rfl ?_
   exact oJf 4 93)
  (λhg29 _=>by
   refine aU3 ?_
   exact oJt 4 93) ?_
 refine aU ?_
 refine oOr 4 94 98 rfl
  (λhg31 _=>by
   refine aU6 ?_
   exact oJf 4 98)
  (λhg33 _=>by
   refine aU3 ?_
   exact oJt 4 98) ?_
 refine aU ?_
 refine oOr 4 99 103 rfl
  (λhg35 _=>by
   refine aU5 ?_
   refine o_p (Qde rfl rfl rfl QnD (by rfl) (by rfl) (by rfl)) rfl ?_
   exact oJf 4 103)
  (λhg37 _=>by
   refine aU3 ?_
   exact oJt 4 103) ?_
 refine aU ?_
 refine sCd rfl (λh39=>?_) λh39=>?_
 ·exfalso;have hq:=h39;simp at hq
 refine aU3 ?_
 refine Qj (L':=[(3,_),(4,_),(5,_),(6,_),(7,_),(8,_),(9,_),(10,_),(11,_),(12,_),(13,_),(14,_),(16,_)]) aSx (λ_ h=>h) ?_
 refine aU4 ?_
 refine QbO (α:=Unit) [6,19,20,106,107,108,109,110,111,112,113,114,115,116,117] (λ_=>[]) (λ_=>HS w [] [.blk b22 84 2 [.string (bs (if Xc e=0 then Qa6 e else⟨[],[]⟩).key),.string (bs (if Xc e=0 then Qa6 e else⟨[],[]⟩).val)],.blk b24 82 4 [.int .i64 (dlD x.val).re,.int .i64 (dlD x.val).sq,.int .i64 (dlD x.val).sp,.string (bs (dlD x.val).nm)],.blk b1 66 9 [.string (bs e.nm),.int .i64 e.sp,.string (bs e.ot),.int .i64 e.re,.int .i64 e.sq,.int .i64 e.fl,.int .i64 e.tm,.int .i64 e.al,.int .i64 e.sz],.blk b2 82 4 [.int .i64 l.re,.int .i64 l.sq,.int .i64 l.sp,.string (bs l.nm)],.blk b3 84 2 [.string (bs x.key),.string (bs x.val)]]) (λ_=>True) ?_ ?_
 ·skip
  refine sCd rfl (λh40=>?_) λh40=>?_
  ·have hd0:dcE x=0:=by have hq:=h40;simpa using hq
   obtain⟨hd1,hd2⟩:=QmN hd0
   refine aU3 ?_
   refine oCq rfl (λw1 h1=>c39 w1 (dcD x) om om) (aU3 ?_)
   refine oAl (λb41 _=>?_) Qan
   refine aU8 ?_
   refine oOr 4 113 117 rfl
    (λhg42 _=>by
     refine aU5 ?_
     refine o_p (YI rfl rfl rfl QcI (by rfl) (by rfl) (by rfl)) rfl ?_
     exact oJf 4 117)
    (λhg44 _=>by
     refine aU3 ?_
     exact oJt 4 117) ?_
   refine aU ?_
   refine sCd rfl (λh46=>?_) λh46=>?_
   ·exfalso;have hq:=h46;rw[if_pos hd1,hd1,hd2]at hq;simp at hq
   refine aU ?_
   exact XQ () trivial aSx (λw h=>h.ent aEt)
  refine aU ?_
  exact XQ () trivial aSx (λw h=>h.ent aEt)
 intro _ _
 refine aU6 ?_
 refine QbO (α:=Unit) [6,21,22,120,121,122,123,124,125,126,127,128,129,130,131,132] (λ_=>[]) (λ_=>HS w [] [.blk b22 84 2 [.string (bs (if Xc e=0 then Qa6 e else⟨[],[]⟩).key),.string (bs (if Xc e=0 then Qa6 e else⟨[],[]⟩).val)],.blk b1 66 9 [.string (bs e.nm),.int .i64 e.sp,.string (bs e.ot),.int .i64 e.re,.int .i64 e.sq,.int .i64 e.fl,.int .i64 e.tm,.int .i64 e.al,.int .i64 e.sz],.blk b2 82 4 [.int .i64 l.re,.int .i64 l.sq,.int .i64 l.sp,.string (bs l.nm)]]) (λ_=>True) ?_ ?_
 ·skip
  refine sCd rfl (λh47=>?_) λh47=>?_
  ·have hk0:dlE x.val=0:=by have hq:=h47;simpa using hq
   obtain⟨hk1,hk2⟩:=QmH hk0
   refine aU3 ?_
   refine oCq rfl (λw1 h1=>c41 w1 (dlD x.val) om) (Qgz ?_)
   refine oOr 5 127 132 rfl
    (λhg48 _=>by
     refine aU8 ?_
     exact oJf 5 132)
    (λhg50 _=>by
     refine aU4 ?_
     exact oJt 5 132) ?_
   refine aU ?_
   refine sCd rfl (λh52=>?_) λh52=>?_
   ·exfalso;have hq:=h52;rw[if_pos hk1,hk1,hk2]at hq;simp at hq
   refine aU ?_
   exact XQ () trivial aSx (λw h=>h.ent aEt)
  refine aU ?_
  exact XQ () trivial aSx (λw h=>h.ent aEt)
 intro _ _
 refine aU4 ?_
 refine oCq rfl (λw1 h1=>c45 w1 e om om) (aU3 ?_)
 refine Xl [] mixed ?_
 refine dP 0 ?_
 refine dP 1 ?_
 refine dP 2 ?_
 apply XR 137
 ·exact rfl
 ·intro hg53
  have hs54:=hg53;try simp only[Bool.not_eq_true',decide_eq_false_iff_not]at hs54
  refine dPo 3 137 hg53 ?_
  refine dPo 4 137 hg53 ?_
  refine dPo 5 137 hg53 ?_
  refine dPo 6 137 hg53 ?_
  apply XR 141
  ·exact rfl
  ·intro hg55
   have hs56:=hg55;try simp only[Bool.not_eq_true',decide_eq_false_iff_not]at hs56
   refine dOf 7 141 hg55 ?_
   refine dOf 8 141 hg55 ?_
   refine dOf 9 141 hg55 ?_
   refine dVo 10 137 hg53 rfl rfl rfl (Xa rfl rfl hg55 rfl) ?_
   refine dV 11 rfl (Xa rfl rfl hg53 rfl) (dP 12 ?_)
   apply XR 147
   ·exact rfl
   ·intro hg57
    have hs58:=hg57;skip
    refine dOf 13 147 hg57 ?_
    refine dOf 14 147 hg57 ?_
    refine dOf 15 147 hg57 ?_
    refine dOu 16 150 ?_
    refine dOu 17 150 ?_
    refine dOu 18 150 ?_
    refine dOu 19 153 ?_
    refine dOu 20 153 ?_
    refine dOu 21 153 ?_
    refine dOu 22 153 ?_
    refine dOu 23 150 ?_
    refine dOf 24 147 hg57 ?_
    refine dV 25 rfl (Xa rfl rfl hg57 rfl) (dNi ?_)
    refine sCd rfl (λh59=>?_) λh59=>?_
    ·exfalso;have hq:=h59;by_cases h0:Xc e=0<;>simp_all
    refine aU2 ?_
    refine Qj (L':=[(4,_),(11,_),(12,_),(16,_)]) aSx (λ_ h=>h) ?_
    refine aU2 ?_
    refine oCq rfl (λw1 h1=>c47 w1 l om) (aU7 ?_)
    refine Qw 4 165 169 rfl
     (λhg60 _=>by
      refine aU6 ?_
      exact oJt 4 169)
     (λhg62 _=>by
      refine aU3 ?_
      exact oJf 4 169) ?_
    refine aU ?_
    refine Qw 3 170 173 rfl
     (λhg64 _=>by
      refine aU4 ?_
      exact oJt 3 173)
     (λhg66 _=>by
      refine aU2 ?_
      exact oJf 3 173) ?_
    refine aU ?_
    refine oOr 13 174 187 rfl
     (λhg68 _=>by
      refine aU6 ?_
      refine Qw 3 177 180 rfl
       (λhg70 _=>by
        refine aU5 ?_
        exact oJt 3 180)
       (λhg72 _=>by
        refine aU3 ?_
        exact oJf 3 180) ?_
      refine aU2 ?_
      refine Qw 5 181 186 rfl
       (λhg74 _=>by
        refine aU5 ?_
        refine oCq rfl (λw1 h1=>by have h0:Xh l=0:=(by grind);have h9:=Yf h0;exact c48 w1 l om om om om) (aU3 ?_)
        exact oJt 5 186)
       (λhg76 _=>by
        refine aU5 ?_
        exact oJf 5 186) ?_
      exact oJf 7 187)
     (λhg78 _=>by
      refine Z2 ?_
      exact oJt 13 187) ?_
    refine aU2 ?_
    exact rV (h:=by first|rfl|(by_cases h0:Xh l=0<;>simp[h0,QB]))
   intro hg80
   have hs81:=hg80;skip
   refine dPo 13 147 hg80 ?_
   refine dPo 14 147 hg80 ?_
   refine dPo 15 147 hg80 ?_
   apply XR 150
   ·exact rfl
   ·intro hg82
    have hs83:=hg82;try simp only[dT]at hs83
    refine dPo 16 150 hg82 ?_
    refine dPo 17 150 hg82 ?_
    refine dPo 18 150 hg82 ?_
    apply XR 153
    ·exact rfl
    ·intro hg84
     have hs85:=hg84;try simp only[Bool.not_eq_true',decide_eq_false_iff_not]at hs85
     refine dOf 19 153 hg84 ?_
     refine dOf 20 153 hg84 ?_
     refine dOf 21 153 hg84 ?_
     refine dOf 22 153 hg84 ?_
     refine dVo 23 150 hg82 rfl rfl rfl (Xa rfl rfl hg84 rfl) ?_
     refine dVo 24 147 hg80 rfl rfl rfl (Xa rfl rfl hg82 rfl) ?_
     refine dV 25 rfl (QV rfl rfl hg80 rfl) (dNi ?_)
     refine sCd rfl (λh86=>?_) λh86=>?_
     ·exfalso;have hq:=h86;by_cases h0:Xc e=0<;>simp_all
     refine aU2 ?_
     refine Qj (L':=[(4,_),(11,_),(12,_),(16,_)]) aSx (λ_ h=>h) ?_
     refine aU2 ?_
     refine oCq rfl (λw1 h1=>c47 w1 l om) (aU7 ?_)
     refine Qw 4 165 169 rfl
      (λhg87 _=>by
       refine aU6 ?_
       exact oJt 4 169)
      (λhg89 _=>by
       refine aU3 ?_
       exact oJf 4 169) ?_
     refine aU ?_
     refine Qw 3 170 173 rfl
      (λhg91 _=>by
       refine aU4 ?_
       exact oJt 3 173)
      (λhg93 _=>by
       refine aU2 ?_
       exact oJf 3 173) ?_
     refine aU ?_
     refine oOr 13 174 187 rfl
      (λhg95 _=>by
       refine aU6 ?_
       refine Qw 3 177 180 rfl
        (λhg97 _=>by
         refine aU5 ?_
         exact oJt 3 180)
        (λhg99 _=>by
         refine aU3 ?_
         exact oJf 3 180) ?_
       refine aU2 ?_
       refine Qw 5 181 186 rfl
        (λhg101 _=>by
         refine aU5 ?_
         refine oCq rfl (λw1 h1=>by have h0:Xh l=0:=(by grind);have h9:=Yf h0;exact c48 w1 l om om om om) (aU3 ?_)
         exact oJt 5 186)
        (λhg103 _=>by
         refine aU5 ?_
         exact oJf 5 186) ?_
       exact oJf 7 187)
      (λhg105 _=>by
       refine Z2 ?_
       exact oJt 13 187) ?_
     refine aU2 ?_
     exact rV (h:=by first|rfl|(by_cases h0:Xh l=0<;>simp[h0,QB]))
    intro hg107
    have hs108:=hg107;try simp only[Bool.not_eq_false',decide_eq_true_eq]at hs108
    refine dQo 19 153 [] hg107 rfl rfl rfl (Yk rfl rfl Qbw aPk rfl) ?_
    refine dQo 20 153 [] hg107 rfl rfl rfl (Yk rfl rfl QaS aPk rfl) ?_
    refine dQo 21 153 [] hg107 rfl rfl rfl (Ql rfl QkW rfl (λw1 h1=>by have h0:Xc e=0:=(by grind);have h9:=Qeg h0;exact c46 w1 e om om om om om om om om om)) ?_
    refine dVo 22 153 hg107 rfl rfl rfl (YI rfl rfl rfl QcI (by rfl) (by rfl) (by rfl)) ?_
    refine dVo 23 150 hg82 rfl rfl rfl (QV rfl rfl hg107 rfl) ?_
    refine dVo 24 147 hg80 rfl rfl rfl (Xa rfl rfl hg82 rfl) ?_
    refine dV 25 rfl (QV rfl rfl hg80 rfl) (dNi ?_)
    refine sCd rfl (λh109=>?_) λh109=>?_
    ·exfalso;have hq:=h109;by_cases h0:Xc e=0<;>simp_all
    refine aU2 ?_
    refine Qj (L':=[(4,_),(11,_),(12,_),(16,_)]) aSx (λ_ h=>h) ?_
    refine aU2 ?_
    refine oCq rfl (λw1 h1=>c47 w1 l om) (aU7 ?_)
    refine Qw 4 165 169 rfl
     (λhg110 _=>by
      refine aU6 ?_
      exact oJt 4 169)
     (λhg112 _=>by
      refine aU3 ?_
      exact oJf 4 169) ?_
    refine aU ?_
    refine Qw 3 170 173 rfl
     (λhg114 _=>by
      refine aU4 ?_
      exact oJt 3 173)
     (λhg116 _=>by
      refine aU2 ?_
      exact oJf 3 173) ?_
    refine aU ?_
    refine oOr 13 174 187 rfl
     (λhg118 _=>by
      refine aU6 ?_
      refine Qw 3 177 180 rfl
       (λhg120 _=>by
        refine aU5 ?_
        exact oJt 3 180)
       (λhg122 _=>by
        refine aU3 ?_
        exact oJf 3 180) ?_
      refine aU2 ?_
      refine Qw 5 181 186 rfl
       (λhg124 _=>by
        refine aU5 ?_
        refine oCq rfl (λw1 h1=>by have h0:Xh l=0:=(by grind);have h9:=Yf h0;exact c48 w1 l om om om om) (aU3 ?_)
        exact oJt 5 186)
       (λhg126 _=>by
        refine aU5 ?_
        exact oJf 5 186) ?_
      exact oJf 7 187)
     (λhg128 _=>by
      refine Z2 ?_
      exact oJt 13 187) ?_
    refine aU2 ?_
    exact rV (h:=by first|rfl|(by_cases h0:Xh l=0<;>simp[h0,QB]))
   intro hg130
   have hs131:=hg130;try simp only[dN]at hs131
   refine dOf 16 150 hg130 ?_
   refine dOf 17 150 hg130 ?_
   refine dOf 18 150 hg130 ?_
   refine dOu 19 153 ?_
   refine dOu 20 153 ?_
   refine dOu 21 153 ?_
   refine dOu 22 153 ?_
   refine dOf 23 150 hg130 ?_
   refine dVo 24 147 hg80 rfl rfl rfl (QV rfl rfl hg130 rfl) ?_
   refine dV 25 rfl (QV rfl rfl hg80 rfl) (dNi ?_)
   refine sCd rfl (λh132=>?_) λh132=>?_
   ·exfalso;have hq:=h132;by_cases h0:Xc e=0<;>simp_all
   refine aU2 ?_
   refine Qj (L':=[(4,_),(11,_),(12,_),(16,_)]) aSx (λ_ h=>h) ?_
   refine aU2 ?_
   refine oCq rfl (λw1 h1=>c47 w1 l om) (aU7 ?_)
   refine Qw 4 165 169 rfl
    (λhg133 _=>by
     refine aU6 ?_
     exact oJt 4 169)
    (λhg135 _=>by
     refine aU3 ?_
     exact oJf 4 169) ?_
   refine aU ?_
   refine Qw 3 170 173 rfl
    (λhg137 _=>by
     refine aU4 ?_
     exact oJt 3 173)
    (λhg139 _=>by
     refine aU2 ?_
     exact oJf 3 173) ?_
   refine aU ?_
   refine oOr 13 174 187 rfl
    (λhg141 _=>by
     refine aU6 ?_
     refine Qw 3 177 180 rfl
      (λhg143 _=>by
       refine aU5 ?_
       exact oJt 3 180)
      (λhg145 _=>by
       refine aU3 ?_
       exact oJf 3 180) ?_
     refine aU2 ?_
     refine Qw 5 181 186 rfl
      (λhg147 _=>by
       refine aU5 ?_
       refine oCq rfl (λw1 h1=>by have h0:Xh l=0:=(by grind);have h9:=Yf h0;exact c48 w1 l om om om om) (aU3 ?_)
       exact oJt 5 186)
      (λhg149 _=>by
       refine aU5 ?_
       exact oJf 5 186) ?_
     exact oJf 7 187)
    (λhg151 _=>by
     refine Z2 ?_
     exact oJt 13 187) ?_
   refine aU2 ?_
   exact rV (h:=by first|rfl|(by_cases h0:Xh l=0<;>simp[h0,QB]))
  intro hg153
  have hs154:=hg153;try simp only[Bool.not_eq_false',decide_eq_true_eq]at hs154
  refine dQo 7 141 [] hg153 rfl rfl rfl (Yk rfl rfl Qbw aPk rfl) ?_
  refine dVo 8 141 hg153 rfl rfl rfl (QO (cs:=[_,_]) rfl rfl QgZ Qan rfl) ?_
  refine dVo 9 141 hg153 rfl rfl rfl (YI rfl rfl rfl QcI (by rfl) (by rfl) (by rfl)) ?_
  refine dVo 10 137 hg53 rfl rfl rfl (QV rfl rfl hg153 rfl) ?_
  refine dV 11 rfl (Xa rfl rfl hg53 rfl) (dP 12 ?_)
  apply XR 147
  ·exact rfl
  ·intro hg155
   have hs156:=hg155;try simp only[Bool.not_eq_true',Bool.and_eq_false_iff,decide_eq_false_iff_not]at hs156
   refine dOf 13 147 hg155 ?_
   refine dOf 14 147 hg155 ?_
   refine dOf 15 147 hg155 ?_
   refine dOu 16 150 ?_
   refine dOu 17 150 ?_
   refine dOu 18 150 ?_
   refine dOu 19 153 ?_
   refine dOu 20 153 ?_
   refine dOu 21 153 ?_
   refine dOu 22 153 ?_
   refine dOu 23 150 ?_
   refine dOf 24 147 hg155 ?_
   refine dV 25 rfl (Xa rfl rfl hg155 rfl) (dNi ?_)
   refine sCd rfl (λh157=>?_) λh157=>?_
   ·exfalso;have hq:=h157;by_cases h0:Xc e=0<;>simp_all
   refine aU2 ?_
   refine Qj (L':=[(4,_),(11,_),(12,_),(16,_)]) aSx (λ_ h=>h) ?_
   refine aU2 ?_
   refine oCq rfl (λw1 h1=>c47 w1 l om) (aU7 ?_)
   refine Qw 4 165 169 rfl
    (λhg158 _=>by
     refine aU6 ?_
     exact oJt 4 169)
    (λhg160 _=>by
     refine aU3 ?_
     exact oJf 4 169) ?_
   refine aU ?_
   refine Qw 3 170 173 rfl
    (λhg162 _=>by
     refine aU4 ?_
     exact oJt 3 173)
    (λhg164 _=>by
     refine aU2 ?_
     exact oJf 3 173) ?_
   refine aU ?_
   refine oOr 13 174 187 rfl
    (λhg166 _=>by
     refine aU6 ?_
     refine Qw 3 177 180 rfl
      (λhg168 _=>by
       refine aU5 ?_
       exact oJt 3 180)
      (λhg170 _=>by
       refine aU3 ?_
       exact oJf 3 180) ?_
     refine aU2 ?_
     refine Qw 5 181 186 rfl
      (λhg172 _=>by
       refine aU5 ?_
       refine oCq rfl (λw1 h1=>by have h0:Xh l=0:=(by grind);have h9:=Yf h0;exact c48 w1 l om om om om) (aU3 ?_)
       exact oJt 5 186)
      (λhg174 _=>by
       refine aU5 ?_
       exact oJf 5 186) ?_
     exact oJf 7 187)
    (λhg176 _=>by
     refine Z2 ?_
     exact oJt 13 187) ?_
   refine aU2 ?_
   exact rV (h:=by first|rfl|(by_cases h0:Xh l=0<;>simp[h0,QB]))
  intro hg178
  have hs179:=hg178;try simp only[Bool.not_eq_false',Bool.and_eq_true,decide_eq_true_eq]at hs179
  refine dPo 13 147 hg178 ?_
  refine dPo 14 147 hg178 ?_
  refine dPo 15 147 hg178 ?_
  apply XR 150
  ·exact rfl
  ·intro hg180
   have hs181:=hg180;try simp only[dT]at hs181
   refine dPo 16 150 hg180 ?_
   refine dPo 17 150 hg180 ?_
   refine dPo 18 150 hg180 ?_
   apply XR 153
   ·exact rfl
   ·intro hg182
    have hs183:=hg182;try simp only[Bool.not_eq_true',decide_eq_false_iff_not]at hs183
    refine dOf 19 153 hg182 ?_
    refine dOf 20 153 hg182 ?_
    refine dOf 21 153 hg182 ?_
    refine dOf 22 153 hg182 ?_
    refine dVo 23 150 hg180 rfl rfl rfl (Xa rfl rfl hg182 rfl) ?_
    refine dVo 24 147 hg178 rfl rfl rfl (Xa rfl rfl hg180 rfl) ?_
    refine dV 25 rfl (QV rfl rfl hg178 rfl) (dNi ?_)
    refine sCd rfl (λh184=>?_) λh184=>?_
    ·exfalso;have hq:=h184;by_cases h0:Xc e=0<;>simp_all
    refine aU2 ?_
    refine Qj (L':=[(4,_),(11,_),(12,_),(16,_)]) aSx (λ_ h=>h) ?_
    refine aU2 ?_
    refine oCq rfl (λw1 h1=>c47 w1 l om) (aU7 ?_)
    refine Qw 4 165 169 rfl
     (λhg185 _=>by
      refine aU6 ?_
      exact oJt 4 169)
     (λhg187 _=>by
      refine aU3 ?_
      exact oJf 4 169) ?_
    refine aU ?_
    refine Qw 3 170 173 rfl
     (λhg189 _=>by
      refine aU4 ?_
      exact oJt 3 173)
     (λhg191 _=>by
      refine aU2 ?_
      exact oJf 3 173) ?_
    refine aU ?_
    refine oOr 13 174 187 rfl
     (λhg193 _=>by
      refine aU6 ?_
      refine Qw 3 177 180 rfl
       (λhg195 _=>by
        refine aU5 ?_
        exact oJt 3 180)
       (λhg197 _=>by
        refine aU3 ?_
        exact oJf 3 180) ?_
      refine aU2 ?_
      refine Qw 5 181 186 rfl
       (λhg199 _=>by
        refine aU5 ?_
        refine oCq rfl (λw1 h1=>by have h0:Xh l=0:=(by grind);have h9:=Yf h0;exact c48 w1 l om om om om) (aU3 ?_)
        exact oJt 5 186)
       (λhg201 _=>by
        refine aU5 ?_
        exact oJf 5 186) ?_
      exact oJf 7 187)
     (λhg203 _=>by
      refine Z2 ?_
      exact oJt 13 187) ?_
    refine aU2 ?_
    exact rV (h:=by first|rfl|(by_cases h0:Xh l=0<;>simp[h0,QB]))
   intro hg205
   have hs206:=hg205;try simp only[Bool.not_eq_false',decide_eq_true_eq]at hs206
   refine dQo 19 153 [] hg205 rfl rfl rfl (Yk rfl rfl Qbw aPk rfl) ?_
   refine dQo 20 153 [] hg205 rfl rfl rfl (Yk rfl rfl QaS aPk rfl) ?_
   refine dQo 21 153 [] hg205 rfl rfl rfl (Ql rfl QkW rfl (λw1 h1=>by have h0:Xc e=0:=(by grind);have h9:=Qeg h0;exact c46 w1 e om om om om om om om om om)) ?_
   refine dVo 22 153 hg205 rfl rfl rfl (YI rfl rfl rfl QcI (by rfl) (by rfl) (by rfl)) ?_
   refine dVo 23 150 hg180 rfl rfl rfl (QV rfl rfl hg205 rfl) ?_
   refine dVo 24 147 hg178 rfl rfl rfl (Xa rfl rfl hg180 rfl) ?_
   refine dV 25 rfl (QV rfl rfl hg178 rfl) (dNi ?_)
   refine sCd rfl (λh207=>?_) λh207=>?_
   ·exfalso;have hq:=h207;by_cases h0:Xc e=0<;>simp_all
   refine aU2 ?_
   refine Qj (L':=[(4,_),(11,_),(12,_),(16,_)]) aSx (λ_ h=>h) ?_
   refine aU2 ?_
   refine oCq rfl (λw1 h1=>c47 w1 l om) (aU7 ?_)
   refine Qw 4 165 169 rfl
    (λhg208 _=>by
     refine aU6 ?_
     exact oJt 4 169)
    (λhg210 _=>by
     refine aU3 ?_
     exact oJf 4 169) ?_
   refine aU ?_
   refine Qw 3 170 173 rfl
    (λhg212 _=>by
     refine aU4 ?_
     exact oJt 3 173)
    (λhg214 _=>by
     refine aU2 ?_
     exact oJf 3 173) ?_
   refine aU ?_
   refine oOr 13 174 187 rfl
    (λhg216 _=>by
     refine aU6 ?_
     refine Qw 3 177 180 rfl
      (λhg218 _=>by
       refine aU5 ?_
       exact oJt 3 180)
      (λhg220 _=>by
       refine aU3 ?_
       exact oJf 3 180) ?_
     refine aU2 ?_
     refine Qw 5 181 186 rfl
      (λhg222 _=>by
       refine aU5 ?_
       refine oCq rfl (λw1 h1=>by have h0:Xh l=0:=(by grind);have h9:=Yf h0;exact c48 w1 l om om om om) (aU3 ?_)
       exact oJt 5 186)
      (λhg224 _=>by
       refine aU5 ?_
       exact oJf 5 186) ?_
     exact oJf 7 187)
    (λhg226 _=>by
     refine Z2 ?_
     exact oJt 13 187) ?_
   refine aU2 ?_
   exact rV (h:=by first|rfl|(by_cases h0:Xh l=0<;>simp[h0,QB]))
  intro hg228
  have hs229:=hg228;try simp only[dN]at hs229
  refine dOf 16 150 hg228 ?_
  refine dOf 17 150 hg228 ?_
  refine dOf 18 150 hg228 ?_
  refine dOu 19 153 ?_
  refine dOu 20 153 ?_
  refine dOu 21 153 ?_
  refine dOu 22 153 ?_
  refine dOf 23 150 hg228 ?_
  refine dVo 24 147 hg178 rfl rfl rfl (QV rfl rfl hg228 rfl) ?_
  refine dV 25 rfl (QV rfl rfl hg178 rfl) (dNi ?_)
  refine sCd rfl (λh230=>?_) λh230=>?_
  ·exfalso;have hq:=h230;by_cases h0:Xc e=0<;>simp_all
  refine aU2 ?_
  refine Qj (L':=[(4,_),(11,_),(12,_),(16,_)]) aSx (λ_ h=>h) ?_
  refine aU2 ?_
  refine oCq rfl (λw1 h1=>c47 w1 l om) (aU7 ?_)
  refine Qw 4 165 169 rfl
   (λhg231 _=>by
    refine aU6 ?_
    exact oJt 4 169)
   (λhg233 _=>by
    refine aU3 ?_
    exact oJf 4 169) ?_
  refine aU ?_
  refine Qw 3 170 173 rfl
   (λhg235 _=>by
    refine aU4 ?_
    exact oJt 3 173)
   (λhg237 _=>by
    refine aU2 ?_
    exact oJf 3 173) ?_
  refine aU ?_
  refine oOr 13 174 187 rfl
   (λhg239 _=>by
    refine aU6 ?_
    refine Qw 3 177 180 rfl
     (λhg241 _=>by
      refine aU5 ?_
      exact oJt 3 180)
     (λhg243 _=>by
      refine aU3 ?_
      exact oJf 3 180) ?_
    refine aU2 ?_
    refine Qw 5 181 186 rfl
     (λhg245 _=>by
      refine aU5 ?_
      refine oCq rfl (λw1 h1=>by have h0:Xh l=0:=(by grind);have h9:=Yf h0;exact c48 w1 l om om om om) (aU3 ?_)
      exact oJt 5 186)
     (λhg247 _=>by
      refine aU5 ?_
      exact oJf 5 186) ?_
    exact oJf 7 187)
   (λhg249 _=>by
    refine Z2 ?_
    exact oJt 13 187) ?_
  refine aU2 ?_
  exact rV (h:=by first|rfl|(by_cases h0:Xh l=0<;>simp[h0,QB]))
 intro hg251
 have hs252:=hg251;try simp only[Bool.not_eq_false',decide_eq_true_eq]at hs252
 refine dOf 3 137 hg251 ?_
 refine dOf 4 137 hg251 ?_
 refine dOf 5 137 hg251 ?_
 refine dOf 6 137 hg251 ?_
 refine dOu 7 141 ?_
 refine dOu 8 141 ?_
 refine dOu 9 141 ?_
 refine dOf 10 137 hg251 ?_
 refine dV 11 rfl (QV rfl rfl hg251 rfl) (dP 12 ?_)
 apply XR 147
 ·exact rfl
 ·intro hg253
  have hs254:=hg253;skip
  refine dOf 13 147 hg253 ?_
  refine dOf 14 147 hg253 ?_
  refine dOf 15 147 hg253 ?_
  refine dOu 16 150 ?_
  refine dOu 17 150 ?_
  refine dOu 18 150 ?_
  refine dOu 19 153 ?_
  refine dOu 20 153 ?_
  refine dOu 21 153 ?_
  refine dOu 22 153 ?_
  refine dOu 23 150 ?_
  refine dOf 24 147 hg253 ?_
  refine dV 25 rfl (Xa rfl rfl hg253 rfl) (dNi ?_)
  refine sCd rfl (λh255=>?_) λh255=>?_
  ·exfalso;have hq:=h255;by_cases h0:Xc e=0<;>simp_all
  refine aU2 ?_
  refine Qj (L':=[(4,_),(11,_),(12,_),(16,_)]) aSx (λ_ h=>h) ?_
  refine aU2 ?_
  refine oCq rfl (λw1 h1=>c47 w1 l om) (aU7 ?_)
  refine Qw 4 165 169 rfl
   (λhg256 _=>by
    refine aU6 ?_
    exact oJt 4 169)
   (λhg258 _=>by
    refine aU3 ?_
    exact oJf 4 169) ?_
  refine aU ?_
  refine Qw 3 170 173 rfl
   (λhg260 _=>by
    refine aU4 ?_
    exact oJt 3 173)
   (λhg262 _=>by
    refine aU2 ?_
    exact oJf 3 173) ?_
  refine aU ?_
  refine oOr 13 174 187 rfl
   (λhg264 _=>by
    refine aU6 ?_
    refine Qw 3 177 180 rfl
     (λhg266 _=>by
      refine aU5 ?_
      exact oJt 3 180)
     (λhg268 _=>by
      refine aU3 ?_
      exact oJf 3 180) ?_
    refine aU2 ?_
    refine Qw 5 181 186 rfl
     (λhg270 _=>by
      refine aU5 ?_
      refine oCq rfl (λw1 h1=>by have h0:Xh l=0:=(by grind);have h9:=Yf h0;exact c48 w1 l om om om om) (aU3 ?_)
      exact oJt 5 186)
     (λhg272 _=>by
      refine aU5 ?_
      exact oJf 5 186) ?_
    exact oJf 7 187)
   (λhg274 _=>by
    refine Z2 ?_
    exact oJt 13 187) ?_
  refine aU2 ?_
  exact rV (h:=by first|rfl|(by_cases h0:Xh l=0<;>simp[h0,QB]))
 intro hg276
 have hs277:=hg276;skip
 refine dPo 13 147 hg276 ?_
 refine dPo 14 147 hg276 ?_
 refine dPo 15 147 hg276 ?_
 apply XR 150
 ·exact rfl
 ·intro hg278
  have hs279:=hg278;try simp only[dT]at hs279
  refine dPo 16 150 hg278 ?_
  refine dPo 17 150 hg278 ?_
  refine dPo 18 150 hg278 ?_
  apply XR 153
  ·exact rfl
  ·intro hg280
   have hs281:=hg280;try simp only[Bool.not_eq_true',decide_eq_false_iff_not]at hs281
   refine dOf 19 153 hg280 ?_
   refine dOf 20 153 hg280 ?_
   refine dOf 21 153 hg280 ?_
   refine dOf 22 153 hg280 ?_
   refine dVo 23 150 hg278 rfl rfl rfl (Xa rfl rfl hg280 rfl) ?_
   refine dVo 24 147 hg276 rfl rfl rfl (Xa rfl rfl hg278 rfl) ?_
   refine dV 25 rfl (QV rfl rfl hg276 rfl) (dNi ?_)
   refine sCd rfl (λh282=>?_) λh282=>?_
   ·exfalso;have hq:=h282;by_cases h0:Xc e=0<;>simp_all
   refine aU2 ?_
   refine Qj (L':=[(4,_),(11,_),(12,_),(16,_)]) aSx (λ_ h=>h) ?_
   refine aU2 ?_
   refine oCq rfl (λw1 h1=>c47 w1 l om) (aU7 ?_)
   refine Qw 4 165 169 rfl
    (λhg283 _=>by
     refine aU6 ?_
     exact oJt 4 169)
    (λhg285 _=>by
     refine aU3 ?_
     exact oJf 4 169) ?_
   refine aU ?_
   refine Qw 3 170 173 rfl
    (λhg287 _=>by
     refine aU4 ?_
     exact oJt 3 173)
    (λhg289 _=>by
     refine aU2 ?_
     exact oJf 3 173) ?_
   refine aU ?_
   refine oOr 13 174 187 rfl
    (λhg291 _=>by
     refine aU6 ?_
     refine Qw 3 177 180 rfl
      (λhg293 _=>by
       refine aU5 ?_
       exact oJt 3 180)
      (λhg295 _=>by
       refine aU3 ?_
       exact oJf 3 180) ?_
     refine aU2 ?_
     refine Qw 5 181 186 rfl
      (λhg297 _=>by
       refine aU5 ?_
       refine oCq rfl (λw1 h1=>by have h0:Xh l=0:=(by grind);have h9:=Yf h0;exact c48 w1 l om om om om) (aU3 ?_)
       exact oJt 5 186)
      (λhg299 _=>by
       refine aU5 ?_
       exact oJf 5 186) ?_
     exact oJf 7 187)
    (λhg301 _=>by
     refine Z2 ?_
     exact oJt 13 187) ?_
   refine aU2 ?_
   exact rV (h:=by first|rfl|(by_cases h0:Xh l=0<;>simp[h0,QB]))
  intro hg303
  have hs304:=hg303;try simp only[Bool.not_eq_false',decide_eq_true_eq]at hs304
  refine dQo 19 153 [] hg303 rfl rfl rfl (Yk rfl rfl Qbw aPk rfl) ?_
  refine dQo 20 153 [] hg303 rfl rfl rfl (Yk rfl rfl QaS aPk rfl) ?_
  refine dQo 21 153 [] hg303 rfl rfl rfl (Ql rfl QkW rfl (λw1 h1=>by have h0:Xc e=0:=(by grind);have h9:=Qeg h0;exact c46 w1 e om om om om om om om om om)) ?_
  refine dVo 22 153 hg303 rfl rfl rfl (YI rfl rfl rfl QcI (by rfl) (by rfl) (by rfl)) ?_
  refine dVo 23 150 hg278 rfl rfl rfl (QV rfl rfl hg303 rfl) ?_
  refine dVo 24 147 hg276 rfl rfl rfl (Xa rfl rfl hg278 rfl) ?_
  refine dV 25 rfl (QV rfl rfl hg276 rfl) (dNi ?_)
  refine sCd rfl (λh305=>?_) λh305=>?_
  ·exfalso;have hq:=h305;by_cases h0:Xc e=0<;>simp_all
  refine aU2 ?_
  refine Qj (L':=[(4,_),(11,_),(12,_),(16,_)]) aSx (λ_ h=>h) ?_
  refine aU2 ?_
  refine oCq rfl (λw1 h1=>c47 w1 l om) (aU7 ?_)
  refine Qw 4 165 169 rfl
   (λhg306 _=>by
    refine aU6 ?_
    exact oJt 4 169)
   (λhg308 _=>by
    refine aU3 ?_
    exact oJf 4 169) ?_
  refine aU ?_
  refine Qw 3 170 173 rfl
   (λhg310 _=>by
    refine aU4 ?_
    exact oJt 3 173)
   (λhg312 _=>by
    refine aU2 ?_
    exact oJf 3 173) ?_
  refine aU ?_
  refine oOr 13 174 187 rfl
   (λhg314 _=>by
    refine aU6 ?_
    refine Qw 3 177 180 rfl
     (λhg316 _=>by
      refine aU5 ?_
      exact oJt 3 180)
     (λhg318 _=>by
      refine aU3 ?_
      exact oJf 3 180) ?_
    refine aU2 ?_
    refine Qw 5 181 186 rfl
     (λhg320 _=>by
      refine aU5 ?_
      refine oCq rfl (λw1 h1=>by have h0:Xh l=0:=(by grind);have h9:=Yf h0;exact c48 w1 l om om om om) (aU3 ?_)
      exact oJt 5 186)
     (λhg322 _=>by
      refine aU5 ?_
      exact oJf 5 186) ?_
    exact oJf 7 187)
   (λhg324 _=>by
    refine Z2 ?_
    exact oJt 13 187) ?_
  refine aU2 ?_
  exact rV (h:=by first|rfl|(by_cases h0:Xh l=0<;>simp[h0,QB]))
 intro hg326
 have hs327:=hg326;try simp only[dN]at hs327
 refine dOf 16 150 hg326 ?_
 refine dOf 17 150 hg326 ?_
 refine dOf 18 150 hg326 ?_
 refine dOu 19 153 ?_
 refine dOu 20 153 ?_
 refine dOu 21 153 ?_
 refine dOu 22 153 ?_
 refine dOf 23 150 hg326 ?_
 refine dVo 24 147 hg276 rfl rfl rfl (QV rfl rfl hg326 rfl) ?_
 refine dV 25 rfl (QV rfl rfl hg276 rfl) (dNi ?_)
 refine sCd rfl (λh328=>?_) λh328=>?_
 ·exfalso;have hq:=h328;by_cases h0:Xc e=0<;>simp_all
 refine aU2 ?_
 refine Qj (L':=[(4,_),(11,_),(12,_),(16,_)]) aSx (λ_ h=>h) ?_
 refine aU2 ?_
 refine oCq rfl (λw1 h1=>c47 w1 l om) (aU7 ?_)
 refine Qw 4 165 169 rfl
  (λhg329 _=>by
   refine aU6 ?_
   exact oJt 4 169)
  (λhg331 _=>by
   refine aU3 ?_
   exact oJf 4 169) ?_
 refine aU ?_
 refine Qw 3 170 173 rfl
  (λhg333 _=>by
   refine aU4 ?_
   exact oJt 3 173)
  (λhg335 _=>by
   refine aU2 ?_
   exact oJf 3 173) ?_
 refine aU ?_
 refine oOr 13 174 187 rfl
  (λhg337 _=>by
   refine aU6 ?_
   refine Qw 3 177 180 rfl
    (λhg339 _=>by
     refine aU5 ?_
     exact oJt 3 180)
    (λhg341 _=>by
     refine aU3 ?_
     exact oJf 3 180) ?_
   refine aU2 ?_
   refine Qw 5 181 186 rfl
    (λhg343 _=>by
     refine aU5 ?_
     refine oCq rfl (λw1 h1=>by have h0:Xh l=0:=(by grind);have h9:=Yf h0;exact c48 w1 l om om om om) (aU3 ?_)
     exact oJt 5 186)
    (λhg345 _=>by
     refine aU5 ?_
     exact oJf 5 186) ?_
   exact oJf 7 187)
  (λhg347 _=>by
   refine Z2 ?_
   exact oJt 13 187) ?_
 refine aU2 ?_
 exact rV (h:=by first|rfl|(by_cases h0:Xh l=0<;>simp[h0,QB]))
theorem c8(w:World)(e:DEnt)(l:DLnk)(x:TEnt)(m1:e.nm.length<=9223372036854775807)(m2:e.ot.length<=9223372036854775807)(m3:l.nm.length<=9223372036854775807)(m4:x.key.length<=9223372036854775807)(m5:x.val.length<=9223372036854775807):CR 8 #[.agg #[.string (bs e.nm),.int .i64 e.sp,.string (bs e.ot),.int .i64 e.re,.int .i64 e.sq,.int .i64 e.fl,.int .i64 e.tm,.int .i64 e.al,.int .i64 e.sz],.agg #[.int .i64 l.re,.int .i64 l.sq,.int .i64 l.sp,.string (bs l.nm)],.agg #[.string (bs x.key),.string (bs x.val)]] w (.bool true):=by
  by_cases hz:e.nm.length<=200/\e.ot.length<=200/\l.nm.length<=200/\x.key.length<=200/\x.val.length<=200
  · exact c8w w e l x hz.1 hz.2.1 hz.2.2.1 hz.2.2.2.1 hz.2.2.2.2
  · exact c8z w e l x m1 m2 m3 m4 m5 hz
end Go.Proofs
namespace Go.Proofs.YtmhkomoiamljeaaGreatDoor
open Go Go.RowKit Go.ChangeShapes Go.WideShapes Go.ChangeAt Gx Go.Proofs
theorem Qc4{n:Nat}(h:n<=maxLen):n<=9223372036854775807:=by
 simp only[maxLen]at h;omega
theorem len2{cs:List Value}(h:cs.length=2):∃x0 x1,cs=[x0,x1]:=by
 match cs,h with
 | [x0,x1],_=>exact⟨x0,x1,rfl⟩
theorem len4{cs:List Value}(h:cs.length=4):∃x0 x1 x2 x3,cs=[x0,x1,x2,x3]:=by
 match cs,h with
 | [x0,x1,x2,x3],_=>exact⟨x0,x1,x2,x3,rfl⟩
theorem len9{cs:List Value}(h:cs.length=9):∃x0 x1 x2 x3 x4 x5 x6 x7 x8,cs=[x0,x1,x2,x3,x4,x5,x6,x7,x8]:=by
 match cs,h with
 | [x0,x1,x2,x3,x4,x5,x6,x7,x8],_=>exact⟨x0,x1,x2,x3,x4,x5,x6,x7,x8,rfl⟩
theorem Zh:Tryz.prog.cellsOf 3=1:=by kernel_rfl
theorem Qdk:Tryz.prog.cellsOf 9=1:=by kernel_rfl
theorem QhB:Tryz.prog.cellsOf 26=2:=by kernel_rfl
theorem Qlv:Tryz.prog.cellsOf 28=4:=by kernel_rfl
theorem QlU:Tryz.prog.cellsOf 66=9:=by kernel_rfl
theorem QlO:Tryz.prog.cellsOf 82=4:=by kernel_rfl
theorem Ql9:Tryz.prog.cellsOf 84=2:=by kernel_rfl
theorem own8:ownKnob Tryz.prog.godebug=none:=by kernel_rfl
theorem Qn0:laidOutB Tryz.prog=true:=by kernel_rfl
def QhI:List (String×DataW Unit):=[("math/bits.deBruijn32tab",Rows.laid_math_bits_deBruijn32tab),("math/bits.deBruijn64tab",Rows.laid_math_bits_deBruijn64tab),("internal/strconv.uint64pow10",Rows.laid_internal_strconv_uint64pow10)]
set_option maxRecDepth 100000 in
theorem Qlt(os:Os)(started:os.Started)(H:Type)(enc:TypeId×Value->H) :
  ReturnsInHanded {} Tryz.checked os 8 .any (λw args=>(Rows.directoryEntriesSpec.pre enc Tryz.prog Tryz.f8 [] false w args/\laidMetH Tryz.prog QhI w)/\sizedMet enc Tryz.prog Tryz.f8 (OpenSpec.ofChange Rows.directoryEntriesSpec) false w args)
   (Rows.directoryEntriesSpec.post enc Tryz.prog Tryz.f8 false true false false):=by
 refine returnsInHanded_of_change_and (C:=Tryz.checked) (X:=λw _=>laidMetH Tryz.prog QhI w) (λ_ _ _ hh h=>h.of_heap hh) own8 started (by kernel_rfl) Tryz.func8
  (ChangeSpec.witness_shaped (enc:=enc) (C:=Tryz.checked) (os:=os) (X:=λw _=>laidMetH Tryz.prog QhI w) false (World.laidAll Tryz.prog os QhI) #[.agg #[.string (bs []),.int .i64 0,.string (bs []),.int .i64 0,.int .i64 0,.int .i64 0,.int .i64 0,.int .i64 0,.int .i64 0],.agg #[.int .i64 0,.int .i64 0,.int .i64 0,.string (bs [])],.agg #[.string (bs []),.string (bs [])]] 8 (World.laidAll_os _ _ _) (World.shaped_of_ZipB (by kernel_rfl) (by kernel_rfl)) (by kernel_rfl) (by kernel_rfl) (by kernel_rfl) (by rw[MakeChecks.laidMetH_plain _ _ _ (by kernel_rfl)];exact laidMet_laidAll _ (by kernel_rfl) (by kernel_rfl))) ?_
 intro W base args ds gs before hval0 hW _ hsz hL _
 have hval:∀(j:Nat)t v,Tryz.f8.params[j]?=some t->args[j]?=some v->Value.okWide Tryz.prog W .any base t v:=hval0
 have hW':=hW
 obtain⟨p,q,hA0,hV,rfl,hfz,hnd⟩:=hW
 have hA:DataW.TrodAll enc Tryz.prog W 0 (λ_=>true) true Tryz.f8.params.toList args.toList ds p:=hA0
 rw[Tryz.params8]at hA hval
 obtain⟨v0,vs0,d0,ds0,p0,q0,hargs0,rfl,rfl,h0,r0⟩:=trodAll_cons hA
 obtain⟨v1,vs1,d1,ds1,p1,q1,hargs1,rfl,rfl,h1,r1⟩:=trodAll_cons r0
 obtain⟨v2,vs2,d2,ds2,p2,q2,hargs2,rfl,rfl,h2,r2⟩:=trodAll_cons r1
 obtain⟨rfl,rfl,rfl⟩:=trodAll_nil r2
 obtain rfl:args= #[v0,v1,v2]:=by cases args;simp_all
 obtain⟨d2,o1⟩:=Qdq h0
 obtain⟨cs3,rfl,hc4⟩:=Qgs (hval 0 66 v0 rfl rfl) (by rw[Tryz.underlying66])
 rw[hc4]at o1
 obtain⟨d6,len5,o7⟩:=QbN o1 Tryz.underlying66
 rw[QlU]at len5
 obtain⟨x8,x9,x10,x11,x12,x13,x14,x15,x16,rfl⟩:=len9 len5
 simp only[List.mem_cons,List.mem_nil_iff,or_false,forall_eq_or_imp,forall_eq]at o7
 have h17:=o7.1
 rw[Qdk]at h17
 change okT _ _ _ 9 [x8]at h17
 obtain⟨l18,e19,g20⟩:=Qa5 h17 Tryz.underlying9
 cases e19
 have h21:=o7.2.1
 rw[Zh]at h21
 change okT _ _ _ 3 [x9]at h21
 obtain⟨n22,e23,g24⟩:=Ym h21 Tryz.underlying3
 have wf25:=Zb g24
 cases e23
 have h26:=o7.2.2.1
 rw[Qdk]at h26
 change okT _ _ _ 9 [x10]at h26
 obtain⟨l27,e28,g29⟩:=Qa5 h26 Tryz.underlying9
 cases e28
 have h30:=o7.2.2.2.1
 rw[QhB]at h30
 change okT _ _ _ 26 [x11,x12]at h30
 obtain⟨d32,len31,o33⟩:=QbN h30 Tryz.underlying26
 simp only[List.mem_cons,List.mem_nil_iff,or_false,forall_eq_or_imp,forall_eq]at o33
 have h34:=o33.1
 rw[Zh]at h34
 change okT _ _ _ 3 [x11]at h34
 obtain⟨n35,e36,g37⟩:=Ym h34 Tryz.underlying3
 have wf38:=Zb g37
 cases e36
 have h39:=o33.2
 rw[Zh]at h39
 change okT _ _ _ 3 [x12]at h39
 obtain⟨n40,e41,g42⟩:=Ym h39 Tryz.underlying3
 have wf43:=Zb g42
 cases e41
 have h44:=o7.2.2.2.2
 rw[Qlv]at h44
 change okT _ _ _ 28 [x13,x14,x15,x16]at h44
 obtain⟨d46,len45,o47⟩:=QbN h44 Tryz.underlying28
 simp only[List.mem_cons,List.mem_nil_iff,or_false,forall_eq_or_imp,forall_eq]at o47
 have h48:=o47.1
 rw[Zh]at h48
 change okT _ _ _ 3 [x13]at h48
 obtain⟨n49,e50,g51⟩:=Ym h48 Tryz.underlying3
 have wf52:=Zb g51
 cases e50
 have h53:=o47.2.1
 rw[Zh]at h53
 change okT _ _ _ 3 [x14]at h53
 obtain⟨n54,e55,g56⟩:=Ym h53 Tryz.underlying3
 have wf57:=Zb g56
 cases e55
 have h58:=o47.2.2.1
 rw[Zh]at h58
 change okT _ _ _ 3 [x15]at h58
 obtain⟨n59,e60,g61⟩:=Ym h58 Tryz.underlying3
 have wf62:=Zb g61
 cases e60
 have h63:=o47.2.2.2
 rw[Zh]at h63
 change okT _ _ _ 3 [x16]at h63
 obtain⟨n64,e65,g66⟩:=Ym h63 Tryz.underlying3
 have wf67:=Zb g66
 cases e65
 obtain⟨d69,o68⟩:=Qdq h1
 obtain⟨cs70,rfl,hc71⟩:=Qgs (hval 1 82 v1 rfl rfl) (by rw[Tryz.underlying82])
 rw[hc71]at o68
 obtain⟨d73,len72,o74⟩:=QbN o68 Tryz.underlying82
 rw[QlO]at len72
 obtain⟨x75,x76,x77,x78,rfl⟩:=len4 len72
 simp only[List.mem_cons,List.mem_nil_iff,or_false,forall_eq_or_imp,forall_eq]at o74
 have h79:=o74.1
 rw[QhB]at h79
 change okT _ _ _ 26 [x75,x76]at h79
 obtain⟨d81,len80,o82⟩:=QbN h79 Tryz.underlying26
 simp only[List.mem_cons,List.mem_nil_iff,or_false,forall_eq_or_imp,forall_eq]at o82
 have h83:=o82.1
 rw[Zh]at h83
 change okT _ _ _ 3 [x75]at h83
 obtain⟨n84,e85,g86⟩:=Ym h83 Tryz.underlying3
 have wf87:=Zb g86
 cases e85
 have h88:=o82.2
 rw[Zh]at h88
 change okT _ _ _ 3 [x76]at h88
 obtain⟨n89,e90,g91⟩:=Ym h88 Tryz.underlying3
 have wf92:=Zb g91
 cases e90
 have h93:=o74.2.1
 rw[Zh]at h93
 change okT _ _ _ 3 [x77]at h93
 obtain⟨n94,e95,g96⟩:=Ym h93 Tryz.underlying3
 have wf97:=Zb g96
 cases e95
 have h98:=o74.2.2
 rw[Qdk]at h98
 change okT _ _ _ 9 [x78]at h98
 obtain⟨l99,e100,g101⟩:=Qa5 h98 Tryz.underlying9
 cases e100
 obtain⟨d103,o102⟩:=Qdq h2
 obtain⟨cs104,rfl,hc105⟩:=Qgs (hval 2 84 v2 rfl rfl) (by rw[Tryz.underlying84])
 rw[hc105]at o102
 obtain⟨d107,len106,o108⟩:=QbN o102 Tryz.underlying84
 rw[Ql9]at len106
 obtain⟨x109,x110,rfl⟩:=len2 len106
 simp only[List.mem_cons,List.mem_nil_iff,or_false,forall_eq_or_imp,forall_eq]at o108
 have h111:=o108.1
 rw[Qdk]at h111
 change okT _ _ _ 9 [x109]at h111
 obtain⟨l112,e113,g114⟩:=Qa5 h111 Tryz.underlying9
 cases e113
 have h115:=o108.2
 rw[Qdk]at h115
 change okT _ _ _ 9 [x110]at h115
 obtain⟨l116,e117,g118⟩:=Qa5 h115 Tryz.underlying9
 cases e117
 have hcall:=c8 W ⟨l18,n22,l27,n35,n40,n49,n54,n59,n64⟩ ⟨n84,n89,n94,l99⟩ ⟨l112,l116⟩ (Qc4 g20) (Qc4 g29) (Qc4 g101) (Qc4 g114) (Qc4 g118)
 refine(hcall).mono λe W'⟨he,hb⟩=>?_
 subst he
 exact⟨_,rfl,Qii Qn0 (by kernel_rfl) rfl Tryz.underlying4 rfl rfl hW' hb⟩
set_option maxHeartbeats 4000000 in
set_option maxRecDepth 100000 in
theorem QnP:joinedFacts Tryz.pinned.checked.prog 8 Tryz.f8 Rows.directoryEntriesSpec Rows.directoryEntriesRow=true:=by
 unfold joinedFacts
 simp only[Bool.and_eq_true]
 repeat' apply And.intro
 all_goals (as_aux_lemma=>kernel_rfl)
set_option maxRecDepth 100000 in
theorem ZQ:Rows.DirectoryEntriesSaid:=
 OpenClaim.holds_of_wide 8 Tryz.f8 rfl rfl rfl rfl rfl rfl rfl ⟨rfl,rfl,rfl,rfl,rfl⟩ rfl rfl rfl rfl rfl (by kernel_rfl) Tryz.func8 QnP
  (of_decide_eq_true (by kernel_rfl)) (by unfold Func.isWrapper;first|(rw[if_pos (by decide +kernel)];kernel_rfl)|(rw[if_neg (by decide +kernel)];exact⟨rfl,rfl⟩))
  (λos started H enc _=>Qlt os started H enc)
end Go.Proofs.YtmhkomoiamljeaaGreatDoor
