/- Contracts of the program's functions, proved by walking them with the rules of the Gx texts; without conditions beyond those that each contract names. -/
import Derived.WalkKit
import Derived.Deep.Draws
import Derived.TacticsIn
import Derived.OrdersIn
import Derived.RangeFuncLeaves
import Derived.Lib.Strings
import Derived.Laws.BytesArg
import Derived.Laws.IdiomStrings
import Derived.Deep.Quiet
import Derived.ProofKit
import Derived.OpenShut
import Derived.Laws.StructEq
import Derived.ChangeKeysEq
import Derived.Laws.Externs
import Derived.Lib.Overlaps
import Derived.Carry
import Derived.Laws.Small
import Derived.Lib.Bytealg
import Derived.Lib.Builder
import Derived.Laws.Pointers
import Derived.RangeFuncRecord
import Derived.Test.YtpkhkcchibbhmaaGreatDoorProg
import Derived.KernelRfl
import Derived.Test.YtpkhkcchibbhmaaGreatDoorTie
import Derived.Test.YtpkhkcchibbhmaaGreatDoorCards
import Derived.SevenTiedAt
import Derived.LaidMore
import Derived.Lay
import Derived.Stop.Joined
import Derived.Test.YtpkhkcchibbhmaaGreatDoorP5
set_option linter.unusedSimpArgs false
set_option maxHeartbeats 1000000
set_option linter.unusedVariables false
set_option linter.unusedSectionVars false
set_option linter.unnecessarySimpa false
namespace Gx
open Go Go.RowKit
def btN(ns:List Nd):Nat->Nat->BT
 | 0,i=>.nd i [] []
 | f+1,i=>.nd i (nth ns i).es ((nth ns i).cs.map λc=>btN ns f c.toNat)
theorem QfJ(ns:List Nd)(f i:Nat):(btN ns f i).idx=i:=by cases f<;>rfl
theorem Qkp{ns:List Nd}{f:Nat}:∀{cs:List Int},(∀c∈cs,0<=c)->QP (cs.map λc=>btN ns f c.toNat)=cs
 | [],_=>rfl
 | c::cs,h=>by
  rw[List.map_cons,YL,Qkp λx hx=>h x (List.mem_cons_of_mem _ hx),QfJ,Int.toNat_of_nonneg (h c (List.mem_cons_self ..))]
theorem QaN{α:Type}(g:α->BT):∀(cs:List α),nodesL (cs.map g)=cs.flatMap λc=>(g c).nodes
 | []=>rfl
 | c::cs=>by rw[List.map_cons,nodesL,QaN g cs,List.flatMap_cons]
theorem QfZ{α β:Type}{f g:α->List β}:∀{l:List α},(∀x∈l,f x=g x)->l.flatMap f=l.flatMap g
 | [],_=>rfl
 | a::l,h=>by rw[List.flatMap_cons,List.flatMap_cons,h a (List.mem_cons_self ..),QfZ λx hx=>h x (List.mem_cons_of_mem _ hx)]
theorem Qge{α:Type}(F:Int->List α):∀(cs:List Int),((List.range cs.length).flatMap λk=>F (cs.getD k 0))=cs.flatMap F
 | []=>rfl
 | c::cs=>by
  rw[List.length_cons,List.range_succ_eq_map,List.flatMap_cons,List.flatMap_map,List.flatMap_cons,<-Qge F cs];rfl
theorem Qgd{co:Int}{ns:List Nd}(hT:TOk co ns):∀{A B:List Nat}{c:Nat},Gx.Way ns (c::A)->Gx.Way ns (c::B)->A=B
 | [],[],_,_,_=>rfl
 | [],q::B,c,h,h2=>by
  have h0:c=0:=h;have:=(hT.kid q h2.1.2 _ h2.1.1).1.1;omega
 | p::A,[],c,h,h2=>by
  have h0:c=0:=h2;have:=(hT.kid p h.1.2 _ h.1.1).1.1;omega
 | p::A,q::B,c,h,h2=>by
  have e:p=q:=QcT (f:=Nd.cs) hT.once h.1.2 h2.1.2 h.1.1 h2.1.1;subst e;rw[Qgd hT h.2 h2.2]
section
variable{co:Int}{ns:List Nd}
theorem Qfq(hT:TOk co ns){i:Nat}{P:List Nat}{c:Int}(hw:Gx.Way ns (i::P))(hi:i<ns.length)(hc:c∈(nth ns i).cs):Gx.Way ns (c.toNat::i::P):=by
 refine⟨⟨?_,hi⟩,hw⟩;rw[Int.toNat_of_nonneg (by have:=(hT.kid i hi c hc).1.1;omega)];exact hc
theorem Qe3(hT:TOk co ns)(h0:0<ns.length){i:Nat}{P:List Nat}(hw:Gx.Way ns (i::P)):i<ns.length:=QcL hT h0 hw i (List.mem_cons_self ..)
theorem Qqt(hT:TOk co ns)(h0:0<ns.length):∀{i:Nat}{P:List Nat},Gx.Way ns (i::P)->(nth ns i).us=true
 | i,[],h=>by
  have e:i=0:=h;subst e;cases hu:(nth ns 0).us with
  | true=>rfl
  | false=>
   have:=(hT.free 0 h0 hu).1.1;omega
 | i,p::P,h=>by
  have:=(hT.kid p h.1.2 _ h.1.1).2;exact this
theorem QeI(hT:TOk co ns)(h0:0<ns.length):∀(f i:Nat)(P:List Nat),Gx.Way ns (i::P)->P.length+f=ns.length->∀p∈(btN ns f i).nodes,ns[p.1]?=some p.2/\∃Q R,Gx.Way ns (Q++i::P)/\Q++i::P=p.1::R
 | 0,i,P,hw,hf,p,hp=>by
  have:=YP hT h0 hw;simp only[List.length_cons]at this;omega
 | f+1,i,P,hw,hf,p,hp=>by
  have hi:=Qe3 hT h0 hw
  have hk:∀c∈(nth ns i).cs,0<=c:=λc hc=>by
   have:=(hT.kid i hi c hc).1.1;omega
  rw[btN,BT.nodes,Qkp hk,QaN]at hp;rcases List.mem_cons.1 hp with rfl|hp
  ·refine⟨?_,[],P,hw,rfl⟩;have hu:=Qqt hT h0 hw;rw[Xk hi];show some (nth ns i)=some ⟨true,(nth ns i).es,(nth ns i).cs⟩;rw[<-hu]
  ·obtain⟨c,hc,hp⟩:=List.mem_flatMap.1 hp;obtain⟨h1,Q,R,h2,h3⟩:=QeI hT h0 f c.toNat (i::P) (Qfq hT hw hi hc) (by simp only[List.length_cons];omega) p hp;refine⟨h1,Q++[c.toNat],R,?_,?_⟩
   ·rw[List.append_assoc];exact h2
   ·rw[List.append_assoc];exact h3
theorem QoI(hT:TOk co ns)(h0:0<ns.length):∀(f i:Nat)(P:List Nat),Gx.Way ns (i::P)->P.length+f=ns.length->((btN ns f i).nodes.map Prod.fst).Nodup
 | 0,i,P,hw,hf=>by
  have:=YP hT h0 hw;simp only[List.length_cons]at this;omega
 | f+1,i,P,hw,hf=>by
  have hi:=Qe3 hT h0 hw;have hlen:(i::P).length+f=ns.length:=by simp only[List.length_cons];omega
  rw[btN,BT.nodes,QaN,List.map_cons,List.map_flatMap];refine List.nodup_cons.2 ⟨λhm=>?_,?_⟩
  ·obtain⟨c,hc,hm⟩:=List.mem_flatMap.1 hm;obtain⟨p,hp,e⟩:=List.mem_map.1 hm;obtain⟨_,Q,R,h2,h3⟩:=QeI hT h0 f c.toNat (i::P) (Qfq hT hw hi hc) hlen p hp;rw[h3,e]at h2;have h4:=Qgd hT h2 hw;have h5:=congrArg List.length h3;rw[h4]at h5;simp only[List.length_append,List.length_cons]at h5;omega
  ·refine List.pairwise_flatMap.2 ⟨λc hc=>QoI hT h0 f c.toNat (i::P) (Qfq hT hw hi hc) hlen,?_⟩;refine(QgB (f:=Nd.cs) hT.once hi).imp_of_mem λ{c c'}hc hc' hne x hx y hy exy=>?_;subst exy;obtain⟨p,hp,e⟩:=List.mem_map.1 hx;obtain⟨q,hq,e'⟩:=List.mem_map.1 hy;obtain⟨_,Q,R,h2,h3⟩:=QeI hT h0 f c.toNat (i::P) (Qfq hT hw hi hc) hlen p hp;obtain⟨_,Q',R',h2',h3'⟩:=QeI hT h0 f c'.toNat (i::P) (Qfq hT hw hi hc') hlen q hq;rw[e]at h3;rw[e']at h3';have h4:=Qgd hT (h3▸h2) (h3'▸h2');have h5:Q++c.toNat::i::P=Q'++c'.toNat::i::P:=by rw[h3,h3',h4]
   have h6:Q.length=Q'.length:=by
    have:=congrArg List.length h5;simp only[List.length_append,List.length_cons]at this;omega
   have h7:=(List.append_inj h5 h6).2;have h8:c.toNat=c'.toNat:=(List.cons.inj h7).1;have k1:=(hT.kid i hi c hc).1.1;have k2:=(hT.kid i hi c' hc').1.1;exact hne om
theorem Qk6(hT:TOk co ns)(h0:0<ns.length):∀(f:Nat)(v:Vis)(P:List Nat),Gx.Way ns (v.i::P)->P.length+f=ns.length->(vis ns f v).map Vis.i=(btN ns f v.i).nodes.map Prod.fst
 | 0,v,P,hw,hf=>by
  have:=YP hT h0 hw;simp only[List.length_cons]at this;omega
 | f+1,v,P,hw,hf=>by
  have hi:=Qe3 hT h0 hw;rw[vis,btN,BT.nodes,QaN,List.map_cons,List.map_cons,List.map_flatMap,List.map_flatMap];congr 1;rw[<-Qge];refine QfZ λk hk=>?_;have hkl:=List.mem_range.1 hk
  have hc:(nth ns v.i).cs.getD k 0∈(nth ns v.i).cs:=by
   rw[List.getD_eq_getElem?_getD,List.getElem?_eq_getElem hkl];exact List.getElem_mem hkl
  exact Qk6 hT h0 f ⟨((nth ns v.i).cs.getD k 0).toNat,v.d+1,loK (nth ns v.i).es k v.lo,hiK (nth ns v.i).es k v.hi⟩ (v.i::P) (Qfq hT hw hi hc) (by simp only[List.length_cons];omega)
end
def InB(co:Int)(lo hi:Option (List UInt8))(x:TEnt):Prop:=(∀b,lo=some b->QX co b x.key<0)/\(∀b,hi=some b->QX co x.key b<0)
theorem QjE{t:Tre}{v:Vis}{x:TEnt}:Qaq t v x=true ↔ (∃b,v.lo=some b/\0<=QX t.co b x.key)\/(∃b,v.hi=some b/\0<=QX t.co x.key b):=by
 unfold Qaq;cases v.lo<;>cases v.hi<;>simp
theorem QuS{t:Tre}{v:Vis}{x:TEnt}(h:¬Qaq t v x=true):InB t.co v.lo v.hi x:=by
 rw[QjE]at h;refine⟨λb hb=>?_,λb hb=>?_⟩
 ·rcases Int.lt_or_le (QX t.co b x.key) 0 with h1|h1
  ·exact h1
  ·exact absurd (.inl ⟨b,hb,h1⟩) h
 ·rcases Int.lt_or_le (QX t.co x.key b) 0 with h1|h1
  ·exact h1
  ·exact absurd (.inr ⟨b,hb,h1⟩) h
theorem QhD{co:Int}{hi:Option (List UInt8)}:∀{es:List TEnt}{ks:List BT}{lo:Option (List UInt8)},ks.length=es.length+1->Srt co es->(∀x∈es,InB co lo hi x) ->
  (∀k,k<ks.length->Srt co (nth ks k).flat/\∀x∈(nth ks k).flat,InB co (loK es k lo) (hiK es k hi) x)->Srt co (flatL es ks)/\∀x∈flatL es ks,InB co lo hi x
 | [],[],_,h,_,_,_=>absurd h (by simp)
 | [],k::k'::ks,_,h,_,_,_=>absurd h (by simp)
 | [],[k],lo,_,_,_,hk=>by
  rw[flatL,flatL,List.append_nil];exact hk 0 (by simp)
 | e::es,[],_,h,_,_,_=>absurd h (by simp)
 | e::es,k::ks,lo,hl,hs,hb,hk=>by
  have hp:=List.pairwise_cons.1 hs;have he:=hb e (List.mem_cons_self ..);have h0:=hk 0 (by simp);have e0:nth (k::ks) 0=k:=rfl;have e1:loK (e::es) 0 lo=lo:=if_neg (Nat.lt_irrefl 0);have e2:hiK (e::es) 0 hi=some e.key:=if_pos (by simp);rw[e0,e1,e2]at h0
  have ih:=QhD (co:=co) (hi:=hi) (es:=es) (ks:=ks) (lo:=some e.key) (by simpa using hl) hp.2 (λx hx=>⟨λb hb'=>by injection hb' with hb';subst hb';exact hp.1 x hx,(hb x (List.mem_cons_of_mem _ hx)).2⟩) (λq hq=>by
   have h1:=hk (q+1) (by simpa using hq);have e3:nth (k::ks) (q+1)=nth ks q:=rfl
   have e4:loK (e::es) (q+1) lo=loK es q (some e.key):=by
    unfold loK;rw[if_pos om];rcases Nat.eq_zero_or_pos q with h9|h9
    ·subst h9;rfl
    ·rw[if_pos h9];obtain⟨r,rfl⟩:∃r,q=r+1:=⟨q-1,om⟩;rfl
   have e5:hiK (e::es) (q+1) hi=hiK es q hi:=by
    unfold hiK
    by_cases h9:q<es.length
    ·rw[if_pos h9,if_pos (by simpa using h9)];rfl
    ·rw[if_neg h9,if_neg (by simpa using h9)]
   rw[e3,e4,e5]at h1;exact h1)
  rw[flatL];have hge:∀x∈flatL es ks,QX co e.key x.key<0:=λx hx=>(ih.2 x hx).1 _ rfl;have hle:∀x∈k.flat,QX co x.key e.key<0:=λx hx=>(h0.2 x hx).2 _ rfl;refine⟨List.pairwise_append.2 ⟨h0.1,List.pairwise_cons.2 ⟨hge,ih.1⟩,λx hx y hy=>?_⟩,λx hx=>?_⟩
  ·rcases List.mem_cons.1 hy with rfl|hy
   ·exact hle x hx
   ·exact YU (hle x hx) (hge y hy)
  ·rcases List.mem_append.1 hx with hx|hx
   ·exact⟨(h0.2 x hx).1,λb hb'=>YU (hle x hx) (he.2 b hb')⟩
   ·rcases List.mem_cons.1 hx with rfl|hx
    ·exact he
    ·exact⟨λb hb'=>YU (he.1 b hb') (hge x hx),(ih.2 x hx).2⟩
theorem Qlm{t:Tre}{deep:Int}{v:Vis}(h:Qct t deep v=0):¬Z8 t v=true/\(∀x∈(nth t.ns v.i).es,InB t.co v.lo v.hi x)/\((nth t.ns v.i).cs.length=0->v.d=deep+1):=by
 rw[Qbd]at h;split at h
 ·exact absurd h (by decide)
 ·rename_i h1;split at h
  ·exact absurd h (by decide)
  ·rename_i h2;split at h
   ·exact absurd h (by decide)
   ·rename_i h3;refine⟨h1,λx hx=>QuS λh4=>h2 ?_,λh4=>?_⟩
    ·unfold Z2;exact List.any_eq_true.2 ⟨x,hx,h4⟩
    ·rcases Int.lt_trichotomy v.d (deep+1)with h5|h5|h5
     ·exact absurd ⟨h4,om⟩ h3
     ·exact h5
     ·exact absurd ⟨h4,om⟩ h3
theorem Qn4{t:Tre}(h:(Ym t t.ns.length 0 []).2=0){i:Nat}(hi:i<t.ns.length)(hu:(nth t.ns i).us=true):((nth t.ns i).es.length:Int)<=YB t.mo t.rm i:=by
 obtain⟨s,hs⟩:=(Qc3 (f:=t.ns.length) (i:=0) om h List.nodup_nil).1 i (Nat.zero_le _) hi;rw[Qhv t i hu]at hs;have h4:nE4 t i s=0:=hs;unfold nE4 at h4;split at h4
 ·rename_i h3;have h2:=QtJ t i h3;unfold nE2 at h2;split at h2
  ·rename_i h1;unfold nE1 at h1;split at h1
   ·assumption
   ·exact absurd h1 (by decide)
  ·rename_i h1;exact absurd h2 h1
 ·rename_i h3;exact absurd h4 h3
theorem QnB{t:Tre}{deep:Int}{lo hi rt:Nat}(hz:Sz t.mo t.rm lo hi rt)(hT:TOk t.co t.ns)(h0:0<t.ns.length)(hmost:∀i,i<t.ns.length->(nth t.ns i).us=true->((nth t.ns i).es.length:Int)<=YB t.mo t.rm i):∀(f:Nat)(v:Vis)(P:List Nat),Gx.Way t.ns (v.i::P)->P.length+f=t.ns.length->(∀u∈vis t.ns f v,Qct t deep u=0) ->
  ∃d:Nat,v.d+(d:Int)=deep+1/\Bel lo hi d (btN t.ns f v.i)/\Srt t.co (btN t.ns f v.i).flat/\∀x∈(btN t.ns f v.i).flat,InB t.co v.lo v.hi x
 | 0,v,P,hw,hf,_=>by
  have:=YP hT h0 hw;simp only[List.length_cons]at this;omega
 | f+1,v,P,hw,hf,hE=>by
  have hi':=Qe3 hT h0 hw;have hv:=Qlm (hE v (by rw[vis];exact List.mem_cons_self ..));have hasc:=Srt.of_asc (hT.asc v.i hi');rw[btN,BT.flat];rcases hT.shape v.i hi' with hs|hs
  ·have hcs:(nth t.ns v.i).cs=[]:=List.eq_nil_of_length_eq_zero hs;rw[hcs,List.map_nil,Q5];exact⟨0,by have:=hv.2.2 hs;simpa using this,rfl,hasc,hv.2.1⟩
  ·have key:∀k,k<(nth t.ns v.i).cs.length->∃d:Nat,v.d+1+(d:Int)=deep+1/\Bal lo hi d (btN t.ns f ((nth t.ns v.i).cs.getD k 0).toNat)/\Srt t.co (btN t.ns f ((nth t.ns v.i).cs.getD k 0).toNat).flat/\∀x∈(btN t.ns f ((nth t.ns v.i).cs.getD k 0).toNat).flat,InB t.co (loK (nth t.ns v.i).es k v.lo) (hiK (nth t.ns v.i).es k v.hi) x:=λk hk=>by
    have hc:(nth t.ns v.i).cs.getD k 0∈(nth t.ns v.i).cs:=by
     rw[List.getD_eq_getElem?_getD,List.getElem?_eq_getElem hk];exact List.getElem_mem hk
    have hwk:=Qfq hT hw hi' hc
    have hmem:∀u∈vis t.ns f (Yj t.ns v k),u∈vis t.ns (f+1) v:=λu hu=>by
     rw[vis];exact List.mem_cons_of_mem _ (List.mem_flatMap.2 ⟨k,List.mem_range.2 hk,hu⟩)
    obtain⟨d,h1,h2,h3,h4⟩:=QnB hz hT h0 hmost f (Yj t.ns v k) (v.i::P) hwk (by simp only[List.length_cons];omega) λu hu=>hE u (hmem u hu);have hki:=Qe3 hT h0 hwk;have hku:=Qqt hT h0 hwk;have hk1:=(hT.kid v.i hi' _ hc).1.1
    obtain⟨f',rfl⟩:∃f',f=f'+1:=by
     cases f with
     | zero=>
      have:=YP hT h0 hwk;simp only[List.length_cons]at this;omega
     | succ f'=>exact⟨f',rfl⟩
    have hkv:=Qlm (hE (Yj t.ns v k) (hmem _ (by rw[vis];exact List.mem_cons_self ..)));refine⟨d,h1,XI.2 ⟨h2,?_,?_⟩,h3,h4⟩
    ·have hg:=hkv.1;unfold Z8 at hg;simp only[Bool.and_eq_true,Bool.or_eq_true,decide_eq_true_eq,not_and,not_or]at hg;have h5:=(hg (show 0<(Yj t.ns v k).i by show 0<((nth t.ns v.i).cs.getD k 0).toNat;omega)).1;have e1:=hz.emo;have e2:=hz.elo;show lo<=(nth t.ns ((nth t.ns v.i).cs.getD k 0).toNat).es.length;have h6:¬((nth t.ns ((nth t.ns v.i).cs.getD k 0).toNat).es.length:Int)<t.mo/2:=h5;omega
    ·have h5:=hmost _ hki hku;unfold YB at h5;rw[if_neg om]at h5;have e1:=hz.emo;show(nth t.ns ((nth t.ns v.i).cs.getD k 0).toNat).es.length<=hi;omega
   obtain⟨d,hd,_⟩:=key 0 om
   have hnk:∀k,k<(nth t.ns v.i).cs.length->nth ((nth t.ns v.i).cs.map λc=>btN t.ns f c.toNat) k=btN t.ns f ((nth t.ns v.i).cs.getD k 0).toNat:=λk hk=>Q2 (by
    rw[List.getElem?_map,List.getElem?_eq_getElem hk,List.getD_eq_getElem?_getD,List.getElem?_eq_getElem hk];rfl)
   have hfl:=QhD (co:=t.co) (hi:=v.hi) (es:=(nth t.ns v.i).es) (ks:=(nth t.ns v.i).cs.map λc=>btN t.ns f c.toNat) (lo:=v.lo) (by rw[List.length_map];exact hs) hasc hv.2.1 λk hk=>by
    rw[List.length_map]at hk;rw[hnk k hk];obtain⟨_,_,_,h3,h4⟩:=key k hk;exact⟨h3,h4⟩
   refine⟨d+1,by simp only[Int.natCast_add,Int.natCast_one];omega,⟨by show(List.map _ _).length=_;rw[List.length_map];exact hs,λk hk=>?_⟩,hfl.1,hfl.2⟩;obtain⟨c,hc,rfl⟩:=List.mem_map.1 hk;obtain⟨q,hq,rfl⟩:=List.getElem_of_mem hc;obtain⟨d2,hd2,h2,_⟩:=key q hq;have e:d2=d:=om
   subst e;rw[List.getD_eq_getElem?_getD,List.getElem?_eq_getElem hq]at h2;exact h2
mutual
theorem Qb0:∀(T:BT)(x:TEnt),x∈T.flat->∃p∈T.nodes,x∈p.2.es
 | .nd i es ks,x,h=>by
  rw[BT.flat]at h;rw[BT.nodes];rcases flat_nodesL es ks x h with h|⟨p,hp,hx⟩
  ·exact⟨_,List.mem_cons_self ..,h⟩
  ·exact⟨p,List.mem_cons_of_mem _ hp,hx⟩
theorem flat_nodesL:∀(es:List TEnt)(ks:List BT)(x:TEnt),x∈flatL es ks->x∈es\/∃p∈nodesL ks,x∈p.2.es
 | es,[],x,h=>by
  rw[Q5]at h;exact .inl h
 | [],k::ks,x,h=>by
  rw[flatL]at h;rw[nodesL];rcases List.mem_append.1 h with h|h
  ·obtain⟨p,hp,hx⟩:=Qb0 k x h;exact .inr ⟨p,List.mem_append_left _ hp,hx⟩
  ·rcases flat_nodesL [] ks x h with h|⟨p,hp,hx⟩
   ·exact .inl h
   ·exact .inr ⟨p,List.mem_append_right _ hp,hx⟩
 | e::es,k::ks,x,h=>by
  rw[flatL]at h;rw[nodesL];rcases List.mem_append.1 h with h|h
  ·obtain⟨p,hp,hx⟩:=Qb0 k x h;exact .inr ⟨p,List.mem_append_left _ hp,hx⟩
  ·rcases List.mem_cons.1 h with rfl|h
   ·exact .inl (List.mem_cons_self ..)
   ·rcases flat_nodesL es ks x h with h|⟨p,hp,hx⟩
    ·exact .inl (List.mem_cons_of_mem _ h)
    ·exact .inr ⟨p,List.mem_append_right _ hp,hx⟩
end
theorem QoN{t:Tre}(h:(XV t).2=0):∃T d,QU t.ns T/\VT t.co (t.mo.toNat/2) t.mo.toNat t.rm.toNat d T/\Sz t.mo t.rm (t.mo.toNat/2) t.mo.toNat t.rm.toNat/\X1 t.ns:=by
 obtain⟨hc,hs,h0,hl,hn,hsh,_⟩:=YJ h;have hT:=Zp hn;have hz:=QwP hs
 have hop:Z9 t.ns ((Y2 t.ns).map Vis.i) t.ns.length 0=none:=by
  cases e:Z9 t.ns ((Y2 t.ns).map Vis.i) t.ns.length 0 with
  | none=>rfl
  | some i=>
   rw[Qch e]at hsh;have h21:(21:Int)=0:=hsh;exact absurd h21 (by decide)
 rw[Qcb hop]at hsh;have hall:=Qiy hsh;have hmost:=λi hi hu=>Qn4 (t:=t) hn (i:=i) hi hu;have hw:Gx.Way t.ns [0]:=rfl;obtain⟨d,hd,hB,hS,_⟩:=QnB hz hT h0 hmost t.ns.length ZF [] hw (by simp) hall;have hvb:=Qk6 hT h0 t.ns.length ZF [] hw (by simp);have hget:=QeI hT h0 t.ns.length 0 [] hw (by simp)
 have hR:QU t.ns (btN t.ns t.ns.length 0):=by
  refine⟨λp hp=>(hget p hp).1,QoI hT h0 t.ns.length 0 [] hw (by simp),λi hi hm=>?_⟩;cases hu:(nth t.ns i).us with
  | true=>
   have:=Qgw hop i (Nat.zero_le _) om hu;exact absurd (hvb▸this) hm
  | false=>
   have h1:=hT.free i hi hu;have h2:=h1.2;cases hnd:nth t.ns i with
   | mk us es cs=>
    rw[hnd]at h2 hu;simp only at h2 hu;rw[hu,h2.1,h2.2]
 have hroot:=hR.root;rw[QfJ]at hroot;have hes:(btN t.ns t.ns.length 0).es=(nth t.ns 0).es:=by rw[hroot.2]
 have hu0:(nth t.ns 0).us=true:=by rw[hroot.2]
 refine⟨_,d,hR,⟨QfJ _ _ _,hB,?_,λe k hk=>?_,hS,λx hx=>?_⟩,hz,?_⟩
 ·have h1:=hmost 0 h0 hu0;unfold YB at h1;rw[if_pos rfl]at h1;rw[hes];have:=hz.erm;omega
 ·obtain⟨f,hf⟩:∃f,t.ns.length=f+1:=⟨t.ns.length-1,om⟩;have hkm:k∈(btN t.ns t.ns.length 0).ks:=by rw[hk];exact List.mem_cons_self ..
  have hk':=hkm;rw[hf]at hk';obtain⟨c,hcm,rfl⟩:=List.mem_map.1 (show k∈(nth t.ns 0).cs.map λc=>btN t.ns f c.toNat from hk');have hwk:=Qfq hT hw h0 hcm;have hki:=Qe3 hT h0 hwk
  obtain⟨f',rfl⟩:∃f',f=f'+1:=by
   cases f with
   | zero=>
    have:=YP hT h0 hwk;simp only[List.length_cons,List.length_nil]at this;omega
   | succ f'=>exact⟨f',rfl⟩
  have hk1:=(hT.kid 0 h0 c hcm).1.1
  have hgv:∃v∈Y2 t.ns,v.i=c.toNat:=by
   have:c.toNat∈(Y2 t.ns).map Vis.i:=by
    show c.toNat∈(vis t.ns t.ns.length ZF).map Vis.i;rw[hvb,hf];rw[show ZF.i=0 from rfl,btN,BT.nodes,QaN,List.map_cons];refine List.mem_cons_of_mem _ (List.mem_map.2 ?_);have hid:=(btN t.ns (f'+1) c.toNat).idx_mem;rw[QfJ]at hid;obtain⟨p,hp,ep⟩:=List.mem_map.1 hid;exact⟨p,List.mem_flatMap.2 ⟨c,hcm,hp⟩,ep⟩
   obtain⟨v,hv,e⟩:=List.mem_map.1 this;exact⟨v,hv,e⟩
  obtain⟨v,hv,hvi⟩:=hgv;have hg:=(Qlm (hall v hv)).1;unfold Z8 at hg;simp only[Bool.and_eq_true,Bool.or_eq_true,decide_eq_true_eq,not_and,not_or]at hg;have h5:=(hg om).2 ⟨by rw[<-hes,e];rfl,by rw[hvi,Int.toNat_of_nonneg om];exact hcm⟩;rw[hvi]at h5;show t.rm.toNat<(nth t.ns c.toNat).es.length;have:=hz.erm;omega
 ·obtain⟨p,hp,hx⟩:=Qb0 _ x hx;have h1:=RepN.at_ (i:=p.1) (x:=p.2) hR hp;exact hT.ents p.1 h1.1 x (by rw[h1.2];exact hx)
 ·unfold X1;cases hu:(nth t.ns (t.ns.length-1)).us with
  | true=>rfl
  | false=>
   have:=(hT.free (t.ns.length-1) om hu).1.2;omega
section
variable{ns:List Nd}{N:List (Nat×Nd)}{a b c:Nat×Nd}{i:Nat}{x:Nd}
theorem RepN.es2(h:RepN ns (a::(i,x)::N))(es:List TEnt):RepN (esN ns i es) (a::(i,{x with es:=es})::N):=((h.perm (List.Perm.swap ..)).es es).perm (List.Perm.swap ..)
theorem RepN.cs2(h:RepN ns (a::(i,x)::N))(cs:List Int):RepN (csN ns i cs) (a::(i,{x with cs:=cs})::N):=((h.perm (List.Perm.swap ..)).cs cs).perm (List.Perm.swap ..)
theorem Qjb{a b c:Nat×Nd}{N:List (Nat×Nd)}:(a::b::c::N).Perm (c::a::b::N):=(List.Perm.cons a (List.Perm.swap ..)).trans (List.Perm.swap ..)
theorem RepN.es3(h:RepN ns (a::b::(i,x)::N))(es:List TEnt):RepN (esN ns i es) (a::b::(i,{x with es:=es})::N):=((h.perm Qjb).es es).perm Qjb.symm
theorem RepN.cs3(h:RepN ns (a::b::(i,x)::N))(cs:List Int):RepN (csN ns i cs) (a::b::(i,{x with cs:=cs})::N):=((h.perm Qjb).cs cs).perm Qjb.symm
theorem RepN.gone2(h:RepN ns (a::(i,x)::N)):RepN (ns.set i ⟨false,[],[]⟩) (a::N):=(h.perm (List.Perm.swap ..)).gone
theorem RepN.gone3(h:RepN ns (a::b::(i,x)::N)):RepN (ns.set i ⟨false,[],[]⟩) (a::b::N):=(h.perm Qjb).gone
theorem RepN.at1(h:RepN ns ((i,x)::N)):nth ns i=x:=h.head.2
theorem RepN.at2(h:RepN ns (a::(i,x)::N)):nth ns i=x:=(h.at_ (List.mem_cons_of_mem _ (List.mem_cons_self ..))).2
theorem RepN.at3(h:RepN ns (a::b::(i,x)::N)):nth ns i=x:=(h.at_ (List.mem_cons_of_mem _ (List.mem_cons_of_mem _ (List.mem_cons_self ..)))).2
end
section
variable{ns:List Nd}{C:List Fr}{p a b:Nat}{es Ae Be:List TEnt}{l r Ak Bk:List BT}
theorem Qj4:(plug C (.nd p es (l++.nd a Ae Ak::.nd b Be Bk::r))).nodes.Perm ((p,⟨true,es,QP l++(a:Int)::(b:Int)::QP r⟩)::(a,⟨true,Ae,QP Ak⟩)::(b,⟨true,Be,QP Bk⟩)::(Xc C p++(nodesL l++(nodesL Ak++(nodesL Bk++nodesL r))))):=by
 refine(YO C _).trans ?_;show(Xc C p++(BT.nd p es _).nodes).Perm _;rw[BT.nodes,Ze,nodesL,nodesL,BT.nodes,BT.nodes,Zu,YL,YL];refine QeC λx=>?_;simp only[List.count_append,List.count_cons,List.cons_append,BT.idx];omega
theorem Qk0(h:QU ns (plug C (.nd p es (l++.nd a Ae Ak::.nd b Be Bk::r)))):RepN ns ((p,⟨true,es,QP l++(a:Int)::(b:Int)::QP r⟩)::(a,⟨true,Ae,QP Ak⟩)::(b,⟨true,Be,QP Bk⟩)::(Xc C p++(nodesL l++(nodesL Ak++(nodesL Bk++nodesL r))))):=RepN.perm h Qj4
theorem Qi2{Ak' Bk':List BT}(h:RepN ns ((p,⟨true,es,QP l++(a:Int)::(b:Int)::QP r⟩)::(a,⟨true,Ae,QP Ak'⟩)::(b,⟨true,Be,QP Bk'⟩)::(Xc C p++(nodesL l++(nodesL Ak++(nodesL Bk++nodesL r))))))(hp:(nodesL Ak++nodesL Bk).Perm (nodesL Ak'++nodesL Bk')):QU ns (plug C (.nd p es (l++.nd a Ae Ak'::.nd b Be Bk'::r))):=by
 refine RepN.perm (h.perm ?_) Qj4.symm;refine List.Perm.cons _ (List.Perm.cons _ (List.Perm.cons _ (List.Perm.append_left _ (List.Perm.append_left _ ?_))));rw[<-List.append_assoc,<-List.append_assoc];exact hp.append_right _
theorem QqI(h:QU ns (plug C (.nd p es (l++.nd a Ae Ak::.nd b Be Bk::r)))) :
  QU (QjR ns p l.length a b) (plug C (.nd p (es.set l.length (nth Ae (Ae.length-1))) (l++.nd a (Ae.take (Ae.length-1)) (Ak.take (Ak.length-1))::.nd b (QT Be 0 (nth es l.length)) (Ak.drop (Ak.length-1)++Bk)::r))):=by
 have h0:=Qk0 h;have hp:=h0.at1;have ha:=h0.at2;have hb:=h0.at3;have h1:=((h0.es3 (QT Be 0 (nth es l.length))).es (es.set l.length (nth Ae (Ae.length-1)))).es2 (Ae.take (Ae.length-1))
 have hnp:(nodesL Ak++nodesL Bk).Perm (nodesL (Ak.take (Ak.length-1))++nodesL (Ak.drop (Ak.length-1)++Bk)):=by
  rw[Ze,<-List.append_assoc,<-Qck Ak (Ak.length-1)]
 unfold QjR;rw[hp,ha,hb];simp only[QV];split
 ·rename_i hz;have hk:Ak=[]:=List.eq_nil_of_length_eq_zero hz;subst hk;exact Qi2 h1 hnp
 ·rename_i hz;have h2:=(h1.cs3 (QT (QP Bk) 0 ((QP Ak).getD (Ak.length-1) 0))).cs2 ((QP Ak).take (Ak.length-1));refine Qi2 (Ak':=Ak.take (Ak.length-1)) (Bk':=Ak.drop (Ak.length-1)++Bk) ?_ hnp;have e1:QP (Ak.take (Ak.length-1))=(QP Ak).take (Ak.length-1):=Qhw _ _
  have e2:QP (Ak.drop (Ak.length-1)++Bk)=QT (QP Bk) 0 ((QP Ak).getD (Ak.length-1) 0):=by
   rw[Zu,QhW];show _=(QP Ak).getD (Ak.length-1) 0::QP Bk;have hlt:Ak.length-1<(QP Ak).length:=by rw[QV];omega
   rw[List.drop_eq_getElem_cons hlt,List.drop_of_length_le (by rw[QV];omega),List.getD_eq_getElem?_getD,List.getElem?_eq_getElem hlt];rfl
  rw[e1,e2];exact h2
theorem QkA(h:QU ns (plug C (.nd p es (l++.nd a Ae Ak::.nd b Be Bk::r)))) :
  QU (Qg2 ns p l.length b a) (plug C (.nd p (es.set l.length (nth Be 0)) (l++.nd a (Ae++[nth es l.length]) (Ak++Bk.take 1)::.nd b (QK Be 0) (Bk.drop 1)::r))):=by
 have h0:=Qk0 h;have hp:=h0.at1;have ha:=h0.at2;have hb:=h0.at3;have h1:=((h0.es2 (Ae++[nth es l.length])).es (es.set l.length (nth Be 0))).es3 (QK Be 0)
 have hnp:(nodesL Ak++nodesL Bk).Perm (nodesL (Ak++Bk.take 1)++nodesL (Bk.drop 1)):=by
  rw[Ze,List.append_assoc,<-Qck Bk 1]
 unfold Qg2;rw[hp,ha,hb];simp only[QV];split
 ·rename_i hz;have hk:Bk=[]:=List.eq_nil_of_length_eq_zero hz;subst hk;refine Qi2 (Ak':=Ak++[].take 1) (Bk':=[].drop 1) ?_ hnp;rw[List.take_nil,List.append_nil];exact h1
 ·rename_i hz;have h2:=(h1.cs2 (QP Ak++[(QP Bk).getD 0 0])).cs3 (QK (QP Bk) 0);refine Qi2 (Ak':=Ak++Bk.take 1) (Bk':=Bk.drop 1) ?_ hnp;cases Bk with
  | nil=>exact absurd rfl hz
  | cons z Bk=>
   rw[Zu];exact h2
theorem Qmp(h:QU ns (plug C (.nd p es (l++.nd a Ae Ak::.nd b Be Bk::r)))) :
  QU (QgL ns p l.length a b) (plug C (.nd p (QK es l.length) (l++.nd a (Ae++nth es l.length::Be) (Ak++Bk)::r))):=by
 have h0:=Qk0 h;have hp:=h0.at1;have ha:=h0.at2;have hb:=h0.at3;have h1:=((((h0.es2 (Ae++nth es l.length::Be)).cs2 (QP Ak++QP Bk)).es (QK es l.length)).cs (QK (QP l++(a:Int)::(b:Int)::QP r) (l.length+1))).gone3;unfold QgL;rw[hp,ha,hb]
 have e:QK (QP l++(a:Int)::(b:Int)::QP r) (l.length+1)=QP l++(a:Int)::QP r:=by
  unfold QK;rw[List.take_append,List.drop_append,QV,List.take_of_length_le (by rw[QV];omega),List.drop_of_length_le (by rw[QV];omega),show l.length+1-l.length=1 by omega,show l.length+1+1-l.length=2 by omega];simp
 rw[e]at h1 ⊢;refine RepN.perm h1 ?_;refine List.Perm.trans ?_ (YO C _).symm;show List.Perm _ (Xc C p++(BT.nd p _ _).nodes);rw[BT.nodes,Ze,nodesL,BT.nodes,Ze,Zu,Zu,YL];refine QeC λx=>?_;simp only[List.count_append,List.count_cons,List.cons_append,BT.idx];omega
end
theorem ZN{l r:List BT}{es:List TEnt}{A B:BT}(h:l.length+r.length+1=es.length):flatL es (l++A::B::r)=Yd es l++((A.flat++nth es l.length::B.flat)++Qag (es.drop (l.length+1)) r):=by
 rw[ZO l es A (B::r) (by rw[List.length_cons];omega)];have hlt:l.length<es.length:=om
 have e:es.drop l.length=nth es l.length::es.drop (l.length+1):=by
  rw[List.drop_eq_getElem_cons hlt,show nth es l.length=es[l.length]from Q2 (List.getElem?_eq_getElem hlt)]
 rw[e,Qag];simp only[List.append_assoc,List.cons_append]
theorem Qdi{e:TEnt}{Be:List TEnt}{Bk:List BT}:∀{Ae:List TEnt}{Ak:List BT},(Ak=[]/\Bk=[])\/(Ak.length=Ae.length+1/\Bk.length=Be.length+1)->flatL (Ae++e::Be) (Ak++Bk)=flatL Ae Ak++e::flatL Be Bk
 | Ae,[],h=>by
  rcases h with⟨_,h⟩|⟨h,_⟩
  ·subst h;rw[List.append_nil,Q5,Q5,Q5]
  ·simp at h
 | [],[k],h=>by
  rw[List.nil_append,List.singleton_append,flatL,flatL,flatL,List.append_nil]
 | [],k::k'::ks,h=>by
  rcases h with⟨h,_⟩|⟨h,_⟩
  ·cases h
  ·simp at h
 | a::Ae,k::ks,h=>by
  rcases h with⟨h,_⟩|⟨h,h2⟩
  ·cases h
  ·rw[List.cons_append,List.cons_append,flatL,flatL,Qdi (Ae:=Ae) (Ak:=ks) (.inr ⟨by simpa using h,h2⟩)];simp only[List.append_assoc,List.cons_append]
theorem Qn3{Ae Be:List TEnt}{Ak Bk:List BT}{e:TEnt}(hA:0<Ae.length)(h:(Ak=[]/\Bk=[])\/(Ak.length=Ae.length+1/\Bk.length=Be.length+1)) :
  flatL (Ae.take (Ae.length-1)) (Ak.take (Ak.length-1))++nth Ae (Ae.length-1)::flatL (QT Be 0 e) (Ak.drop (Ak.length-1)++Bk)=flatL Ae Ak++e::flatL Be Bk:=by
 show _++_::flatL (e::Be) _=_;have hsp:=QcN (Ae.length-1) Ae Ak om (h.imp (·.1) (·.1));rcases h with⟨h1,h2⟩|⟨h1,h2⟩
 ·subst h1 h2;rw[List.take_nil,List.drop_nil,List.nil_append,Q5,Q5,Q5,Q5];rw[List.take_nil,List.drop_nil,Q5,Q5,Q5,List.drop_of_length_le om]at hsp
  conv=>rhs;rw[<-hsp]
  simp only[List.append_assoc,List.cons_append,List.nil_append]
 ·have e1:Ae.length-1+1=Ak.length-1:=by omega
  rw[e1,List.drop_of_length_le (by omega:Ae.length<=Ak.length-1)]at hsp
  have hd:Ak.drop (Ak.length-1)=[Ak[Ak.length-1]'om]:=by
   rw[List.drop_eq_getElem_cons om,List.drop_of_length_le om]
  rw[hd]at hsp ⊢;rw[flatL,Q5,List.append_nil]at hsp;rw[List.singleton_append,flatL,<-hsp];simp only[List.append_assoc,List.cons_append]
theorem Qh6{Ae Be:List TEnt}{Ak Bk:List BT}{e:TEnt}(hB:0<Be.length)(h:(Ak=[]/\Bk=[])\/(Ak.length=Ae.length+1/\Bk.length=Be.length+1)) :
  flatL (Ae++[e]) (Ak++Bk.take 1)++nth Be 0::flatL (QK Be 0) (Bk.drop 1)=flatL Ae Ak++e::flatL Be Bk:=by
 cases Be with
 | nil=>exact absurd hB (by simp)
 | cons x Be=>
  show _++x::flatL Be _=_;rcases h with⟨h1,h2⟩|⟨h1,h2⟩
  ·subst h1 h2;rw[List.take_nil,List.drop_nil,List.append_nil,Q5,Q5,Q5,Q5];simp only[List.append_assoc,List.cons_append,List.nil_append]
  ·cases Bk with
   | nil=>simp at h2
   | cons z Bk=>
    rw[List.take_succ_cons,List.take_zero,List.drop_succ_cons,List.drop_zero,Qdi (e:=e) (Be:=[]) (Bk:=[z]) (.inr ⟨h1,rfl⟩),flatL,Q5,List.append_nil,flatL];simp only[List.append_assoc,List.cons_append]
theorem Bal.mono{lo lo' hi:Nat}(hl:lo'<=lo):∀{d:Nat}{T:BT},Bal lo hi d T->Bal lo' hi d T
 | 0,T,h=>⟨h.1,Nat.le_trans hl h.2.1,h.2.2⟩
 | d+1,T,h=>⟨⟨h.1.1,λk hk=>(h.1.2 k hk).mono hl⟩,Nat.le_trans hl h.2.1,h.2.2⟩
theorem Bel.mono{lo lo' hi:Nat}(hl:lo'<=lo):∀{d:Nat}{T:BT},Bel lo hi d T->Bel lo' hi d T
 | 0,T,h=>h
 | d+1,T,h=>⟨h.1,λk hk=>(h.2 k hk).mono hl⟩
theorem Ye.mono{lo lo' hi rt:Nat}(hl:lo'<=lo):∀{C:List Fr}{d:Nat},Ye lo hi rt d C->Ye lo' hi rt d C
 | [],_,_=>trivial
 | f::C,d,h=>⟨⟨λk hk=>(h.1.1 k hk).mono hl,λk hk=>(h.1.2 k hk).mono hl⟩,h.2.1,⟨h.2.2.1.1,λhne=>⟨Nat.le_trans hl (h.2.2.1.2 hne).1,(h.2.2.1.2 hne).2⟩⟩,Ye.mono hl h.2.2.2⟩
theorem BT.fit{lo hi d:Nat}{i j:Nat}{es es':List TEnt}{ks ks':List BT}(h:Bel lo hi d (.nd i es ks))(h':Bel lo hi d (.nd j es' ks')):(ks=[]/\ks'=[])\/(ks.length=es.length+1/\ks'.length=es'.length+1):=by
 cases d with
 | zero=>exact .inl ⟨h,h'⟩
 | succ d=>exact .inr ⟨h.1,h'.1⟩
def Qgz(mo:Int)(P:List Nat):Nat->List Nd->List Nd
 | 0,ns=>ns
 | k+1,ns=>Qgz mo P k (if((nth ns (nth P (k+1))).es.length:Int)<mo/2 then Y3 mo ns (nth P k) (ixR (nth ns (nth P k)).cs ((nth P (k+1):Nat):Int))else ns)
structure FilR1(mo:Int)(ns:List Nd)(p i:Nat):Prop where
 ok:FilOk mo ns p (ixR (nth ns p).cs (i:Int))
 kd:kdN ns p (ixR (nth ns p).cs (i:Int))=i
def Qi1(mo:Int)(P:List Nat):Nat->List Nd->Prop
 | 0,_=>True
 | k+1,ns=>(nth P (k+1)<ns.length/\(((nth ns (nth P (k+1))).es.length:Int)<mo/2->FilR1 mo ns (nth P k) (nth P (k+1)))) /\
   Qi1 mo P k (if((nth ns (nth P (k+1))).es.length:Int)<mo/2 then Y3 mo ns (nth P k) (ixR (nth ns (nth P k)).cs ((nth P (k+1):Nat):Int))else ns)
section
variable{ns:List Nd}{C:List Fr}{p:Nat}{es:List TEnt}{ks:List BT}{mo:Int}
theorem ZH{ks:List BT}{x:Nat}(h:x<ks.length):(QP ks).getD x 0=((nth ks x).idx:Int):=by
 unfold QP;rw[Zh (d:=default) h];rfl
theorem QlX(h:QU ns (plug C (.nd p es ks))):(∀x,x<ks.length->(nth ks x).idx<ns.length/\p≠(nth ks x).idx)/\(QP ks).Nodup:=by
 constructor
 ·intro x hx;have hs:=QcS hx;generalize nth ks x=K at hs ⊢;rw[hs]at h;have h2:QU ns (plug (⟨p,es,ks.take x,ks.drop (x+1)⟩::C) K):=h;refine⟨(QU.at_ h2).1,λe=>?_⟩;have h1:=h2.plug.nd;rw[List.map_append]at h1;refine(List.nodup_append.1 h1).2.2 p ?_ K.idx K.idx_mem e;rw[Xc,Fr.nodes];exact List.mem_cons_self ..
 ·have hk:=QkB h;have hm:(p,(⟨true,es,QP ks⟩:Nd))∈(plug C (.nd p es ks)).nodes:=(YO C (.nd p es ks)).mem_iff.2 (List.mem_append_right _ (by rw[BT.nodes];exact List.mem_cons_self ..));exact(List.pairwise_flatMap.1 hk).1 _ hm
theorem Qlz{l:List Int}(h:l.Nodup){x y:Nat}(hx:x<l.length)(hy:y<l.length)(hne:x≠y):l.getD x 0≠l.getD y 0:=λe=>by
 rw[List.getD_eq_getElem?_getD,List.getElem?_eq_getElem hx,List.getD_eq_getElem?_getD,List.getElem?_eq_getElem hy]at e;exact hne ((List.getElem_inj h).1 e)
theorem QuC{k:Nat}(h:QU ns (plug C (.nd p es ks)))(hk:k<ks.length)(hl:ks.length=es.length+1)(hmo:0<=mo/\mo<=1000)(hlen:ns.length<=900)(hsm:Sm 900 ns):FilOk mo ns p k:=by
 have hat:p<ns.length/\nth ns p=⟨true,es,QP ks⟩:=QU.at_ (T:=.nd p es ks) h;have hkd:=QlX h;have hcs:(nth ns p).cs=QP ks:=by rw[hat.2]
 have hkdN:∀x,x<ks.length->kdN ns p x=(nth ks x).idx:=λx hx=>by
  unfold kdN;rw[hcs,ZH hx];rfl
 refine⟨hmo,hat.1,by rw[hcs,QV];exact hk,by rw[hat.2];show(QP ks).length=_;rw[QV];exact hl,λx hx=>?_,λx y hx hy hne=>?_,hlen,hsm⟩
 ·rw[hcs,QV]at hx;rw[hcs,ZH hx,hkdN x hx];exact⟨om,(hkd.1 x hx).1,(hkd.1 x hx).2⟩
 ·rw[hcs,QV]at hx hy;have h1:=Qlz hkd.2 (by rw[QV];exact hx) (by rw[QV];exact hy) hne;rw[ZH hx,ZH hy]at h1;rw[hkdN x hx,hkdN y hy];omega
end
section
variable{ns:List Nd}{f:Fr}{C:List Fr}{T:BT}
theorem QjD(h:QU ns (plug (f::C) T)):f.i<ns.length/\nth ns f.i=⟨true,f.es,QP (f.l++T::f.r)⟩:=QU.at_ (C:=C) (T:=f.fill T) h
theorem QwI(h:QU ns (plug (f::C) T)):ixR (nth ns f.i).cs (T.idx:Int)=f.l.length:=by
 have h2:QU ns (plug C (.nd f.i f.es (f.l++T::f.r))):=h;have hnd:=(QlX h2).2;rw[Zu,YL]at hnd;have hn:(T.idx:Int) ∉ QP f.l:=λhm=>(List.nodup_append.1 hnd).2.2 _ hm _ (List.mem_cons_self ..) rfl;rw[(QjD h).2];show ixR (QP (f.l++T::f.r)) (T.idx:Int)=_;rw[Zu,YL];have h3:=QfG (B:=QP f.r) hn;unfold ixR;rw[h3,if_pos (by simp),QV]
theorem Qh7(h:QU ns (plug (f::C) T)){x:Nat}(hx:x<(f.l++T::f.r).length):kdN ns f.i x=(nth (f.l++T::f.r) x).idx:=by
 unfold kdN;rw[(QjD h).2];show((QP (f.l++T::f.r)).getD x 0).toNat=_;rw[ZH hx];rfl
theorem QvN(h:QU ns (plug (f::C) T)){x:Nat}(hx:x<(f.l++T::f.r).length):(nth ns (nth (f.l++T::f.r) x).idx).es=(nth (f.l++T::f.r) x).es:=by
 have hs:=QcS hx;generalize nth (f.l++T::f.r) x=K at hs ⊢;have h2:QU ns (plug C (.nd f.i f.es (f.l++T::f.r))):=h;rw[hs]at h2;have h3:QU ns (plug (⟨f.i,f.es,(f.l++T::f.r).take x,(f.l++T::f.r).drop (x+1)⟩::C) K):=h2;rw[(QU.at_ h3).2]
theorem Qix{mo:Int}(h:QU ns (plug (f::C) T)){x:Nat}(hx:x<(f.l++T::f.r).length):Y0 mo ns f.i (x:Int)=decide (mo/2<((nth (f.l++T::f.r) x).es.length:Int)):=by
 have h1:=(QjD h).2;rw[Qlj h1 ⟨om,by show(x:Int)<=((QP (f.l++T::f.r)).length:Int)-1;rw[QV];omega⟩];rw[show((x:Int)).toNat=x from rfl,Qh7 h hx,QvN h hx]
theorem Qmo{mo:Int}(h:QU ns (plug (f::C) T)){x:Int}(hx:x<0\/((f.l++T::f.r).length:Int)<=x):Y0 mo ns f.i x=false:=by
 refine QlA (QjD h).2 ?_;show(decide (0<=x)&&decide (x<=((QP (f.l++T::f.r)).length:Int)-1))=false;rw[QV];rcases hx with hx|hx
 ·rw[decide_eq_false om];rfl
 ·rw[decide_eq_false (by omega:¬x<=((f.l++T::f.r).length:Int)-1),Bool.and_false]
end
theorem QqA{α:Type}[Inhabited α]{l r:List α}{x:Nat}(h:l.length<=x):nth (l++r) x=nth r (x-l.length):=by
 unfold nth;rw[List.getD_eq_getElem?_getD,List.getElem?_append_right h,<-List.getD_eq_getElem?_getD]
theorem QnX{mo:Int}{lo hi rt d:Nat}{ns:List Nd}{f:Fr}{C:List Fr}{T:BT}(hmo:mo=(hi:Int))(hlo:lo=hi/2)(h3:3<=hi)(hR:QU ns (plug (f::C) T))(hC:Ye lo hi rt d (f::C))(hB:Bel lo hi d T)(hT:T.es.length+1=lo)(hg:C=[]->f.es≠[]) :
  ∃es' ks',QU (Y3 mo ns f.i f.l.length) (plug C (.nd f.i es' ks'))/\Bel lo hi (d+1) (.nd f.i es' ks')/\f.es.length<=es'.length+1/\es'.length<=f.es.length/\flatL es' ks'=(f.fill T).flat:=by
 obtain⟨p,es,l,r⟩:=f;obtain⟨t,Te,Tk⟩:=T;have hTl:Te.length+1=lo:=hT;have hlen:l.length+r.length=es.length:=hC.2.1;have hlb:∀k∈l,Bal lo hi d k:=hC.1.1;have hrb:∀k∈r,Bal lo hi d k:=hC.1.2
 have hne:es≠[]:=λe=>by
  by_cases hc:C=[]
  ·exact hg hc e
  ·have h9:lo<=es.length:=(hC.2.2.1.2 hc).1;rw[e]at h9;simp only[List.length_nil]at h9;omega
 have hpos:0<es.length:=List.length_pos_iff.2 hne;have hfl:(Fr.fill ⟨p,es,l,r⟩ (.nd t Te Tk)).flat=flatL es (l++.nd t Te Tk::r):=rfl;rw[hfl];show∃es' ks',QU (Y3 mo ns p l.length) (plug C (.nd p es' ks'))/\Bel lo hi (d+1) (.nd p es' ks')/\es.length<=es'.length+1/\es'.length<=es.length/\flatL es' ks'=flatL es (l++.nd t Te Tk::r);have hT0:nth (l++BT.nd t Te Tk::r) l.length=.nd t Te Tk:=Qaf l _ r
 have hkT:kdN ns p l.length=t:=by
  have:=Qh7 hR (x:=l.length) (by simp);rw[this];show(nth (l++BT.nd t Te Tk::r) l.length).idx=t;rw[hT0];rfl
 rcases List.eq_nil_or_concat l with hl0|⟨l',A,hlA⟩
 ·subst hl0;have hr1:Y0 mo ns p (((([]:List BT).length:Nat):Int)-1)=false:=Qmo hR (.inl (by simp));cases r with
  | nil=>
   simp only[List.length_nil]at hlen;omega
  | cons G r=>
   obtain⟨g,Ge,Gk⟩:=G;have hG:=hrb (.nd g Ge Gk) (List.mem_cons_self ..);have hGb:=XI.1 hG;have hGl:lo<=Ge.length/\Ge.length<=hi:=hGb.2
   have hkG:kdN ns p 1=g:=by
    have:=Qh7 hR (x:=1) (by simp);rw[this];rfl
   have hr2:Y0 mo ns p ((([]:List BT).length:Nat)+1:Int)=decide (mo/2<(Ge.length:Int)):=by
    have:=Qix (mo:=mo) hR (x:=1) (by simp);exact this
   have hfit:=BT.fit hB hGb.1;unfold Y3;rw[hr1,if_neg (by decide),hr2]
   by_cases hrich:mo/2<(Ge.length:Int)
   ·rw[if_pos (decide_eq_true hrich)];have hrep:=QkA (l:=[]) (r:=r) (es:=es) (a:=t) (b:=g) hR;have e1:Qg2 ns p ([]:List BT).length (kdN ns p (([]:List BT).length+1)) (kdN ns p ([]:List BT).length)=Qg2 ns p 0 g t:=by rw[hkT];show Qg2 ns p 0 (kdN ns p 1) t=_;rw[hkG]
    rw[e1];refine⟨_,_,hrep,⟨by show(_::_::r).length=(es.set _ _).length+1;simp only[List.length_cons,List.length_set];have h9:0+(r.length+1)=es.length:=hlen;omega,λk hk=>?_⟩,by rw[List.length_set];omega,by rw[List.length_set];exact Nat.le_refl _,?_⟩
    ·have hk':k=.nd t (Te++[nth es 0]) (Tk++Gk.take 1)\/k=.nd g (QK Ge 0) (Gk.drop 1)\/k∈r:=by
      rcases List.mem_cons.1 hk with h|hk
      ·exact .inl h
      ·rcases List.mem_cons.1 hk with h|hk
       ·exact .inr (.inl h)
       ·exact .inr (.inr hk)
     rcases hk' with rfl|rfl|hk'
     ·refine XI.2 ⟨?_,by show lo<=(Te++[_]).length/\(Te++[_]).length<=hi;simp only[List.length_append,List.length_singleton];omega⟩;cases d with
      | zero=>
       have e1:Tk=[]:=hB;have e2:Gk=[]:=hGb.1;subst e1 e2;rfl
      | succ d=>
       have e1:Tk.length=Te.length+1:=hB.1;have e2:Gk.length=Ge.length+1:=hGb.1.1;refine⟨by show(Tk++Gk.take 1).length=(Te++[_]).length+1;simp only[List.length_append,List.length_take,List.length_singleton];omega,λk hk=>?_⟩;rcases List.mem_append.1 hk with hk|hk
       ·exact hB.2 k hk
       ·exact hGb.1.2 k (List.mem_of_mem_take hk)
     ·refine XI.2 ⟨?_,by show lo<=(Ge.drop 1).length/\(Ge.drop 1).length<=hi;rw[List.length_drop];omega⟩;cases d with
      | zero=>
       have e2:Gk=[]:=hGb.1;subst e2;rfl
      | succ d=>
       have e2:Gk.length=Ge.length+1:=hGb.1.1;refine⟨by show(Gk.drop 1).length=(Ge.drop 1).length+1;simp only[List.length_drop];omega,λk hk=>hGb.1.2 k (List.mem_of_mem_drop hk)⟩
     ·exact hrb k (List.mem_cons_of_mem _ hk')
    ·have hln:([]:List BT).length+r.length+1=es.length:=by simp only[List.length_cons,List.length_nil]at hlen ⊢;omega
     have hs:([]:List BT).length+r.length+1=(es.set ([]:List BT).length (nth Ge 0)).length:=by rw[List.length_set];exact hln
     have h1:=ZN (l:=[]) (r:=r) (A:=.nd t (Te++[nth es 0]) (Tk++Gk.take 1)) (B:=.nd g (QK Ge 0) (Gk.drop 1)) hs;have h2:=ZN (l:=[]) (r:=r) (A:=.nd t Te Tk) (B:=.nd g Ge Gk) hln;rw[h2];refine h1.trans ?_;have e0:nth (es.set ([]:List BT).length (nth Ge 0)) ([]:List BT).length=nth Ge 0:=Q2 (List.getElem?_set_self hpos);have e2:(es.set ([]:List BT).length (nth Ge 0)).drop (([]:List BT).length+1)=es.drop (([]:List BT).length+1):=List.drop_set_of_lt (by simp);rw[e0,e2];have e3:∀x:List TEnt,Yd x ([]:List BT)=[]:=λx=>by cases x<;>rfl
     rw[e3,e3,BT.flat,BT.flat,BT.flat,BT.flat];rw[Qh6 om hfit];rfl
   ·rw[if_neg (by rw[decide_eq_false hrich];decide),if_neg (by simp),if_pos (by rw[(QjD hR).2];show 1<(QP ([]++BT.nd t Te Tk::BT.nd g Ge Gk::r)).length;rw[QV];simp)];have hrep:=Qmp (l:=[]) (r:=r) (es:=es) (a:=t) (b:=g) hR;have e1:QgL ns p ([]:List BT).length (kdN ns p ([]:List BT).length) (kdN ns p (([]:List BT).length+1))=QgL ns p 0 t g:=by rw[hkT];show QgL ns p 0 t (kdN ns p 1)=_;rw[hkG]
    rw[e1];have hol:(QK es 0).length=es.length-1:=QeG hpos;refine⟨_,_,hrep,⟨by show(_::r).length=(QK es 0).length+1;rw[hol];simp only[List.length_cons,List.length_nil]at hlen ⊢;omega,λk hk=>?_⟩,by show es.length<=(QK es 0).length+1;rw[hol];omega,by show(QK es 0).length<=_;rw[hol];omega,?_⟩
    ·rcases List.mem_cons.1 (show k∈BT.nd t (Te++nth es 0::Ge) (Tk++Gk)::r from hk)with rfl|hk'
     ·refine XI.2 ⟨?_,by show lo<=(Te++_::Ge).length/\(Te++_::Ge).length<=hi;simp only[List.length_append,List.length_cons];omega⟩;cases d with
      | zero=>
       have e1:Tk=[]:=hB;have e2:Gk=[]:=hGb.1;subst e1 e2;rfl
      | succ d=>
       have e1:Tk.length=Te.length+1:=hB.1;have e2:Gk.length=Ge.length+1:=hGb.1.1;refine⟨by show(Tk++Gk).length=(Te++_::Ge).length+1;simp only[List.length_append,List.length_cons];omega,λk hk=>?_⟩;rcases List.mem_append.1 hk with hk|hk
       ·exact hB.2 k hk
       ·exact hGb.1.2 k hk
     ·exact hrb k (List.mem_cons_of_mem _ hk')
    ·have hln:([]:List BT).length+r.length+1=es.length:=by simp only[List.length_cons,List.length_nil]at hlen ⊢;omega
     have h2:=ZN (l:=[]) (r:=r) (A:=.nd t Te Tk) (B:=.nd g Ge Gk) hln;rw[h2];have h1:=ZO [] (QK es 0) (.nd t (Te++nth es 0::Ge) (Tk++Gk)) r (by rw[hol];simp only[List.length_nil]at hln ⊢;omega);refine h1.trans ?_;have e3:∀x:List TEnt,Yd x ([]:List BT)=[]:=λx=>by cases x<;>rfl
     rw[e3,e3,BT.flat,BT.flat,BT.flat,Qdi hfit];rfl
 ·rw[List.concat_eq_append]at hlA;subst hlA;obtain⟨a,Ae,Ak⟩:=A;have hA:=hlb (.nd a Ae Ak) (by simp);have hAb:=XI.1 hA;have hAl:lo<=Ae.length/\Ae.length<=hi:=hAb.2;have hll:(l'++[BT.nd a Ae Ak]).length=l'.length+1:=by simp
  have hkA:kdN ns p l'.length=a:=by
   have:=Qh7 hR (x:=l'.length) (by simp only[List.length_append,List.length_cons];omega);rw[this];show(nth ((l'++[BT.nd a Ae Ak])++BT.nd t Te Tk::r) l'.length).idx=a;rw[List.append_assoc,List.singleton_append,Qaf];rfl
  have hr1:Y0 mo ns p (((l'++[BT.nd a Ae Ak]).length:Nat)-1:Int)=decide (mo/2<(Ae.length:Int)):=by
   have:=Qix (mo:=mo) hR (x:=l'.length) (by simp only[List.length_append,List.length_cons];omega);have e:nth ((l'++[BT.nd a Ae Ak])++BT.nd t Te Tk::r) l'.length=.nd a Ae Ak:=by rw[List.append_assoc,List.singleton_append,Qaf]
   rw[hll,show((l'.length+1:Nat):Int)-1=(l'.length:Int) by omega];refine this.trans ?_;show decide (mo/2<((nth ((l'++[BT.nd a Ae Ak])++BT.nd t Te Tk::r) l'.length).es.length:Int))=_;rw[e];rfl
  have hfit:=BT.fit hAb.1 hB
  have hR2:QU ns (plug C (.nd p es (l'++.nd a Ae Ak::.nd t Te Tk::r))):=by
   have:QU ns (plug C (.nd p es ((l'++[BT.nd a Ae Ak])++BT.nd t Te Tk::r))):=hR;rw[List.append_assoc,List.singleton_append]at this;exact this
  have hln:l'.length+r.length+1=es.length:=by rw[hll]at hlen;omega
  have hassoc:(l'++[BT.nd a Ae Ak])++BT.nd t Te Tk::r=l'++BT.nd a Ae Ak::BT.nd t Te Tk::r:=by rw[List.append_assoc,List.singleton_append]
  have hl'b:∀k∈l',Bal lo hi d k:=λk hk=>hlb k (List.mem_append_left _ hk);have hlt':l'.length<es.length:=om
  rw[hassoc];unfold Y3;rw[hr1]
  by_cases hrich:mo/2<(Ae.length:Int)
  ·rw[if_pos (decide_eq_true hrich),hkT,show(l'++[BT.nd a Ae Ak]).length-1=l'.length by simp,hkA];refine⟨_,_,QqI hR2,⟨by show(l'++_::_::r).length=(es.set _ _).length+1;simp only[List.length_append,List.length_cons,List.length_set];omega,λk hk=>?_⟩,by rw[List.length_set];omega,by rw[List.length_set];exact Nat.le_refl _,?_⟩
   ·rcases List.mem_append.1 hk with hk|hk
    ·exact hl'b k hk
    ·rcases List.mem_cons.1 hk with rfl|hk
     ·refine XI.2 ⟨?_,by show lo<=(Ae.take _).length/\(Ae.take _).length<=hi;rw[List.length_take];omega⟩;cases d with
      | zero=>
       have e2:Ak=[]:=hAb.1;subst e2;rfl
      | succ d=>
       have e2:Ak.length=Ae.length+1:=hAb.1.1;exact⟨by show(Ak.take _).length=(Ae.take _).length+1;simp only[List.length_take];omega,λk hk=>hAb.1.2 k (List.mem_of_mem_take hk)⟩
     ·rcases List.mem_cons.1 hk with rfl|hk
      ·refine XI.2 ⟨?_,by show lo<=(_::Te).length/\(_::Te).length<=hi;simp only[List.length_cons];omega⟩;cases d with
       | zero=>
        have e1:Tk=[]:=hB;have e2:Ak=[]:=hAb.1;subst e1 e2;rfl
       | succ d=>
        have e1:Tk.length=Te.length+1:=hB.1;have e2:Ak.length=Ae.length+1:=hAb.1.1;refine⟨by show(Ak.drop _++Tk).length=(_::Te).length+1;simp only[List.length_append,List.length_drop,List.length_cons];omega,λk hk=>?_⟩;rcases List.mem_append.1 hk with hk|hk
        ·exact hAb.1.2 k (List.mem_of_mem_drop hk)
        ·exact hB.2 k hk
      ·exact hrb k hk
   ·rw[ZN (l:=l') (by rw[List.length_set];exact hln),ZN (l:=l') hln,BT.flat,BT.flat,BT.flat,BT.flat];have e0:nth (es.set l'.length (nth Ae (Ae.length-1))) l'.length=nth Ae (Ae.length-1):=Q2 (by rw[List.getElem?_set_self hlt']);have e2:(es.set l'.length (nth Ae (Ae.length-1))).drop (l'.length+1)=es.drop (l'.length+1):=List.drop_set_of_lt om
    have e3:Yd (es.set l'.length (nth Ae (Ae.length-1))) l'=Yd es l':=by
     rw[<-Zc (es:=es.set _ _) (l:=l') (by rw[List.length_set];omega),<-Zc (es:=es) (l:=l') om,List.take_set_of_le (Nat.le_refl _)]
    rw[e0,e2,e3,Qn3 om hfit]
  ·rw[if_neg (by rw[decide_eq_false hrich];decide)]
   have key:Y0 mo ns p (((l'++[BT.nd a Ae Ak]).length:Nat)+1:Int)=true->∃g Ge Gk r',r=.nd g Ge Gk::r'/\lo<Ge.length/\kdN ns p ((l'++[BT.nd a Ae Ak]).length+1)=g:=λh=>by
    cases r with
    | nil=>
     have:=Qmo (mo:=mo) hR (x:=(((l'++[BT.nd a Ae Ak]).length:Nat)+1:Int)) (.inr (by simp only[List.length_append,List.length_cons,List.length_nil];omega));rw[show Y0 mo ns p _=false from this]at h;cases h
    | cons G r=>
     obtain⟨g,Ge,Gk⟩:=G;have hx:(l'++[BT.nd a Ae Ak]).length+1<((l'++[BT.nd a Ae Ak])++BT.nd t Te Tk::.nd g Ge Gk::r).length:=by simp only[List.length_append,List.length_cons,List.length_nil];omega
     have e:nth ((l'++[BT.nd a Ae Ak])++BT.nd t Te Tk::.nd g Ge Gk::r) ((l'++[BT.nd a Ae Ak]).length+1)=.nd g Ge Gk:=by
      rw[QqA om,Nat.add_sub_cancel_left];rfl
     have h1:=Qix (mo:=mo) hR hx;have h2:Y0 mo ns p (((l'++[BT.nd a Ae Ak]).length+1:Nat):Int)=true:=h;rw[show Y0 mo ns p _=_ from h1]at h2;have h3:mo/2<((nth ((l'++[BT.nd a Ae Ak])++BT.nd t Te Tk::.nd g Ge Gk::r) ((l'++[BT.nd a Ae Ak]).length+1)).es.length:Int):=of_decide_eq_true h2;rw[e]at h3;have h3':mo/2<(Ge.length:Int):=h3;refine⟨g,Ge,Gk,r,rfl,om,?_⟩;have h4:=Qh7 hR hx;refine h4.trans ?_;show(nth ((l'++[BT.nd a Ae Ak])++BT.nd t Te Tk::.nd g Ge Gk::r) ((l'++[BT.nd a Ae Ak]).length+1)).idx=g;rw[e];rfl
   by_cases hrr:Y0 mo ns p (((l'++[BT.nd a Ae Ak]).length:Nat)+1:Int)=true
   ·rw[if_pos hrr];obtain⟨g,Ge,Gk,r',hr,hGr,hkG⟩:=key hrr;subst hr;rw[hkG,hkT];have hG:=hrb (.nd g Ge Gk) (List.mem_cons_self ..);have hGb:=XI.1 hG;have hGl:lo<=Ge.length/\Ge.length<=hi:=hGb.2;have hfit2:=BT.fit hB hGb.1;have hln2:(l'++[BT.nd a Ae Ak]).length+r'.length+1=es.length:=by simp only[List.length_cons]at hlen;omega
    have hlt2:(l'++[BT.nd a Ae Ak]).length<es.length:=om
    refine⟨_,_,QkA (l:=l'++[BT.nd a Ae Ak]) (r:=r') (es:=es) (a:=t) (b:=g) hR,⟨by show((l'++[BT.nd a Ae Ak])++_::_::r').length=(es.set _ _).length+1;rw[List.length_append,List.length_set];simp only[List.length_cons];omega,λk hk=>?_⟩,by rw[List.length_set];omega,by rw[List.length_set];exact Nat.le_refl _,?_⟩
    ·rcases List.mem_append.1 hk with hk|hk
     ·exact hlb k hk
     ·rcases List.mem_cons.1 hk with rfl|hk
      ·refine XI.2 ⟨?_,by show lo<=(Te++[_]).length/\(Te++[_]).length<=hi;simp only[List.length_append,List.length_singleton];omega⟩;cases d with
       | zero=>
        have e1:Tk=[]:=hB;have e2:Gk=[]:=hGb.1;subst e1 e2;rfl
       | succ d=>
        have e1:Tk.length=Te.length+1:=hB.1;have e2:Gk.length=Ge.length+1:=hGb.1.1;refine⟨by show(Tk++Gk.take 1).length=(Te++[_]).length+1;simp only[List.length_append,List.length_take,List.length_singleton];omega,λk hk=>?_⟩;rcases List.mem_append.1 hk with hk|hk
        ·exact hB.2 k hk
        ·exact hGb.1.2 k (List.mem_of_mem_take hk)
      ·rcases List.mem_cons.1 hk with rfl|hk
       ·refine XI.2 ⟨?_,by show lo<=(Ge.drop 1).length/\(Ge.drop 1).length<=hi;rw[List.length_drop];omega⟩;cases d with
        | zero=>
         have e2:Gk=[]:=hGb.1;subst e2;rfl
        | succ d=>
         have e2:Gk.length=Ge.length+1:=hGb.1.1;exact⟨by show(Gk.drop 1).length=(Ge.drop 1).length+1;simp only[List.length_drop];omega,λk hk=>hGb.1.2 k (List.mem_of_mem_drop hk)⟩
       ·exact hrb k (List.mem_cons_of_mem _ hk)
    ·rw[<-hassoc,ZN (l:=l'++[BT.nd a Ae Ak]) (by rw[List.length_set];exact hln2),ZN (l:=l'++[BT.nd a Ae Ak]) hln2,BT.flat,BT.flat,BT.flat,BT.flat];have e0:nth (es.set (l'++[BT.nd a Ae Ak]).length (nth Ge 0)) (l'++[BT.nd a Ae Ak]).length=nth Ge 0:=Q2 (by rw[List.getElem?_set_self hlt2]);have e2:(es.set (l'++[BT.nd a Ae Ak]).length (nth Ge 0)).drop ((l'++[BT.nd a Ae Ak]).length+1)=es.drop ((l'++[BT.nd a Ae Ak]).length+1):=List.drop_set_of_lt om
     have e3:Yd (es.set (l'++[BT.nd a Ae Ak]).length (nth Ge 0)) (l'++[BT.nd a Ae Ak])=Yd es (l'++[BT.nd a Ae Ak]):=by
      rw[<-Zc (es:=es.set _ _) (l:=l'++[BT.nd a Ae Ak]) (by rw[List.length_set];omega),<-Zc (es:=es) (l:=l'++[BT.nd a Ae Ak]) om,List.take_set_of_le (Nat.le_refl _)]
     rw[e0,e2,e3,Qh6 om hfit2]
   ·rw[if_neg hrr,if_pos (by simp),hkT,show(l'++[BT.nd a Ae Ak]).length-1=l'.length by simp,hkA];have hol:(QK es l'.length).length=es.length-1:=QeG hlt';refine⟨_,_,Qmp hR2,⟨by show(l'++_::r).length=(QK es l'.length).length+1;rw[hol];simp only[List.length_append,List.length_cons];omega,λk hk=>?_⟩,by rw[hol];omega,by rw[hol];omega,?_⟩
    ·rcases List.mem_append.1 hk with hk|hk
     ·exact hl'b k hk
     ·rcases List.mem_cons.1 hk with rfl|hk
      ·refine XI.2 ⟨?_,by show lo<=(Ae++_::Te).length/\(Ae++_::Te).length<=hi;simp only[List.length_append,List.length_cons];omega⟩;cases d with
       | zero=>
        have e1:Tk=[]:=hB;have e2:Ak=[]:=hAb.1;subst e1 e2;rfl
       | succ d=>
        have e1:Tk.length=Te.length+1:=hB.1;have e2:Ak.length=Ae.length+1:=hAb.1.1;refine⟨by show(Ak++Tk).length=(Ae++_::Te).length+1;simp only[List.length_append,List.length_cons];omega,λk hk=>?_⟩;rcases List.mem_append.1 hk with hk|hk
        ·exact hAb.1.2 k hk
        ·exact hB.2 k hk
      ·exact hrb k hk
    ·rw[ZO l' (QK es l'.length) _ r (by rw[hol];omega),ZN (l:=l') hln,BT.flat,BT.flat,BT.flat,Qdi hfit]
     have e3:Yd (QK es l'.length) l'=Yd es l':=by
      unfold QK;rw[Qdo _ _ _ (by rw[List.length_take];omega),Zc om]
     have e4:(QK es l'.length).drop l'.length=es.drop (l'.length+1):=by
      unfold QK;rw[List.drop_append,List.drop_of_length_le (by rw[List.length_take];omega),List.length_take,Nat.min_eq_left om,Nat.sub_self,List.drop_zero,List.nil_append]
     rw[e3,e4]
theorem Qpu(ns:List Nd)(p k f t:Nat):(QjR ns p k f t).length=ns.length:=by
 unfold QjR;simp only[];split<;>simp[YF,Qbc]
theorem Qqs(ns:List Nd)(p k f t:Nat):(Qg2 ns p k f t).length=ns.length:=by
 unfold Qg2;simp only[];split<;>simp[YF,Qbc]
theorem QjY(ns:List Nd)(p k t f:Nat):(QgL ns p k t f).length=ns.length:=by
 unfold QgL;simp[YF,Qbc]
theorem Qpy(mo:Int)(ns:List Nd)(p k:Nat):(Y3 mo ns p k).length=ns.length:=by
 unfold Y3;split
 ·exact Qpu ..
 ·split
  ·exact Qqs ..
  ·split
   ·exact QjY ..
   ·split
    ·exact QjY ..
    ·rfl
def QsC(rt:Nat):List Fr->Prop
 | f::g::C=>Qea rt (g::C) f.es.length
 | _=>True
theorem Qea.s{rt n:Nat}:∀{C:List Fr},Qea rt C n->QsC rt C
 | [],_=>trivial
 | [f],_=>trivial
 | f::g::C,h=>h
theorem Qhq{lo hi rt:Nat}:∀{C:List Fr}{d:Nat}(T:BT),Ye lo hi rt d C->C≠[]->(plug C T).es.length<=rt
 | [],_,_,_,h=>absurd rfl h
 | [f],d,T,hC,_=>hC.2.2.1.1 rfl
 | f::g::C,d,T,hC,_=>Qhq (C:=g::C) (f.fill T) hC.2.2.2 (by simp)
structure Filled(mo:Int)(lo hi rt:Nat)(P:List Nat)(k:Nat)(ns:List Nd)(W:List Nat)(fl:List TEnt):Prop where
 ok:Qbw mo ns W
 okR:Qi1 mo P k ns
 same:Qgz mo P k ns=Zr mo ns W
 tree:∃T d,QU (Zr mo ns W) T/\T.idx=0/\Bel lo hi d T/\T.es.length<=rt/\T.flat=fl
 len:(Zr mo ns W).length=ns.length
theorem Qih{mo:Int}{lo hi rt:Nat}(hmo:mo=(hi:Int))(hlo:lo=hi/2)(h3:3<=hi)(h8:hi<=800)(hrt:rt<=hi)(hlr:lo<=rt)(P:List Nat):∀(C:List Fr)(d:Nat)(ns:List Nd)(T:BT),QU ns (plug C T)->(plug C T).idx=0->Ye lo hi rt d C->Bel lo hi d T ->
  ((C=[]->T.es.length<=rt)/\(C≠[]->lo<=T.es.length+1/\T.es.length<=hi))->(∀f,C=[f]->f.es=[]->rt<=T.es.length)->QsC rt C->ns.length<=800->P.take (C.length+1)=(T.idx::C.map Fr.i).reverse ->
  Filled mo lo hi rt P C.length ns (T.idx::C.map Fr.i) (plug C T).flat
 | [],d,ns,T,hR,h0,hC,hB,hb,hg,hs,hl,hP=>by
  have h1:T.idx=0:=h0;have hat:=QU.at_ (C:=[]) hR
  have e:Zr mo ns [T.idx]=ns:=by
   show QdH mo ns T.idx=ns;unfold QdH;rw[if_neg (λh=>om)]
  refine⟨⟨⟨hat.1,λh=>om⟩,trivial⟩,trivial,e.symm,?_,?_⟩
  ·show∃T' d',QU (Zr mo ns [T.idx]) T'/\_;rw[e];exact⟨T,d,hR,h1,hB,hb.1 rfl,rfl⟩
  ·show(Zr mo ns [T.idx]).length=_;rw[e]
 | f::C,d,ns,T,hR,h0,hC,hB,hb,hg,hs,hl,hP=>by
  have hne:T.idx≠0:=by
   have:=Ql0 hR (by simp);rw[h0]at this;exact this
  have hat:=QU.at_ (C:=f::C) hR;have hb1:=hb.2 (by simp);have hlen2:(C.map Fr.i).length=C.length:=by simp
  have hP1:=QeF (A:=f.i::C.map Fr.i) (x:=T.idx) (by
   rw[List.length_cons,hlen2];exact hP)
  rw[List.length_cons,hlen2]at hP1
  have hP2:=QeF (A:=C.map Fr.i) (x:=f.i) (by
   rw[hlen2];exact hP1.2)
  rw[hlen2]at hP2;have hf:=hC.2.2.1;have hes:(nth ns T.idx).es.length=T.es.length:=by rw[hat.2]
  have hmo2:mo/2=(lo:Int):=om
  have hgn:∀n,f.es.length<=n+1->∀g,C=[g]->g.es=[]->rt<=n:=λn hn g hC' hge=>by
   subst hC';have h9:rt<f.es.length:=hs hge;omega
  have hgS:QsC rt C:=by
   cases C with
   | nil=>trivial
   | cons g C'=>
    cases C' with
    | nil=>trivial
    | cons h C''=>exact hs
  by_cases hsm:T.es.length+1=lo
  ·have hlt:((nth ns T.idx).es.length:Int)<mo/2:=by rw[hes,hmo2];omega
   have hlt2:((nth ns (nth P (C.length+1))).es.length:Int)<mo/2:=by rw[hP1.1];exact hlt
   have hnfe:C=[]->f.es≠[]:=λhc e=>by
    subst hc;have:=hg f rfl e;omega
   obtain⟨es',ks',s1,s2,s3,s4,s5⟩:=QnX (rt:=rt) hmo hlo h3 hR hC hB hsm hnfe;have hpar:=QU.par hR;have hix:=QwI hR
   have e1:QdH mo ns T.idx=Y3 mo ns f.i f.l.length:=by
    unfold QdH filN;rw[if_pos ⟨om,hlt⟩,hpar]
   have hlp:=Qpy mo ns f.i f.l.length
   have hsm9:Sm 900 ns:=by
    have hB9:=QkQ (C:=f::C) (T:=T) (hC.mono (lo':=lo-1) om) (hB.mono om) (λ_=>om);exact(QU.sm hR hB9 (Nat.le_refl hi) (Nat.le_trans (Qhq T hC (by simp)) hrt)).mono om
   have hfo:FilOk mo ns f.i f.l.length:=by
    have hR2:QU ns (plug C (.nd f.i f.es (f.l++T::f.r))):=hR;exact QuC hR2 (by simp) (by have:=hC.2.1;simp only[List.length_append,List.length_cons];omega) om om hsm9
   have hkd:kdN ns f.i f.l.length=T.idx:=by
    rw[Qh7 hR (by simp),Qaf]
   have ih:=Qih hmo hlo h3 h8 hrt hlr P C (d+1) (Y3 mo ns f.i f.l.length) (.nd f.i es' ks') s1 (by
    rw[Qam C (.nd f.i es' ks') (f.fill T) rfl]
    exact h0) hC.2.2.2 s2 ⟨λh=>Nat.le_trans s4 (hf.1 h),λh=>by
     have h9:=hf.2 h;show lo<=es'.length+1/\es'.length<=hi;omega⟩ (hgn _ s3) hgS om (by exact hP1.2)
   have eW:Zr mo ns (T.idx::(f::C).map Fr.i)=Zr mo (Y3 mo ns f.i f.l.length) ((BT.nd f.i es' ks').idx::C.map Fr.i):=by
    show Zr mo (QdH mo ns T.idx) _=_;rw[e1];rfl
   have hpf:(plug C (.nd f.i es' ks')).flat=(plug (f::C) T).flat:=by
    show _=(plug C (f.fill T)).flat;rw[Yx hC.2.2.2,Yx hC.2.2.2,BT.flat,s5]
   refine⟨⟨⟨hat.1,λ_ _=>?_⟩,?_⟩,⟨⟨by rw[hP1.1];exact hat.1,λ_=>?_⟩,?_⟩,?_,?_,?_⟩
   ·rw[hpar];exact hfo
   ·rw[e1];exact ih.ok
   ·rw[hP1.1,hP2.1];exact⟨by rw[hix];exact hfo,by rw[hix];exact hkd⟩
   ·rw[if_pos hlt2,hP1.1,hP2.1,hix];exact ih.okR
   ·show Qgz mo P C.length (if _ then _ else _)=_;rw[if_pos hlt2,hP1.1,hP2.1,hix,eW];exact ih.same
   ·rw[eW,<-hpf];exact ih.tree
   ·rw[eW,ih.len,hlp]
  ·have hbal:lo<=T.es.length:=om
   have hno:¬((nth ns T.idx).es.length:Int)<mo/2:=by rw[hes,hmo2];omega
   have hno2:¬((nth ns (nth P (C.length+1))).es.length:Int)<mo/2:=by rw[hP1.1];exact hno
   have e1:QdH mo ns T.idx=ns:=by
    unfold QdH;rw[if_neg (λh=>hno h.2)]
   have ih:=Qih hmo hlo h3 h8 hrt hlr P C (d+1) ns (f.fill T) hR h0 hC.2.2.2 (Qhb hC (XI.2 ⟨hB,hbal,hb1.2⟩)) ⟨λh=>hf.1 h,λh=>by
    have h9:=hf.2 h;show lo<=f.es.length+1/\f.es.length<=hi;omega⟩ (hgn _ (by show f.es.length<=f.es.length+1;omega)) hgS hl hP1.2
   have eW:Zr mo ns (T.idx::(f::C).map Fr.i)=Zr mo ns ((f.fill T).idx::C.map Fr.i):=by
    show Zr mo (QdH mo ns T.idx) _=_;rw[e1];rfl
   refine⟨⟨⟨hat.1,λ_ h=>absurd h hno⟩,?_⟩,⟨⟨by rw[hP1.1];exact hat.1,λh=>absurd h hno2⟩,?_⟩,?_,?_,?_⟩
   ·rw[e1];exact ih.ok
   ·rw[if_neg hno2];exact ih.okR
   ·show Qgz mo P C.length (if _ then _ else _)=_;rw[if_neg hno2,eW];exact ih.same
   ·rw[eW];exact ih.tree
   ·rw[eW];exact ih.len
theorem Qvq{rm:Int}{ns:List Nd}{T:BT}(h:QU ns T)(h0:T.idx=0)(hl:ns.length<=900):RotOk rm ns:=by
 obtain⟨i,es,ks⟩:=T;have hi:i=0:=h0;subst hi;have hat:0<ns.length/\nth ns 0=⟨true,es,QP ks⟩:=h.root;refine⟨hat.1,hl,by rw[hat.2],λh1=>?_⟩;have hcs:(nth ns 0).cs=QP ks:=by rw[hat.2]
 rw[hcs,QV]at h1;have hk:=(QlX (C:=[]) h).1 0 om;have hg:=ZH (ks:=ks) (x:=0) om
 have hkd:kdN ns 0 0=(nth ks 0).idx:=by
  unfold kdN;rw[hcs,hg];rfl
 rw[hcs,hg,hkd];refine⟨by have:=hk.2;omega,hk.1,?_⟩;have hs:=QcS (ks:=ks) (p:=0) om;generalize nth ks 0=K at hs ⊢;rw[hs]at h;have h3:QU ns (plug [⟨0,es,ks.take 0,ks.drop (0+1)⟩] K):=h;rw[(QU.at_ h3).2]
theorem Qre(rm:Int)(ns:List Nd):(Qcw rm ns).length=ns.length:=by
 unfold Qcw;split
 ·split
  ·simp
  ·rfl
 ·rfl
theorem Qsg{mo rm:Int}{lo hi rt d:Nat}{ns:List Nd}{T:BT}(hz:Sz mo rm lo hi rt)(h:QU ns T)(h0:T.idx=0)(hB:Bel lo hi d T)(hr:T.es.length<=rt):∃T' d',QU (Qcw rm ns) T'/\T'.idx=0/\Bel lo hi d' T'/\T'.es.length<=rt/\QaI rt T'/\T'.flat=T.flat:=by
 obtain⟨i,es,ks⟩:=T;have hi0:i=0:=h0;subst hi0;have hat:0<ns.length/\nth ns 0=⟨true,es,QP ks⟩:=h.root;have hcs:(nth ns 0).cs=QP ks:=by rw[hat.2]
 have hes:(nth ns 0).es=es:=by rw[hat.2]
 have hrm:=hz.erm;have hlo:=hz.elo;have hi3:=hz.hi3;unfold Qcw
 by_cases h1:(nth ns 0).es.length=0/\(nth ns 0).cs.length=1
 ·rw[if_pos h1];rw[hes,hcs,QV]at h1;have hes0:es=[]:=List.eq_nil_of_length_eq_zero h1.1
  obtain⟨K,hK⟩:∃K,ks=[K]:=by
   cases ks with
   | nil=>simp at h1
   | cons K ks=>
    cases ks with
    | nil=>exact⟨K,rfl⟩
    | cons _ _=>simp at h1
  subst hes0 hK;obtain⟨c,Ke,Kk⟩:=K
  have hkd:kdN ns 0 0=c:=by
   unfold kdN;rw[hcs];rfl
  have h3:QU ns (plug [⟨0,[],[],[]⟩] (.nd c Ke Kk)):=h;have hKat:c<ns.length/\nth ns c=⟨true,Ke,QP Kk⟩:=QU.at_ h3;rw[hkd,hKat.2]
  obtain⟨d',rfl⟩:∃d',d=d'+1:=by
   cases d with
   | zero=>exact absurd (show[BT.nd c Ke Kk]=[]from hB) (by simp)
   | succ d'=>exact⟨d',rfl⟩
  have hKB:=XI.1 (hB.2 (.nd c Ke Kk) (List.mem_singleton.2 rfl));have hKl:lo<=Ke.length/\Ke.length<=hi:=hKB.2;simp only[]
  by_cases h2:(Ke.length:Int)<=rm
  ·rw[if_pos h2]
   have hN:RepN ns ((0,⟨true,[],[(c:Int)]⟩)::(c,⟨true,Ke,QP Kk⟩)::nodesL Kk):=by
    have:=h;unfold QU at this;rw[BT.nodes,nodesL,BT.nodes,nodesL,List.append_nil]at this;exact this
   have h4:=(hN.set ⟨true,Ke,QP Kk⟩).gone2;refine⟨.nd 0 Ke Kk,d',?_,rfl,?_,by show Ke.length<=rt;omega,λe=>?_,?_⟩
   ·unfold QU;rw[BT.nodes];exact h4
   ·cases d'<;>exact hKB.1
   ·have e':Ke=[]:=e;rw[e']at hKl;simp only[List.length_nil]at hKl;omega
   ·rw[BT.flat,BT.flat,flatL,Q5,List.append_nil,BT.flat]
  ·rw[if_neg h2];refine⟨_,d'+1,h,rfl,hB,Nat.zero_le _,λ_ k hk=>?_,rfl⟩;have:BT.nd c Ke Kk=k:=(List.cons.inj hk).1;rw[<-this];show rt<Ke.length;omega
 ·rw[if_neg h1];refine⟨_,d,h,rfl,hB,hr,λe k hk=>?_,rfl⟩;refine absurd ⟨?_,?_⟩ h1
  ·rw[hes];show es.length=0;rw[show es=[]from e];rfl
  ·rw[hcs,QV];show ks.length=1;rw[show ks=[k]from hk];rfl
theorem QlV{ns:List Nd}:∀(m:Nat){i:Nat},i<m->(nth ns i).us=true->i<tln ns m
 | 0,i,h,_=>absurd h (Nat.not_lt_zero _)
 | m+1,i,h,hu=>by
  rw[tln];split
  ·exact h
  ·rename_i h2;rcases Nat.eq_or_lt_of_le (Nat.le_of_lt_succ h)with rfl|h3
   ·exact absurd hu h2
   ·exact QlV m h3 hu
theorem Qky{ns:List Nd}:∀(m:Nat),0<tln ns m->(nth ns (tln ns m-1)).us=true
 | 0,h=>absurd h (Nat.lt_irrefl _)
 | m+1,h=>by
  rw[tln]at h ⊢;split at h
  ·rename_i h2;rw[if_pos h2];exact h2
  ·rename_i h2;rw[if_neg h2];exact Qky m h
theorem Qh4{α:Type}[Inhabited α]{l:List α}{m i:Nat}(h:i<m):nth (l.take m) i=nth l i:=by
 unfold nth;rw[List.getD_eq_getElem?_getD,List.getElem?_take,if_pos h,<-List.getD_eq_getElem?_getD]
theorem Qrc{ns:List Nd}{T:BT}(h:QU ns T)(h0:T.idx=0):QU (QdS ns) T/\X1 (QdS ns)/\(QdS ns).length<=ns.length:=by
 have hroot:=h.root;rw[h0]at hroot;have hle:=Qo4 ns ns.length;have hpos:=QlV ns.length hroot.1 (by rw[hroot.2])
 have hl:(QdS ns).length=tln ns ns.length:=by
  unfold QdS;rw[List.length_take];omega
 refine⟨⟨λp hp=>?_,h.nd,λi hi hm=>?_⟩,?_,om⟩
 ·have h1:=RepN.at_ (i:=p.1) (x:=p.2) h hp;have h2:=QlV ns.length h1.1 (by rw[h1.2];exact QaS T p hp);unfold QdS;rw[List.getElem?_take,if_pos h2];exact h.get p hp
 ·rw[hl]at hi;unfold QdS;rw[Qh4 hi];exact h.rest i om hm
 ·unfold X1;rw[hl];unfold QdS;rw[Qh4 om];exact Qky ns.length om
theorem Qkg{ns:List Nd}{lo hi rt:Nat}:∀(f d:Nat)(C:List Fr)(T:BT),QU ns (plug C T)->Ye lo hi rt d C->Bel lo hi d T->(lo<=T.es.length/\T.es.length<=hi)->C≠[]->d<f ->
  ∃D T' d',plug D T'=T/\Ye lo hi rt d' (D++C)/\Bel lo hi d' T'/\(lo<=T'.es.length/\T'.es.length<=hi)/\T'.ks=[]/\Qib ns f T.idx=(D.map Fr.i).reverse++[T'.idx]/\Qjz ns f T.idx/\QaU D=[]/\d'+D.length=d
 | 0,d,C,T,_,_,_,_,_,h=>absurd h (Nat.not_lt_zero _)
 | f+1,d,C,T,hR,hC,hB,hb,hne,hd=>by
  have hat:=hR.at_;have hcs:(nth ns T.idx).cs=QP T.ks:=by rw[hat.2]
  rw[Qib,Qjz,hcs,QV]
  by_cases hk:T.ks.length=0
  ·rw[if_pos hk];exact⟨[],T,d,rfl,hC,hB,hb,List.eq_nil_of_length_eq_zero hk,rfl,⟨hat.1,.inl hk⟩,rfl,rfl⟩
  ·rw[if_neg hk]
   obtain⟨d',rfl⟩:∃d',d=d'+1:=by
    cases d with
    | zero=>exact absurd (show T.ks.length=0 by rw[show T.ks=[]from hB];rfl) hk
    | succ d'=>exact⟨d',rfl⟩
   have hkl:=hB.1
   obtain⟨l,K,hlK⟩:∃l K,T.ks=l++[K]:=by
    rcases List.eq_nil_or_concat T.ks with h|⟨l,K,h⟩
    ·rw[h]at hk;exact absurd rfl hk
    ·exact⟨l,K,by rw[h,List.concat_eq_append]⟩
   have hll:T.ks.length=l.length+1:=by rw[hlK];simp
   have hbal:∀k∈T.ks,Bal lo hi d' k:=hB.2;have hBK:=XI.1 (hbal K (by rw[hlK];simp))
   have hT:T=Fr.fill ⟨T.idx,T.es,l,[]⟩ K:=by
    have:=T.eta;rw[hlK]at this;exact this
   have hctx:Ye lo hi rt d' (⟨T.idx,T.es,l,[]⟩::C):=⟨⟨λk hk=>hbal k (by rw[hlK];simp[hk]),λk hk=>(nomatch hk)⟩,by show l.length+0=T.es.length;omega,⟨λh=>absurd h hne,λ_=>hb⟩,hC⟩;have hnK:nth T.ks (T.ks.length-1)=K:=by rw[hll,hlK,Nat.add_sub_cancel];exact Qaf l K []
   have hget:(QP T.ks).getD (T.ks.length-1) 0=(K.idx:Int):=by rw[ZH om,hnK]
   have hkd:kdN ns T.idx (T.ks.length-1)=K.idx:=by
    unfold kdN;rw[hcs,hget];rfl
   rw[hkd,hget]
   obtain⟨D,T',d9,e1,e2,e3,e4,e5,e6,e7,e8,e9⟩:=Qkg f d' (⟨T.idx,T.es,l,[]⟩::C) K (by
    show QU ns (plug C (Fr.fill _ K));rw[<-hT];exact hR) hctx hBK.1 hBK.2 (by simp) om
   refine⟨D++[⟨T.idx,T.es,l,[]⟩],T',d9,?_,?_,e3,e4,e5,?_,⟨hat.1,.inr ⟨om,e7⟩⟩,?_,?_⟩
   ·rw[QbC,e1];exact hT.symm
   ·rw[List.append_assoc];exact e2
   ·rw[e6];simp
   ·have hsuf:∀(A:List Fr)(g:Fr),QaU A=[]->g.es.length<=g.l.length->QaU (A++[g])=[]:=by
     intro A
     induction A with
     | nil=>
      intro g _ h;show Qag (g.es.drop g.l.length) g.r++[]=[];rw[List.drop_of_length_le h];rfl
     | cons a A ih=>
      intro g h h2;have h3:Qag (a.es.drop a.l.length) a.r++QaU A=[]:=h;have h4:=List.append_eq_nil_iff.1 h3;show Qag (a.es.drop a.l.length) a.r++QaU (A++[g])=[];rw[h4.1,ih g h4.2 h2];rfl
    exact hsuf D _ e8 (by show T.es.length<=l.length;omega)
   ·simp only[List.length_append,List.length_singleton];omega
def Qrb(mo rm:Int)(ns:List Nd)(P:List Nat)(k:Nat):List Nd:=QdS (Qcw rm (Qgz mo (QZ ns P k) ((QZ ns P k).length-1) (QbT ns P k)))
theorem Qjp:∀(A B:List Fr),Qa4 (A++B)=Qa4 B++Qa4 A
 | [],B=>by simp[Qa4]
 | f::A,B=>by rw[List.cons_append,Qa4,Qa4,Qjp A B,List.append_assoc]
theorem Qkc:∀(A B:List Fr),QaU (A++B)=QaU A++QaU B
 | [],B=>rfl
 | f::A,B=>by rw[List.cons_append,QaU,QaU,Qkc A B,List.append_assoc]
theorem QmF{lo hi rt:Nat}:∀{A B:List Fr}{d:Nat},Ye lo hi rt d (A++B)->B≠[]->Ye lo hi hi d A
 | [],_,_,_,_=>trivial
 | f::A,B,d,h,hB=>⟨h.1,h.2.1,⟨λ_=>(h.2.2.1.2 (by simp[hB])).2,λ_=>h.2.2.1.2 (by simp[hB])⟩,QmF h.2.2.2 hB⟩
theorem QjP{lo hi rt:Nat}{f f':Fr}(hl:f'.l=f.l)(hr:f'.r=f.r)(he:f'.es.length=f.es.length){B:List Fr}:∀{A:List Fr}{d:Nat},Ye lo hi rt d (A++f::B)->Ye lo hi rt d (A++f'::B)
 | [],d,h=>⟨by rw[hl,hr];exact h.1,by rw[hl,hr,he];exact h.2.1,by rw[he];exact h.2.2.1,h.2.2.2⟩
 | g::A,d,h=>⟨h.1,h.2.1,⟨λe=>absurd e (by simp),λ_=>h.2.2.1.2 (by simp)⟩,QjP hl hr he h.2.2.2⟩
theorem Qgx{lo hi rt:Nat}:∀{D:List Fr}{d:Nat}{T T':BT},Ye lo hi rt d D->T.es.length=T'.es.length->(D=[]->QaI rt T')->QaI rt (plug D T)->QaI rt (plug D T')
 | [],d,T,T',_,_,h,_=>h rfl
 | [f],d,T,T',hC,he,_,h=>λe k hk=>by
  have h1:f.es=[]:=e;have hl:=hC.2.1;rw[h1]at hl;have el:f.l=[]:=List.eq_nil_of_length_eq_zero (by simp only[List.length_nil]at hl;omega);have er:f.r=[]:=List.eq_nil_of_length_eq_zero (by simp only[List.length_nil]at hl;omega);have h2:f.l++T'::f.r=[k]:=hk;rw[el,er]at h2;have h3:T'=k:=(List.cons.inj h2).1;rw[<-h3,<-he];refine h e T ?_;show f.l++T::f.r=[T];rw[el,er];rfl
 | f::g::D,d,T,T',hC,he,_,h=>Qgx (D:=g::D) (T:=f.fill T) (T':=f.fill T') hC.2.2.2 rfl (λe=>absurd e (by simp)) h
theorem Qg3{α:Type}{A l B:List α}{i:Nat}(h:i<l.length):QK (A++(l++B)) (A.length+i)=A++(QK l i++B):=by
 unfold QK;rw[List.take_length_add_append,show A.length+i+1=A.length+(i+1) by omega,List.drop_length_add_append,List.take_append_of_le_length om,List.drop_append_of_le_length om];simp only[List.append_assoc]
theorem Qhc{α:Type}(A B:List α)(x:α):QK (A++x::B) A.length=A++B:=by
 unfold QK;rw[List.take_left' rfl,List.drop_append,List.drop_of_length_le om,Nat.add_sub_cancel_left];rfl
theorem Qd3{α:Type}(l:List α)(i:Nat):(QK l i).Sublist l:=by
 have h:(l.take i++l.drop (i+1)).Sublist (l.take i++l.drop i):=by
  refine List.Sublist.append (List.Sublist.refl _) ?_;rw[<-List.drop_drop];exact List.drop_sublist _ _
 rw[List.take_append_drop]at h;exact h
theorem Qjg{α:Type}(l:List α)(x:α):QK (l++[x]) ((l++[x]).length-1)=l:=by
 rw[List.length_append,List.length_singleton,Nat.add_sub_cancel,Qhc,List.append_nil]
theorem Qth{co:Int}{es:List TEnt}{key:List UInt8}(h:fnd co es key=true):plc co es key<es.length:=by
 unfold fnd at h;simp only[Bool.and_eq_true,decide_eq_true_eq]at h;exact h.1
structure RemFin(mo rm:Int)(lo hi rt:Nat)(ns:List Nd)(Q:List Nat)(fl:List TEnt):Prop where
 fil:Qbw mo ns Q.reverse
 rot:RotOk rm (Zr mo ns Q.reverse)
 filR:Qi1 mo Q (Q.length-1) ns
 same:Qgz mo Q (Q.length-1) ns=Zr mo ns Q.reverse
 tree:∃T d,QU (QdS (Qcw rm (Zr mo ns Q.reverse))) T/\T.idx=0/\Bel lo hi d T/\T.es.length<=rt/\QaI rt T/\T.flat=fl
 last:X1 (QdS (Qcw rm (Zr mo ns Q.reverse)))
 len:(QdS (Qcw rm (Zr mo ns Q.reverse))).length<=ns.length
theorem Qm3{mo rm:Int}{lo hi rt j:Nat}{ns:List Nd}{C:List Fr}{e:List TEnt}(hz:Sz mo rm lo hi rt)(hR:QU ns (plug C (.nd j e [])))(h0:(plug C (.nd j e [])).idx=0)(hC:Ye lo hi rt 0 C)
  (hb:(C=[]->e.length<=rt)/\(C≠[]->lo<=e.length+1/\e.length<=hi))(hg:∀f,C=[f]->f.es=[]->rt<=e.length)(hs:QsC rt C)(hl:ns.length<=800):RemFin mo rm lo hi rt ns ((C.map Fr.i).reverse++[j]) (plug C (.nd j e [])).flat:=by
 have hmo:=hz.emo;have hlo:=hz.elo;have hi3:=hz.hi3;have hi8:=hz.hi8;have hlr:=hz.lr;have hrh:=hz.rh;have hQl:((C.map Fr.i).reverse++[j]).length-1=C.length:=by simp
 have hQr:((C.map Fr.i).reverse++[j]).reverse=j::C.map Fr.i:=by simp
 have hF:=Qih hmo hlo hi3 om hrh hlr ((C.map Fr.i).reverse++[j]) C 0 ns (.nd j e []) hR h0 hC rfl hb hg hs hl (by
  rw[List.take_of_length_le (by simp)];show _=(j::C.map Fr.i).reverse;simp)
 obtain⟨T1,d1,t1,t2,t3,t4,t5⟩:=hF.tree;have e1:Zr mo ns ((BT.nd j e []).idx::C.map Fr.i)=Zr mo ns ((C.map Fr.i).reverse++[j]).reverse:=by rw[hQr];rfl
 rw[e1]at t1;have hlen:(Zr mo ns ((C.map Fr.i).reverse++[j]).reverse).length=ns.length:=by rw[<-e1];exact hF.len
 obtain⟨T2,d2,u1,u2,u3,u4,u5,u6⟩:=Qsg hz t1 t2 t3 t4;have hT:=Qrc u1 u2;refine⟨by rw[hQr];exact hF.ok,Qvq t1 t2 om,by rw[hQl];exact hF.okR,by rw[hQl,hQr];exact hF.same,⟨T2,d2,hT.1,u2,u3,u4,u5,u6.trans t5⟩,hT.2.1,?_⟩;have:=hT.2.2;rw[Qre]at this;omega
structure Removed(co mo rm:Int)(lo hi rt:Nat)(ns:List Nd)(key:List UInt8)(fl:List TEnt):Prop where
 ok:RemOk mo rm ns (Qj co ns key).1 (Qj co ns key).2.1
 filR:Qi1 mo (QZ ns (Qj co ns key).1 (Qj co ns key).2.1) ((QZ ns (Qj co ns key).1 (Qj co ns key).2.1).length-1) (QbT ns (Qj co ns key).1 (Qj co ns key).2.1)
 same:Qrb mo rm ns (Qj co ns key).1 (Qj co ns key).2.1=Qbv mo rm ns (Qj co ns key).1 (Qj co ns key).2.1
 filS:Qgz mo (QZ ns (Qj co ns key).1 (Qj co ns key).2.1) ((QZ ns (Qj co ns key).1 (Qj co ns key).2.1).length-1) (QbT ns (Qj co ns key).1 (Qj co ns key).2.1)=Zr mo (QbT ns (Qj co ns key).1 (Qj co ns key).2.1) (QZ ns (Qj co ns key).1 (Qj co ns key).2.1).reverse
 tree:∃T d,QU (Qbv mo rm ns (Qj co ns key).1 (Qj co ns key).2.1) T/\VT co lo hi rt d T/\T.flat=QK fl (plc co fl key)
 len:(Qbv mo rm ns (Qj co ns key).1 (Qj co ns key).2.1).length<=ns.length
 last:X1 (Qbv mo rm ns (Qj co ns key).1 (Qj co ns key).2.1)
theorem Qmr{co:Int}{lo hi rt d d':Nat}{T T':BT}{i:Nat}(hV:VT co lo hi rt d T)(h0:T'.idx=0)(hB:Bel lo hi d' T')(hr:T'.es.length<=rt)(hg:QaI rt T')(hf:T'.flat=QK T.flat i):VT co lo hi rt d' T':=by
 refine⟨h0,hB,hr,hg,?_,λx hx=>?_⟩
 ·rw[hf];exact hV.srt.sublist (Qd3 _ _)
 ·rw[hf]at hx;exact hV.ents x ((Qd3 _ _).subset hx)
theorem Qtb{co mo rm:Int}{lo hi rt d:Nat}{ns:List Nd}{T:BT}{key:List UInt8}(hz:Sz mo rm lo hi rt)(hR:QU ns T)(hV:VT co lo hi rt d T)(hl:ns.length<=400)(hf:(Qj co ns key).2.2=true):Removed co mo rm lo hi rt ns key T.flat:=by
 have hmo:=hz.emo;have hlo:=hz.elo;have hi3:=hz.hi3;have hi8:=hz.hi8;have hlr:=hz.lr;have hrh:=hz.rh;have hsm:=hR.sm hV.bel (Nat.le_refl hi) (Nat.le_trans hV.root hrh);have hsm9:Sm 900 ns:=hsm.mono om;obtain⟨D,T',d',e1,e2,e3,e4,e5,e6,e7,e8,e9,e10⟩:=Qiw hR hV key;rw[e8]at hf;obtain⟨i,es,ks⟩:=T';have hfnd:fnd co es key=true:=hf;have hpl:(Qj co ns key).2.1=plc co es key:=by rw[e8];rfl
 have hplt:=Qth hfnd;have hR1:QU ns (plug D (.nd i es ks)):=by rw[e1];exact hR
 have hat:i<ns.length/\nth ns i=⟨true,es,QP ks⟩:=QU.at_ hR1;have hlast:QO (Qj co ns key).1=i:=by rw[e7];exact Qg8 _ _
 have hPl:(Qj co ns key).1.length=D.length+1:=by rw[e7];simp
 have hes:es.length<=hi:=by
  by_cases hD:D=[]
  ·exact Nat.le_trans (e4.1 hD) hrh
  ·exact(e4.2 hD).2
 have hfl:T.flat=Qa4 D++(flatL es ks++QaU D):=by rw[<-e1,Yx e2,BT.flat]
 have hsr:=hV.srt;rw[hfl]at hsr;have hs1:=List.pairwise_append.1 hsr;have hs2:=List.pairwise_append.1 hs1.2.1;have hplT:plc co T.flat key=(Qa4 D).length+plc co (flatL es ks) key:=by rw[hfl,Qez (QiY e2 e10 hs1.1),QgO (Qi3 e2 e10 hs2.2.1)]
 have hgap0:QaI rt (plug D (.nd i es ks)):=by rw[e1];exact hV.gap
 have hcsl:(nth ns i).cs.length=ks.length:=by rw[hat.2];exact QV ks
 by_cases hk0:ks=[]
 ·subst hk0;have hd0:d'=0:=e3.leaf rfl;subst hd0;have hcsl:(nth ns i).cs.length=0:=hcsl
  have hq:QZ ns (Qj co ns key).1 (Qj co ns key).2.1=(Qj co ns key).1:=by
   unfold QZ;rw[hlast,if_pos hcsl]
  have hr1:QgT ns (Qj co ns key).1 (Qj co ns key).2.1=ns:=by
   unfold QgT;rw[hlast,if_pos hcsl]
  have hrk:Qg0 ns (Qj co ns key).1 (Qj co ns key).2.1=plc co es key:=by
   unfold Qg0;rw[hlast,if_pos hcsl,hpl]
  have hr2:QbT ns (Qj co ns key).1 (Qj co ns key).2.1=esN ns i (QK es (plc co es key)):=by
   unfold QbT;rw[hr1,hq,hlast,hrk,hat.2]
  have hol:(QK es (plc co es key)).length=es.length-1:=QeG hplt;have hgc:Qea rt D es.length:=QfI (T:=.nd i es []) e2 hgap0
  have hF:=Qm3 hz (QiZ hR1 (QK es (plc co es key))) (by rw[Qam D (.nd i (QK es (plc co es key)) []) (.nd i es []) rfl,e1];exact hV.idx) e2 ⟨λh=>by rw[hol];have h9:es.length<=rt:=e4.1 h;omega,λh=>by rw[hol];have h9:lo<=es.length/\es.length<=hi:=e4.2 h;omega⟩ (λf hf' he=>by
   subst hf';have h9:rt<es.length:=hgc he;rw[hol];omega) hgc.s (by rw[YF];omega)
  rw[<-show(Qj co ns key).1=(D.map Fr.i).reverse++[i]from e7,<-hr2]at hF
  have hnew:(plug D (.nd i (QK es (plc co es key)) [])).flat=QK T.flat (plc co T.flat key):=by
   rw[Yx e2,QaF,hplT,hfl,Q5,Qg3 hplt]
  rw[hnew]at hF;refine⟨⟨om,om,om,om,hsm9,by rw[hlast];exact hat.1,by rw[hlast,hat.2,hpl];exact hplt,λh=>absurd hcsl (by rw[hlast]at h;intro h9;rw[h9]at h;exact absurd h (by simp)),by rw[hq];omega,by rw[hq,hlast];exact hat.1,by rw[hrk,hr1,hq,hlast,hat.2];exact hplt,by rw[hr1];exact hsm9,by rw[hq];exact hF.fil,by rw[hq];exact hF.rot⟩,by rw[hq];exact hF.filR,?_,by rw[hq];exact hF.same,?_,?_,?_⟩
  ·unfold Qrb Qbv;rw[hq,hF.same]
  ·obtain⟨T2,d2,t1,t2,t3,t4,t5,t6⟩:=hF.tree;refine⟨T2,d2,?_,Qmr hV t2 t3 t4 t5 t6,t6⟩;unfold Qbv;rw[hq];exact t1
  ·unfold Qbv;rw[hq];have:=hF.len;rw[hr2,YF]at this;rw[hr2];exact this
  ·unfold Qbv;rw[hq];exact hF.last
 ·obtain⟨d9,rfl⟩:∃d9,d'=d9+1:=by
   cases d' with
   | zero=>exact absurd e3 hk0
   | succ d9=>exact⟨d9,rfl⟩
  have hkl:ks.length=es.length+1:=e3.1;have hpk:plc co es key<ks.length:=om
  have hcne:¬(nth ns i).cs.length=0:=by rw[hcsl,hkl];omega
  have hspl:=QcS hpk;generalize hL:ks.take (plc co es key)=l at hspl;generalize hRr:ks.drop (plc co es key+1)=r at hspl;generalize hK:nth ks (plc co es key)=K at hspl;have hll:l.length=plc co es key:=by rw[<-hL,List.length_take];omega
  have hrl:l.length+r.length=es.length:=by
   have:=congrArg List.length hspl;simp only[List.length_append,List.length_cons]at this;omega
  have hbal:∀k∈ks,Bal lo hi d9 k:=e3.2;have hKB:=XI.1 (hbal K (by rw[hspl];simp));have hTf:BT.nd i es ks=Fr.fill ⟨i,es,l,r⟩ K:=by rw[hspl];rfl
  have hctx0:Ye lo hi rt d9 (⟨i,es,l,r⟩::D):=⟨⟨λk hk=>hbal k (by rw[hspl];simp[hk]),λk hk=>hbal k (by rw[hspl];simp[hk])⟩,hrl,e4,e2⟩
  have hRK:QU ns (plug (⟨i,es,l,r⟩::D) K):=by
   show QU ns (plug D (Fr.fill _ K));rw[<-hTf];exact hR1
  have hd9:=Qf0 hV.bel;have hnl:=hR.nlen;obtain⟨D2,T2,d2,g1,g2,g3,g4,g5,g6,g7,g8,g9⟩:=Qkg ns.length d9 (⟨i,es,l,r⟩::D) K hRK hctx0 hKB.1 hKB.2 (by simp) om;obtain⟨j,Te,Tk⟩:=T2;have hTk:Tk=[]:=g5;subst hTk;have hd20:d2=0:=g3.leaf rfl;subst hd20;have hTl:lo<=Te.length/\Te.length<=hi:=g4
  obtain⟨Tb,x,hTe⟩:∃Tb x,Te=Tb++[x]:=by
   rcases List.eq_nil_or_concat Te with h|⟨Tb,x,h⟩
   ·rw[h]at hTl;simp only[List.length_nil]at hTl;omega
   ·exact⟨Tb,x,by rw[h,List.concat_eq_append]⟩
  have hTel:Te.length=Tb.length+1:=by rw[hTe];simp
  have hRT2:QU ns (plug (D2++⟨i,es,l,r⟩::D) (.nd j Te [])):=by
   rw[QbC,g1];exact hRK
  have hjat:j<ns.length/\nth ns j=⟨true,Te,[]⟩:=QU.at_ hRT2
  have hij:i≠j:=λe=>by
   have h1:=hRT2.plug.nd;rw[List.map_append]at h1;refine(List.nodup_append.1 h1).2.2 i ?_ j (by rw[BT.nodes];simp) e
   have hin:∀(A:List Fr)(h:Nat),i∈(Xc (A++⟨i,es,l,r⟩::D) h).map Prod.fst:=by
    intro A
    induction A with
    | nil=>intro h;rw[List.nil_append,Xc,Fr.nodes];exact List.mem_cons_self ..
    | cons a A ih=>
     intro h;rw[List.cons_append,Xc,List.map_append];exact List.mem_append_right _ (ih a.i)
   exact hin D2 _
  have hgetK:(QP ks).getD (plc co es key) 0=(K.idx:Int):=by rw[ZH hpk,hK]
  have hcs:(nth ns i).cs=QP ks:=by rw[hat.2]
  have hkd:kdN ns i (plc co es key)=K.idx:=by
   unfold kdN;rw[hcs,hgetK];rfl
  have hq:QZ ns (Qj co ns key).1 (Qj co ns key).2.1=((D2++⟨i,es,l,r⟩::D).map Fr.i).reverse++[j]:=by
   unfold QZ;rw[hlast,if_neg hcne,hpl,hkd,g6,e7];simp[BT.idx]
  have hlq:QO (QZ ns (Qj co ns key).1 (Qj co ns key).2.1)=j:=by rw[hq];exact Qg8 _ _
  have hes1:Te.length-1=Tb.length:=om
  have hnx:nth Te (Te.length-1)=x:=by rw[hes1,hTe];exact Qaf Tb x []
  have hr1:QgT ns (Qj co ns key).1 (Qj co ns key).2.1=esN ns i (es.set (plc co es key) x):=by
   unfold QgT;rw[hlast,if_neg hcne,hlq,hjat.2,hat.2,hpl];simp only[];rw[hnx]
  have hj1:nth (esN ns i (es.set (plc co es key) x)) j=⟨true,Te,[]⟩:=by rw[Qms hjat.1,if_neg hij];exact hjat.2
  have hrk:Qg0 ns (Qj co ns key).1 (Qj co ns key).2.1=Te.length-1:=by
   unfold Qg0;rw[hlast,if_neg hcne,hlq,hjat.2]
  have hr2:QbT ns (Qj co ns key).1 (Qj co ns key).2.1=esN (esN ns i (es.set (plc co es key) x)) j Tb:=by
   unfold QbT;rw[hr1,hlq,hrk,hj1];show esN _ j (QK Te (Te.length-1))=_;rw[hTe,Qjg]
  have hctx1:Ye lo hi rt 0 (D2++⟨i,es.set (plc co es key) x,l,r⟩::D):=QjP (f:=⟨i,es,l,r⟩) (f':=⟨i,es.set (plc co es key) x,l,r⟩) rfl rfl (List.length_set ..) g2;have hRa:QU (esN ns i (es.set (plc co es key) x)) (plug D (.nd i (es.set (plc co es key) x) ks)):=QiZ hR1 _
  have hRb:QU (esN ns i (es.set (plc co es key) x)) (plug (D2++⟨i,es.set (plc co es key) x,l,r⟩::D) (.nd j Te [])):=by
   rw[QbC,g1];show QU _ (plug D (.nd i (es.set (plc co es key) x) (l++K::r)));rw[<-hspl];exact hRa
  have hng:QaI rt (plug (D2++⟨i,es.set (plc co es key) x,l,r⟩::D) (.nd j Te [])):=by
   rw[QbC,g1];show QaI rt (plug D (.nd i (es.set (plc co es key) x) (l++K::r)));rw[<-hspl];refine Qgx e2 (T:=.nd i es ks) (by show es.length=(es.set _ _).length;rw[List.length_set]) (λ_ e=>?_) hgap0;have e':es.set (plc co es key) x=[]:=e;have:=congrArg List.length e';rw[List.length_set]at this;simp only[List.length_nil]at this;omega
  have hgc:Qea rt (D2++⟨i,es.set (plc co es key) x,l,r⟩::D) Te.length:=QfI (T:=.nd j Te []) hctx1 hng
  have hidx:(plug (D2++⟨i,es.set (plc co es key) x,l,r⟩::D) (.nd j Tb [])).idx=0:=by
   rw[QbC,Qam _ (plug D2 (.nd j Tb [])) (plug D2 (.nd j Te [])) (Qam D2 (.nd j Tb []) (.nd j Te []) rfl),g1];show(plug D (.nd i (es.set (plc co es key) x) (l++K::r))).idx=0;rw[Qam D (.nd i (es.set (plc co es key) x) (l++K::r)) (.nd i es ks) rfl,e1];exact hV.idx
  have hF:=Qm3 hz (QiZ hRb Tb) hidx hctx1 ⟨λh=>absurd h (by simp),λ_=>om⟩ (λf hf' he=>by
   have h9:=hgc;rw[hf']at h9;have h8:rt<Te.length:=h9 he;omega) hgc.s (by rw[YF,YF];omega)
  have hmapi:(D2++(⟨i,es.set (plc co es key) x,l,r⟩:Fr)::D).map Fr.i=(D2++(⟨i,es,l,r⟩:Fr)::D).map Fr.i:=by simp
  rw[hmapi,<-hq,<-hr2]at hF
  have hdrop:es.drop l.length=nth es l.length::es.drop (l.length+1):=by
   have hlt:l.length<es.length:=om
   rw[List.drop_eq_getElem_cons hlt,show nth es l.length=es[l.length]from Q2 (List.getElem?_eq_getElem hlt)]
  have heq0:QX co (nth es l.length).key key=0:=by
   have h9:=hfnd;unfold fnd at h9;simp only[Bool.and_eq_true,decide_eq_true_eq]at h9;rw[hll];exact h9.2
  obtain⟨G,r',hrG⟩:∃G r',r=G::r':=by
   cases hr9:r with
   | nil=>
    rw[hr9]at hrl;simp only[List.length_nil]at hrl;omega
   | cons G r'=>exact⟨G,r',rfl⟩
  have hflT:flatL es ks=(Yd es l++K.flat)++nth es l.length::(G.flat++Qag (es.drop (l.length+1)) r'):=by
   rw[hspl,ZO l es K r hrl,hdrop,hrG,Qag];simp only[List.append_assoc]
  have hs3:Srt co (flatL es ks):=hs2.1;rw[hflT]at hs3;have hs4:=List.pairwise_append.1 hs3;have hs5:=List.pairwise_append.1 hs4.1
  have hple:plc co (flatL es ks) key=(Yd es l++K.flat).length:=by
   have hlt:∀y∈Yd es l++K.flat,QX co y.key key<0:=λy hy=>by
    have h9:=hs4.2.2 y hy (nth es l.length) (List.mem_cons_self ..);have e2:=QfD.1 heq0;rw[QbO,<-e2,<-QbO];exact h9
   rw[hflT,Qez hlt,plc,if_neg (by rw[heq0];decide)];rfl
  have hKf:K.flat=Qa4 D2++Te:=by
   rw[<-g1,Yx (QmF g2 (by simp)),QaF,g8,List.append_nil]
  have hset:(es.set (plc co es key) x).drop l.length=x::es.drop (l.length+1):=by
   rw[<-hll];have hlt:l.length<(es.set l.length x).length:=by rw[List.length_set];omega
   rw[List.drop_eq_getElem_cons hlt,List.getElem_set_self,List.drop_set_of_lt om]
  have hsetA:Yd (es.set (plc co es key) x) l=Yd es l:=by
   rw[<-Zc (es:=es.set _ _) (l:=l) (by rw[List.length_set];omega),<-Zc (es:=es) (l:=l) om,List.take_set_of_le om]
  have hnew:(plug (D2++⟨i,es.set (plc co es key) x,l,r⟩::D) (.nd j Tb [])).flat=QK T.flat (plc co T.flat key):=by
   have h1:QK T.flat (plc co T.flat key)=Qa4 D++(((Yd es l++K.flat)++(G.flat++Qag (es.drop (l.length+1)) r'))++QaU D):=by
    rw[hplT,hfl,Qg3 (by rw[hple,hflT];simp only[List.length_append,List.length_cons];omega),hple,hflT,Qhc]
   rw[h1,Yx hctx1,QaF,Qjp,Qkc,g8,List.nil_append,Qa4,QaU,hKf,hTe];show Qa4 D++Yd (es.set (plc co es key) x) l++Qa4 D2++(Tb++(Qag ((es.set (plc co es key) x).drop l.length) r++QaU D))=_;rw[hset,hsetA,hrG,Qag];simp only[List.append_assoc,List.cons_append,List.nil_append]
  rw[hnew]at hF;have hQl:(QZ ns (Qj co ns key).1 (Qj co ns key).2.1).length=D2.length+D.length+2:=by rw[hq];simp;omega
  refine⟨⟨om,om,om,om,hsm9,by rw[hlast];exact hat.1,by rw[hlast,hat.2,hpl];exact hplt,λ_=>?_,om,by rw[hlq];exact hjat.1,by rw[hrk,hr1,hlq,hj1];show Te.length-1<Te.length;omega,by rw[hr1];exact hsm9.es i (by rw[List.length_set];omega),hF.fil,hF.rot⟩,hF.filR,?_,hF.same,?_,?_,?_⟩
  ·rw[hlast,hpl,hcs,QV,hgetK,hkd];have hlq2:QO (QZ ns (Qj co ns key).1 (plc co es key))=j:=by rw[<-hpl];exact hlq
   rw[hlq2,hjat.2];exact⟨hpk,om,g7,hij,by show 0<Te.length;omega,hjat.1⟩
  ·unfold Qrb Qbv;rw[hF.same]
  ·obtain⟨T3,d3,t1,t2,t3,t4,t5,t6⟩:=hF.tree;exact⟨T3,d3,t1,Qmr hV t2 t3 t4 t5 t6,t6⟩
  ·have:=hF.len;rw[hr2,YF,YF]at this;unfold Qbv;rw[hr2];exact this
  ·exact hF.last
mutual
theorem Qc0:∀(T:BT)(p:Nat×Nd),p∈T.nodes->p.2.es.Sublist T.flat
 | .nd i es ks,p,h=>by
  rw[BT.nodes]at h;rw[BT.flat];rcases List.mem_cons.1 h with rfl|h
  ·exact Qik es ks
  ·exact nodesL_es es ks p h
theorem nodesL_es:∀(es:List TEnt)(ks:List BT)(p:Nat×Nd),p∈nodesL ks->p.2.es.Sublist (flatL es ks)
 | es,[],p,h=>by
  rw[nodesL]at h;cases h
 | [],k::ks,p,h=>by
  rw[nodesL]at h;rw[flatL];rcases List.mem_append.1 h with h|h
  ·exact(Qc0 k p h).trans (List.sublist_append_left ..)
  ·exact(nodesL_es [] ks p h).trans (List.sublist_append_right ..)
 | e::es,k::ks,p,h=>by
  rw[nodesL]at h;rw[flatL];rcases List.mem_append.1 h with h|h
  ·exact(Qc0 k p h).trans (List.sublist_append_left ..)
  ·exact((nodesL_es es ks p h).cons e).trans (List.sublist_append_right ..)
end
theorem Qkm{lo hi:Nat}:∀{d:Nat}{T:BT},Bel lo hi d T->∀p∈T.nodes,p.2.cs.length=0\/p.2.cs.length=p.2.es.length+1
 | 0,.nd i es ks,h,p,hp=>by
  have e:ks=[]:=h;rw[e,BT.nodes,nodesL]at hp;rcases List.mem_cons.1 hp with rfl|hp
  ·exact .inl rfl
  ·cases hp
 | d+1,.nd i es ks,h,p,hp=>by
  rw[BT.nodes]at hp;rcases List.mem_cons.1 hp with rfl|hp
  ·exact .inr (by show(QP ks).length=_;rw[QV];exact h.1)
  ·obtain⟨k,hk,hp⟩:=QbV (k:=default) hp;exact Qkm (XI.1 (h.2 k hk)).1 p hp
theorem QsO{co:Int}{lo hi rt d:Nat}{ns:List Nd}{T:BT}(hR:QU ns T)(hV:VT co lo hi rt d T)(hu:X1 ns):TOk co ns:=by
 have hat:∀p∈T.nodes,p.1<ns.length/\nth ns p.1=p.2:=λp hp=>RepN.at_ (i:=p.1) (x:=p.2) hR hp
 have hcs:∀i,i<ns.length->(i∈T.nodes.map Prod.fst/\(i,nth ns i)∈T.nodes)\/nth ns i=⟨false,[],[]⟩:=λi hi=>by
  by_cases hm:i∈T.nodes.map Prod.fst
  ·refine .inl ⟨hm,?_⟩;obtain⟨p,hp,rfl⟩:=List.mem_map.1 hm;rw[(hat p hp).2];exact hp
  ·exact .inr (RepN.rest hR i hi hm)
 have hkp:=Qd5 T
 have hnd:((((T.idx:Nat):Int)::YI T.nodes)).Nodup:=hkp.nodup_iff.2 (by
  have h1:=RepN.nd hR;unfold List.Nodup at h1 ⊢;rw[List.pairwise_map]at h1 ⊢;exact h1.imp λh e=>h om)
 refine⟨λi hi c hc=>?_,?_,λi hi=>?_,λi hi hus=>?_,λi hi=>?_,λi hi x hx=>?_⟩
 ·rcases hcs i hi with⟨_,hm⟩|he
  ·have hck:c∈YI T.nodes:=List.mem_flatMap.2 ⟨_,hm,hc⟩;obtain⟨q,hq,rfl⟩:=List.mem_map.1 (hkp.mem_iff.1 (List.mem_cons_of_mem _ hck));have h1:=hat q hq
   have h2:q.1≠0:=λe=>by
    have h3:=(List.nodup_cons.1 hnd).1;rw[hV.idx]at h3;rw[e]at hck;exact h3 hck
   refine⟨om,?_⟩;rw[Int.toNat_natCast,h1.2];exact QaS T q hq
  ·rw[he]at hc;cases hc
 ·have hk2:=(List.nodup_cons.1 hnd).2;unfold YI List.Nodup at hk2;rw[List.pairwise_flatMap]at hk2;unfold List.Nodup;rw[List.pairwise_flatMap];refine⟨λx hx=>?_,List.pairwise_iff_getElem.2 λi j hi hj hij=>?_⟩
  ·obtain⟨i,hi,rfl⟩:=List.getElem_of_mem hx;rw[<-Q2 (List.getElem?_eq_getElem hi)];rcases hcs i hi with⟨_,hm⟩|he
   ·exact hk2.1 _ hm
   ·rw[he];exact List.Pairwise.nil
  ·rw[<-Q2 (List.getElem?_eq_getElem hi),<-Q2 (List.getElem?_eq_getElem hj)];intro x hx y hy e;rcases hcs i hi with⟨_,hm⟩|he
   ·rcases hcs j hj with⟨_,hm2⟩|he
    ·obtain⟨a,ha,ea⟩:=List.getElem_of_mem hm;obtain⟨b,hb,eb⟩:=List.getElem_of_mem hm2;have hp:=List.pairwise_iff_getElem.1 hk2.2;rcases Nat.lt_trichotomy a b with h|h|h
     ·exact hp a b ha hb h x (by rw[ea];exact hx) y (by rw[eb];exact hy) e
     ·subst h;rw[ea]at eb;have:=congrArg Prod.fst eb;simp only at this;omega
     ·exact hp b a hb ha h y (by rw[eb];exact hy) x (by rw[ea];exact hx) e.symm
    ·rw[he]at hy;cases hy
   ·rw[he]at hx;cases hx
 ·rcases hcs i hi with⟨_,hm⟩|he
  ·exact Qkm hV.bel _ hm
  ·rw[he];exact .inl rfl
 ·rcases hcs i hi with⟨_,hm⟩|he
  ·have:=QaS T _ hm;simp only at this;rw[hus]at this;cases this
  ·refine⟨⟨?_,?_⟩,by rw[he],by rw[he]⟩
   ·have h1:=(QU.root hR).2;rw[hV.idx]at h1;rcases Nat.eq_zero_or_pos i with e|h
    ·rw[e,h1]at hus;cases hus
    ·exact h
   ·unfold X1 at hu
    by_cases e:i=ns.length-1
    ·rw[e,hu]at hus;cases hus
    ·omega
 ·rcases hcs i hi with⟨_,hm⟩|he
  ·exact Srt.asc (List.Pairwise.sublist (Qc0 T _ hm) hV.srt)
  ·rw[he];intro k hk;exact absurd hk (by simp)
 ·rcases hcs i hi with⟨_,hm⟩|he
  ·exact hV.ents x ((Qc0 T _ hm).subset hx)
  ·rw[he]at hx;cases hx
section
variable{es:List TEnt}{ks:List BT}{k:Nat}
def Qcx(es:List TEnt)(ks:List BT):Nat->List TEnt
 | 0=>[]
 | k+1=>(Qcx es ks k++if 0<ks.length then(nth ks k).flat else[])++if k<es.length then[nth es k]else[]
def QeW(es:List TEnt)(ks:List BT)(k:Nat):List TEnt:=Qcx es ks k++if 0<ks.length then(nth ks k).flat else[]
theorem Qbx:Qcx es ks (k+1)=QeW es ks k++if k<es.length then[nth es k]else[]:=rfl
theorem Qee(h:k<es.length):Qcx es ks (k+1)=QeW es ks k++[nth es k]:=by rw[Qbx,if_pos h]
theorem Qnq(h:¬k<es.length):Qcx es ks (k+1)=QeW es ks k:=by rw[Qbx,if_neg h,List.append_nil]
theorem QbK(h:0<ks.length):QeW es ks k=Qcx es ks k++(nth ks k).flat:=by rw[QeW,if_pos h]
theorem Qmk(h:¬0<ks.length):QeW es ks k=Qcx es ks k:=by rw[QeW,if_neg h,List.append_nil]
theorem Qeu{α:Type}[Inhabited α]{l:List α}{i:Nat}(h:i<l.length):l.drop i=nth l i::l.drop (i+1):=by
 rw[List.drop_eq_getElem_cons h,show nth l i=l[i]from Q2 (List.getElem?_eq_getElem h)]
theorem QhG:∀{k:Nat},k<=es.length->Qcx es [] k=es.take k
 | 0,_=>by rw[Qcx,List.take_zero]
 | k+1,h=>by
  rw[Qee om,Qmk (by simp),QhG om,List.take_add_one,Xk om];rfl
theorem Qhp(h:ks.length=es.length+1):∀{k:Nat},k<=es.length->Qcx es ks k++flatL (es.drop k) (ks.drop k)=flatL es ks
 | 0,_=>by rw[Qcx,List.drop_zero,List.drop_zero,List.nil_append]
 | k+1,hk=>by
  have h1:=Qhp (k:=k) h om;rw[Qeu (l:=es) (i:=k) om,Qeu (l:=ks) (i:=k) om,flatL]at h1;rw[Qee om,QbK om,<-h1];simp
theorem Qkd(h:ks=[]\/ks.length=es.length+1):Qcx es ks (es.length+1)=flatL es ks:=by
 rcases h with h|h
 ·subst h;rw[Qnq om,Qmk (by simp),QhG (Nat.le_refl _),List.take_length,Q5]
 ·have h1:=Qhp (k:=es.length) h (Nat.le_refl _);rw[Qeu (l:=ks) (i:=es.length) om,List.drop_length,flatL,List.drop_of_length_le om,flatL]at h1;rw[Qnq om,QbK om,<-h1,List.append_nil]
theorem Qq7:(Qcx es ks k).length<=(QeW es ks k).length:=by
 unfold QeW;rw[List.length_append];omega
theorem Qkw:(QeW es ks k).length<=(Qcx es ks (k+1)).length:=by
 rw[Qbx,List.length_append];omega
theorem Qte{m:Nat}(h:k<=m):(Qcx es ks k).length<=(Qcx es ks m).length:=by
 obtain⟨d,rfl⟩:=Nat.exists_eq_add_of_le h
 clear h
 induction d with
 | zero=>exact Nat.le_refl _
 | succ d ih=>exact Nat.le_trans ih (Nat.le_trans Qq7 Qkw)
theorem QoT(h:ks=[]\/ks.length=es.length+1)(hk:k<=es.length+1):(Qcx es ks k).length<=(flatL es ks).length:=by
 rw[<-Qkd h];exact Qte hk
theorem QwG(h:ks=[]\/ks.length=es.length+1)(hk:k<=es.length):(QeW es ks k).length<=(flatL es ks).length:=Nat.le_trans Qkw (QoT h om)
theorem Qmw(h:ks=[]\/ks.length=es.length+1){k:Nat}(hk:k<=es.length+1):∃B,flatL es ks=Qcx es ks k++B:=by
 rw[<-Qkd h];obtain⟨d,hd⟩:=Nat.exists_eq_add_of_le hk;rw[hd]
 clear hd hk h
 induction d with
 | zero=>exact⟨[],by rw[List.append_nil];rfl⟩
 | succ d ih=>
  obtain⟨B,hB⟩:=ih;rw[show k+(d+1)=(k+d)+1 from rfl,Qbx,QeW,hB,List.append_assoc,List.append_assoc];exact⟨_,rfl⟩
theorem Qio(h:ks=[]\/ks.length=es.length+1){k:Nat}(hk:k<=es.length):∃B,flatL es ks=QeW es ks k++B:=by
 obtain⟨B,hB⟩:=Qmw h (k:=k+1) om;rw[hB,Qbx,List.append_assoc];exact⟨_,rfl⟩
theorem Qs4(h:ks.length=es.length+1){k:Nat}(hk:k<ks.length){x:TEnt}(hx:x∈(nth ks k).flat):x∈flatL es ks:=by
 obtain⟨B,hB⟩:=Qio (.inr h) (k:=k) om;rw[hB,QbK om];exact List.mem_append_left _ (List.mem_append_right _ hx)
def NIn(ns:List Nd)(T:BT):Prop:=∀p∈T.nodes,p.1<ns.length/\nth ns p.1=p.2
theorem QU.nin{ns:List Nd}{T:BT}(h:QU ns T):NIn ns T:=λp hp=>RepN.at_ (i:=p.1) (x:=p.2) h hp
theorem NIn.root{ns:List Nd}{i:Nat}(h:NIn ns (.nd i es ks)):i<ns.length/\nth ns i=⟨true,es,QP ks⟩:=by
 refine h (i,⟨true,es,QP ks⟩) ?_;rw[BT.nodes];exact List.mem_cons_self ..
theorem Qd6{k:BT}{p:Nat×Nd}:∀{ks:List BT},k∈ks->p∈k.nodes->p∈nodesL ks
 | [],h,_=>(nomatch h)
 | x::ks,h,hp=>by
  rw[nodesL];rcases List.mem_cons.1 h with rfl|h
  ·exact List.mem_append_left _ hp
  ·exact List.mem_append_right _ (Qd6 h hp)
theorem Qpc{ks:List BT}{k:Nat}(h:k<ks.length):nth ks k∈ks:=QI h
theorem NIn.kid{ns:List Nd}{i:Nat}(h:NIn ns (.nd i es ks))(hk:k<ks.length):NIn ns (nth ks k):=λp hp=>h p (by
 rw[BT.nodes];exact List.mem_cons_of_mem _ (Qd6 (Qpc hk) hp))
theorem QiG(hk:k<ks.length):(QP ks).getD k 0=((nth ks k).idx:Int):=by
 unfold QP;rw[List.getD_eq_getElem?_getD,List.getElem?_map,Xk hk];rfl
theorem QfA{lo hi d i:Nat}(h:Bel lo hi (d+1) (.nd i es ks))(hk:k<ks.length):Bel lo hi d (nth ks k):=(XI.1 (h.2 _ (Qpc hk))).1
theorem QmU{lo hi i:Nat}(h:Bel lo hi 0 (.nd i es ks)):ks=[]:=h
end
theorem Qua{co:Int}{es:List TEnt}(h:∀x∈es,Yu co x=0):Z5 co es=0:=by
 unfold Z5;refine QeJ.2 λe he=>?_;obtain⟨x,hx,rfl⟩:=List.mem_map.1 he;exact h x hx
theorem Quc{co:Int}{es:List TEnt}(h:Asc co es):QaW co es=0:=by
 unfold QaW;refine QeJ.2 λe he=>?_;obtain⟨k,hk,rfl⟩:=List.mem_map.1 he;have hk:=List.mem_range.1 hk;unfold Qbu;rw[if_pos];rcases Nat.eq_zero_or_pos k with h0|h0
 ·exact .inl h0
 ·refine .inr ?_;have:=h (k-1) om
  rwa[show k-1+1=k by omega]at this
theorem QrW{ns:List Nd}:∀{cs seen:List Int},(∀c∈cs,(1<=c/\c<=(ns.length:Int)-1)/\(nth ns c.toNat).us=true)->(seen.reverse++cs).Nodup->Ys ns cs seen=(0,cs.reverse++seen)
 | [],seen,_,_=>rfl
 | c::cs,seen,h,hn=>by
  have hc:c ∉ seen:=λhm=>by
   have h1:=List.nodup_append.1 hn;exact h1.2.2 c (List.mem_reverse.2 hm) c (List.mem_cons_self ..) rfl
  rw[Ys,if_pos (h c (List.mem_cons_self ..)),if_neg hc,QrW (λx hx=>h x (List.mem_cons_of_mem _ hx)) (by rw[List.reverse_cons,List.append_assoc];exact hn),List.reverse_cons,List.append_assoc];rfl
theorem Qus{t:Tre}{i:Nat}{seen:List Int}(hT:TOk t.co t.ns)(hi:i<t.ns.length)(hm:(nth t.ns i).us=true->((nth t.ns i).es.length:Int)<=YB t.mo t.rm i)(hn:(seen.reverse++(nth t.ns i).cs).Nodup):Yh t i seen=(0,(nth t.ns i).cs.reverse++seen):=by
 cases hu:(nth t.ns i).us with
 | true=>
  have hk:=QrW (hT.kid i hi) hn;rw[Qng rfl hu (hm hu) (hT.shape i hi) (Qua (hT.ents i hi)) (by rw[hk]),hk,Quc (hT.asc i hi)]
 | false=>
  have h1:=hT.free i hi hu;rw[Qnv (by rw[hu];decide),if_pos ⟨h1.1,by rw[h1.2.1,h1.2.2];rfl⟩,h1.2.2];rfl
theorem Qo7{t:Tre}(hT:TOk t.co t.ns)(hm:∀i,i<t.ns.length->(nth t.ns i).us=true->((nth t.ns i).es.length:Int)<=YB t.mo t.rm i):∀(f i:Nat)(seen:List Int),i+f=t.ns.length->(seen.reverse++(t.ns.drop i).flatMap Nd.cs).Nodup->(Ym t f i seen).2=0
 | 0,i,seen,_,_=>rfl
 | f+1,i,seen,hf,hn=>by
  have hi:i<t.ns.length:=by omega
  have e:t.ns.drop i=nth t.ns i::t.ns.drop (i+1):=Qeu hi;rw[e,List.flatMap_cons,<-List.append_assoc]at hn;have h1:=Qus hT hi (hm i hi) (List.nodup_append.1 hn).1;rw[Ym,h1,if_pos rfl];refine Qo7 hT hm f (i+1) _ om ?_;rw[List.reverse_append,List.reverse_reverse];exact hn
theorem Qla{lo hi d:Nat}:∀{ks:List BT},(∀k∈ks,Bal lo hi d k)->∀p∈nodesL ks,lo<=p.2.es.length/\p.2.es.length<=hi:=by
 induction d with
 | zero=>
  intro ks h p hp;obtain⟨k,hk,hp⟩:=QbV (k:=default) hp;have hb:=h k hk;cases k with
  | nd i es js=>
   have e:js=[]:=hb.1;rw[e,BT.nodes,nodesL]at hp;rcases List.mem_cons.1 hp with rfl|hp
   ·exact hb.2
   ·cases hp
 | succ d ih=>
  intro ks h p hp;obtain⟨k,hk,hp⟩:=QbV (k:=default) hp;have hb:=h k hk;cases k with
  | nd i es js=>
   rw[BT.nodes]at hp;rcases List.mem_cons.1 hp with rfl|hp
   ·exact hb.2
   ·exact ih hb.1.2 p hp
theorem Qq3{ns:List Nd}{lo hi:Nat}:∀{d f:Nat}{T:BT},Bel lo hi d T->NIn ns T->d<f->btN ns f T.idx=T
 | d,0,_,_,_,h=>absurd h (Nat.not_lt_zero _)
 | 0,f+1,.nd i es ks,hB,hN,_=>by
  have hk:=QmU hB;subst hk;show btN ns (f+1) i=_;rw[btN,hN.root.2];rfl
 | d+1,f+1,.nd i es ks,hB,hN,h=>by
  show btN ns (f+1) i=_;rw[btN,hN.root.2];show BT.nd i es ((QP ks).map λc=>btN ns f c.toNat)=_;congr 1;refine List.ext_getElem (by rw[List.length_map,QV]) λk h1 h2=>?_;rw[List.getElem_map]
  have e:(QP ks)[k]'(by rw[QV];exact h2)=((nth ks k).idx:Int):=by
   have:=QiG h2;rw[List.getD_eq_getElem?_getD,List.getElem?_eq_getElem (by rw[QV];exact h2)]at this;exact this
  rw[e,Int.toNat_natCast,Qq3 (QfA hB h2) (hN.kid h2) om,show nth ks k=ks[k]from Q2 (List.getElem?_eq_getElem h2)]
theorem Qmf{ns:List Nd}{lo hi:Nat}:∀{d f:Nat}{T:BT},Bel lo hi d T->NIn ns T->d<f->YH ns f T.idx=(d:Int)
 | d,0,_,_,_,h=>absurd h (Nat.not_lt_zero _)
 | 0,f+1,.nd i es ks,hB,hN,_=>by
  have hk:=QmU hB;subst hk;show YH ns (f+1) i=_;rw[YH,hN.root.2];exact if_pos rfl
 | d+1,f+1,.nd i es ks,hB,hN,h=>by
  have hl:0<ks.length:=by have:=hB.1;simp only[BT.ks,BT.es]at this;omega
  show YH ns (f+1) i=_;rw[YH,hN.root.2,if_neg (by show¬(QP ks).length=0;rw[QV];omega)];show YH ns f ((QP ks).getD 0 0).toNat+1=_;rw[QiG hl,Int.toNat_natCast,Qmf (QfA hB hl) (hN.kid hl) om];simp
section
variable{co:Int}{es:List TEnt}{ks:List BT}{k:Nat}
theorem Qvr(hs:Srt co (flatL es ks))(h:ks.length=es.length+1)(hk:k<es.length){x:TEnt}(hx:x∈(nth ks k).flat):QX co x.key (nth es k).key<0:=by
 obtain⟨B,hB⟩:=Qmw (.inr h) (k:=k+1) om;rw[hB,Qee hk,QbK om]at hs;have h1:=(List.pairwise_append.1 hs).1;exact(List.pairwise_append.1 h1).2.2 x (List.mem_append_right _ hx) _ (List.mem_singleton.2 rfl)
theorem QvM(hs:Srt co (flatL es ks))(h:ks.length=es.length+1)(hk:k<es.length){x:TEnt}(hx:x∈(nth ks (k+1)).flat):QX co (nth es k).key x.key<0:=by
 obtain⟨B,hB⟩:=Qio (.inr h) (k:=k+1) om;rw[hB,QbK om,Qee hk]at hs;have h1:=(List.pairwise_append.1 hs).1;exact(List.pairwise_append.1 h1).2.2 _ (List.mem_append_right _ (List.mem_singleton.2 rfl)) x hx
theorem QsA(hs:Srt co (flatL es ks))(h:ks.length=es.length+1)(hk:k<ks.length):Srt co (nth ks k).flat:=by
 obtain⟨B,hB⟩:=Qio (.inr h) (k:=k) om;rw[hB,QbK om]at hs;exact(List.pairwise_append.1 (List.pairwise_append.1 hs).1).2.1
end
theorem QqK{co:Int}{ns:List Nd}{lo hi:Nat}:∀{d f:Nat}{T:BT}{v:Vis},Bel lo hi d T->NIn ns T->d<f->v.i=T.idx->Srt co T.flat->(∀x∈T.flat,InB co v.lo v.hi x)->∀u∈vis ns f v,(∀x∈(nth ns u.i).es,InB co u.lo u.hi x)/\((nth ns u.i).cs.length=0->u.d=v.d+(d:Int))
 | d,0,_,_,_,_,h,_,_,_,_,_=>absurd h (Nat.not_lt_zero _)
 | 0,f+1,.nd i es ks,v,hB,hN,_,hv,hs,hb,u,hu=>by
  have hk:=QmU hB;subst hk;have hi:v.i=i:=hv;rw[vis,hi,hN.root.2]at hu;rcases List.mem_cons.1 hu with rfl|hu
  ·rw[hi,hN.root.2];rw[BT.flat,Q5]at hb;exact⟨hb,λ_=>by simp⟩
  ·cases hu
 | d+1,f+1,.nd i es ks,v,hB,hN,h,hv,hs,hb,u,hu=>by
  have hi:v.i=i:=hv;have hl:ks.length=es.length+1:=hB.1;rw[BT.flat]at hs hb;rw[vis,hi,hN.root.2]at hu;rcases List.mem_cons.1 hu with rfl|hu
  ·rw[hi,hN.root.2];refine⟨λx hx=>hb x ((Qik es ks).subset hx),λh9=>?_⟩;have h8:(QP ks).length=0:=h9;rw[QV]at h8;omega
  ·obtain⟨k,hk,hu⟩:=List.mem_flatMap.1 hu;have hk:=List.mem_range.1 hk;have hk:k<ks.length:=by rw[<-QV];exact hk
   have hj:((QP ks).getD k 0).toNat=(nth ks k).idx:=by rw[QiG hk,Int.toNat_natCast]
   have h1:=QqK (co:=co) (f:=f) (v:=⟨((QP ks).getD k 0).toNat,v.d+1,loK es k v.lo,hiK es k v.hi⟩) (QfA hB hk) (hN.kid hk) om hj (QsA hs hl hk) (λx hx=>?_) u hu
   ·refine⟨h1.1,λh9=>?_⟩;rw[h1.2 h9];show v.d+1+(d:Int)=_;simp only[Int.natCast_add,Int.natCast_one];omega
   ·have h2:=hb x (Qs4 hl hk hx);refine⟨λb hb2=>?_,λb hb2=>?_⟩
    ·change loK es k v.lo=some b at hb2
     unfold loK at hb2
     by_cases h0:0<k
     ·rw[if_pos h0]at hb2;injection hb2 with hb2
      subst hb2;obtain⟨q,rfl⟩:∃q,k=q+1:=⟨k-1,om⟩;exact QvM hs hl om hx
     ·rw[if_neg h0]at hb2;exact h2.1 b hb2
    ·change hiK es k v.hi=some b at hb2
     unfold hiK at hb2
     by_cases h0:k<es.length
     ·rw[if_pos h0]at hb2;injection hb2 with hb2
      subst hb2;exact Qvr hs hl h0 hx
     ·rw[if_neg h0]at hb2;exact h2.2 b hb2
theorem QrF{ns:List Nd}{below:List Nat}:∀{f i:Nat},(∀j,i<=j->j<i+f->(nth ns j).us=true->j∈below)->Z9 ns below f i=none
 | 0,i,_=>rfl
 | f+1,i,h=>by
  rw[Z9,if_neg (λh1=>h1.2 (h i (Nat.le_refl _) om h1.1))];exact QrF λj h1 h2=>h j om om
theorem Qpz{t:Tre}{deep:Int}:∀{vs:List Vis},(∀v∈vs,Qct t deep v=0)->(YA t deep vs).2=0
 | [],_=>rfl
 | v::vs,h=>by
  rw[YA,if_pos (h v (List.mem_cons_self ..))];exact Qpz λu hu=>h u (List.mem_cons_of_mem _ hu)
theorem QrL{lo hi:Nat}:∀{d:Nat}{T:BT},Bel lo hi d T->d<T.nodes.length
 | 0,.nd i es ks,h=>by
  rw[BT.nodes];exact Nat.succ_pos _
 | d+1,.nd i es ks,h=>by
  have hl:0<ks.length:=by have:=h.1;simp only[BT.ks,BT.es]at this;omega
  have h1:=QrL (QfA h hl);rw[BT.nodes];cases ks with
  | nil=>cases hl
  | cons k ks=>
   rw[nodesL,List.length_cons,List.length_append];have e:nth (k::ks) 0=k:=rfl;rw[e]at h1;omega
theorem QqL{t:Tre}{lo hi rt d:Nat}{T:BT}(hc:QJ t.co=0)(hse:XW t.mo t.rm=0)(hz:Sz t.mo t.rm lo hi rt)(hR:QU t.ns T)(hV:VT t.co lo hi rt d T)(hu:X1 t.ns)(hl:t.ns.length<=120):(XV t).2=0:=by
 have hT:=QsO hR hV hu;have hroot:=hR.root;have h0:0<t.ns.length:=om
 have hN:=hR.nin;have hdl:d<t.ns.length:=Nat.lt_of_lt_of_le (QrL hV.bel) hR.nlen;have hw:Gx.Way t.ns [0]:=rfl
 have hbt:btN t.ns t.ns.length 0=T:=by
  have:=Qq3 hV.bel hN hdl
  rwa[hV.idx]at this
 have hvb:=Qk6 hT h0 t.ns.length ZF [] hw (by simp);rw[show ZF.i=0 from rfl,hbt]at hvb
 have hes:∀p∈T.nodes,p.1=0\/(lo<=p.2.es.length/\p.2.es.length<=hi):=λp hp=>by
  cases T with
  | nd i es ks=>
   rw[BT.nodes]at hp;rcases List.mem_cons.1 hp with rfl|hp
   ·exact .inl hV.idx
   ·cases d with
    | zero=>
     rw[QmU hV.bel,nodesL]at hp;cases hp
    | succ d=>exact .inr (Qla hV.bel.2 p hp)
 have hin:∀i,i<t.ns.length->(nth t.ns i).us=true->(i,nth t.ns i)∈T.nodes:=λi hi hus=>by
  by_cases hm:i∈T.nodes.map Prod.fst
  ·obtain⟨p,hp,rfl⟩:=List.mem_map.1 hm;rw[(hN p hp).2];exact hp
  ·rw[RepN.rest hR i hi hm]at hus;cases hus
 have hmost:∀i,i<t.ns.length->(nth t.ns i).us=true->((nth t.ns i).es.length:Int)<=YB t.mo t.rm i:=λi hi hus=>by
  unfold YB;have e1:=hz.emo;have e2:=hz.erm
  by_cases h9:i=0
  ·subst h9;rw[if_pos rfl];have h8:=hroot.2;rw[hV.idx]at h8;rw[h8];have:=hV.root;simp only;omega
  ·rw[if_neg h9];rcases hes _ (hin i hi hus)with h|h
   ·exact absurd h h9
   ·simp only at h;omega
 have hnods:=Qo7 (t:=t) hT hmost t.ns.length 0 [] om (by rw[List.drop_zero];exact hT.once);unfold XV;rw[if_pos hc,if_pos hse,if_pos h0,if_pos hl,if_pos hnods]
 have hop:Z9 t.ns ((Y2 t.ns).map Vis.i) t.ns.length 0=none:=QrF λj _ h2 hus=>by
  show j∈(vis t.ns t.ns.length ZF).map Vis.i;rw[hvb];exact List.mem_map.2 ⟨_,hin j om hus,rfl⟩
 rw[hop]
 have hdeep:YH t.ns t.ns.length 0=(d:Int):=by
  have:=Qmf hV.bel hN hdl
  rwa[hV.idx]at this
 refine Qpz λu huv=>?_;have h1:=QqK (co:=t.co) (v:=ZF) hV.bel hN hdl hV.idx.symm hV.srt (λx _=>⟨λb h=>(nomatch h),λb h=>(nomatch h)⟩) u huv
 have hmem:u.i∈T.nodes.map Prod.fst:=by
  rw[<-hvb];exact List.mem_map.2 ⟨u,huv,rfl⟩
 obtain⟨p,hp,hpu⟩:=List.mem_map.1 hmem;have hpn:=hN p hp;rw[hpu]at hpn;rw[Qbd,if_neg,if_neg,if_neg]
 ·intro h9;rw[hdeep]at h9;have:=h1.2 h9.1;have e:ZF.d=1:=rfl;omega
 ·unfold Z2;intro h9;obtain⟨x,hx,ho⟩:=List.any_eq_true.1 h9;have h8:=h1.1 x hx;rcases QjE.1 ho with⟨b,hb,hle⟩|⟨b,hb,hle⟩
  ·have:=h8.1 b hb;omega
  ·have:=h8.2 b hb;omega
 ·unfold Z8;intro h9;simp only[Bool.and_eq_true,Bool.or_eq_true,decide_eq_true_eq]at h9;have e1:=hz.emo;have e2:=hz.erm;have e3:=hz.elo;rcases hes p hp with h|h
  ·omega
  ·rw[hpn.2]at h9;rcases h9.2 with h8|h8
   ·omega
   ·have h7:=hroot.2;rw[hV.idx]at h7;rw[h7]at h8;have hnil:T.es=[]:=List.eq_nil_of_length_eq_zero h8.1.1;have hm9:(u.i:Int)∈QP T.ks:=h8.1.2;obtain⟨k,hk,hke⟩:=List.mem_map.1 hm9
    have hone:T.ks=[k]:=by
     have hs:=hV.bel.cs;rcases hs with hs|hs
     ·rw[hs]at hk;cases hk
     ·rw[hnil]at hs;cases hks:T.ks with
      | nil=>
       rw[hks]at hk;cases hk
      | cons q qs=>
       rw[hks]at hs hk;have:qs=[]:=List.eq_nil_of_length_eq_zero (by simpa using hs);subst this;rcases List.mem_singleton.1 hk with rfl
       rfl
    have hg:=hV.gap hnil k hone
    have hkn:(u.i,(⟨true,k.es,QP k.ks⟩:Nd))∈T.nodes:=by
     have:k.idx=u.i:=om
     rw[<-this];cases T with
     | nd i es ks=>
      rw[BT.nodes];refine List.mem_cons_of_mem _ (Qd6 (k:=k) hk ?_);cases k with
      | nd a b c=>
       rw[BT.nodes];exact List.mem_cons_self ..
    have h6:=(hN _ hkn).2;simp only at h6;rw[hpn.2]at h6;have h5:=h8.2;rw[h6]at h5;simp only at h5;omega
end Gx
namespace Gx
open Go Go.RowKit
theorem Qeq{ns:List Nd}{T:BT}(h:QU ns T):ns.all Zo=true ↔ ∀x∈T.flat,YS x=true:=by
 constructor
 ·intro h1 x hx;obtain⟨p,hp,h2⟩:=Qb0 T x hx;have h3:=RepN.at_ (i:=p.1) (x:=p.2) h hp;have h4:=List.all_eq_true.1 h1 p.2 (by rw[<-h3.2];exact QI h3.1);exact List.all_eq_true.1 h4 x h2
 ·intro h1;refine Qox λi hi=>?_
  by_cases hm:i∈T.nodes.map Prod.fst
  ·obtain⟨p,hp,rfl⟩:=List.mem_map.1 hm;have h3:=RepN.at_ (i:=p.1) (x:=p.2) h hp;rw[h3.2];exact List.all_eq_true.2 λx hx=>h1 x ((Qc0 T p hp).subset hx)
  ·rw[RepN.rest h i hi hm];rfl
theorem NdK.of(b:List UInt8)(num:Int):Zo (XN b num).n=true:=by
 have h0:Zo Qk2=true:=rfl
 by_cases h1:b.length=512
 ·by_cases h2:1<=num/\num<=120
  ·cases h3:X2 b with
   | true=>rw[QfB h1 h2 h3];exact h0
   | false=>
    cases h4:rdB (Xa b)with
    | none=>rw[QeK h1 h2 h3 h4];exact h0
    | some q=>
     obtain⟨m,last⟩:=q;have e:=Qdj h1 h2 h3 h4;obtain⟨_,_,_,_,_,q6⟩:=Qba (Y6 h1) h4;rw[e];split
     ·exact List.all_eq_true.2 λx hx=>by have:=q6.es x hx;grind[Yy,YS]
     ·exact h0
  ·rw[QiA h1 h2];exact h0
 ·rw[QiN h1];exact h0
theorem NdK.bk(x:Ixs)(i:Nat):Zo (bkN x i)=true:=by
 have h0:Zo Qk2=true:=rfl
 grind[bkN,NdK.of]
theorem Qek{x:Ixs}(h:(rdI x).2=0):(rdI x).1.1.mo<=4/\(rdI x).1.1.ns.all Zo=true:=by
 obtain⟨h0,ht,_⟩:=Qal h;obtain⟨n0,l0,hr,_,_,hrt,hl,hx9⟩:=ZE (QcQ h0).2.2.1
 have hmo:(Qd x.ro).1.mo<=4:=by
  rw[hrt]
  grind
 rw[ht];refine⟨hmo,?_⟩;show(QH x x.n).all Zo=true;refine List.all_eq_true.2 λn hn=>?_;unfold QH at hn;rw[List.mem_append,hrt]at hn;rcases hn with hn|hn
 ·obtain rfl:n=n0:=by simpa using hn
  obtain⟨_,_,_,_,_,_,_,q8,_⟩:=QeN om hr;exact List.all_eq_true.2 λy hy=>by have:=q8 y hy;grind[Yy,YS]
 ·obtain⟨j,_,rfl⟩:=List.mem_map.1 hn;exact NdK.bk x (j+1)
theorem Qft{x:Ixs}(h:(rdI x).2=0):Sm 1000 (rdI x).1.1.ns/\(rdI x).1.1.ns.length<=1000:=by
 obtain⟨_,hn,hB,_⟩:=Zk h;rw[hn];refine⟨λk=>?_,hB.len⟩;rcases Nat.lt_or_ge k (QH x x.n).length with hk|hk
 ·exact⟨hB.es k hk,hB.cs k hk⟩
 ·rw[Zb hk];exact⟨Nat.zero_le _,Nat.zero_le _⟩
theorem Qs8{t:Tre}{e:TEnt}(h0:(XV t).2=0)(hmo:t.mo<=4)(hsm:t.ns.all Zo=true):InsP t e/\(XL t e=0->YM (inT t e)=0):=by
 obtain⟨hc,hs,hl0,hl,_⟩:=YJ h0;obtain⟨T,d,hR,hV,hz,hu⟩:=QoN h0
 have key:inE t e=0->(XV (inT t e)).2=0/\∃T':BT,QU (inT t e).ns T'/\T'.flat=QT T.flat (plc t.co T.flat e.key) e/\Sm 100000 (inT t e).ns:=λh9=>by
  have h8:Yu t.co e=0:=by grind[inE]
  have h7:QdU t.co t.mo t.rm t.ns e=0:=by grind[inE]
  have h6:¬(Qj t.co t.ns e.key).2.2=true/\(QaQ t.co t.mo t.rm t.ns e).length<=120:=by grind[QdU]
  have hI:=Qmi hz hR hV om hu h8 h6.1;obtain⟨T',d',hR',hV',hf⟩:=hI.tree;exact⟨QqL (t:=inT t e) hc hs hz hR' hV' hI.last h6.2,T',hR',hf,(hR'.sm hV'.bel (Nat.le_refl _) (Nat.le_trans hV'.root hz.rh)).mono (by have:=hz.hi8;omega)⟩
 refine⟨⟨λh1 h2=>(Qmi hz hR hV om hu h1 h2).ok,λh1=>(key h1).2.choose_spec.2.2⟩,λh1=>?_⟩;have h2:inE t e=0/\YS e=true:=by grind[XL,YS]
 obtain⟨h3,T',hR',hf,_⟩:=key h2.1;unfold YM;rw[if_pos h3,if_pos];refine⟨hmo,(Qeq hR').2 λy hy=>?_⟩;rw[hf]at hy;have h4:=(Qeq hR).1 hsm;unfold QT at hy;rcases List.mem_append.1 hy with hy|hy
 ·exact h4 y (List.mem_of_mem_take hy)
 ·rcases List.mem_cons.1 hy with rfl|hy
  ·exact h2.2
  ·exact h4 y (List.mem_of_mem_drop hy)
theorem Qi6{x:Ixs}{e:TEnt}(h:(rdI x).2=0):InsX x e:=
 have h1:=Qs8 (e:=e) (Zk h).1 (Qek h).1 (Qek h).2
 ⟨h1.1,h1.2⟩
theorem Qfi{x:Ixs}{t:Tre}{E lsn:Int}(h:¬opE x E lsn=0):opX x t E lsn=⟨[],[],[]⟩/\opL x t E lsn=[]:=⟨if_neg h,if_neg h⟩
theorem QiL{x:Ixs}{t:Tre}{E lsn:Int}(h:opE x E lsn=0):opX x t E lsn=chX x (QH x x.n) t lsn/\opL x t E lsn=chL x (chX x (QH x x.n) t lsn):=by
 unfold opX opL;rw[if_pos h,if_pos h,(Zk (Qm6 h).1).2.1];exact⟨rfl,rfl⟩
theorem Qnt{x:Ixs}{E lsn:Int}(h:¬(rdI x).2=0):opE x E lsn=(rdI x).2:=if_neg h
theorem Qww{x:Ixs}{E lsn:Int}(h:(rdI x).2=0):opE x E lsn=if E=0 then if 0<=lsn/\lsn<=2147483647 then 0 else 2 else E:=if_pos h
theorem Qtd{t:Tre}{k:List UInt8}(h0:(XV t).2=0)(hmo:t.mo<=4)(hsm:t.ns.all Zo=true):RemP t k/\(rmE t k=0->YM (rmT t k)=0):=by
 obtain⟨hc,hs,hl0,hl,_⟩:=YJ h0;obtain⟨T,d,hR,hV,hz,hu⟩:=QoN h0;have key:rmE t k=0->Removed t.co t.mo t.rm (t.mo.toNat/2) t.mo.toNat t.rm.toNat t.ns k T.flat:=λh9=>Qtb hz hR hV om (by grind[rmE]);refine⟨⟨λh1=>(key h1).ok,λh1=>?_⟩,λh1=>?_⟩
 ·obtain⟨T',d',hR',hV',hf⟩:=(key h1).tree;exact⟨(hR'.sm hV'.bel (Nat.le_refl _) (Nat.le_trans hV'.root hz.rh)).mono (by have:=hz.hi8;omega),by have:=(key h1).len;show(Qbv ..).length<=_;omega⟩
 ·obtain⟨T',d',hR',hV',hf⟩:=(key h1).tree;have h3:(XV (rmT t k)).2=0:=QqL (t:=rmT t k) hc hs hz hR' hV' (key h1).last (Nat.le_trans (key h1).len hl);unfold YM;rw[if_pos h3,if_pos];refine⟨hmo,(Qeq hR').2 λy hy=>(Qeq hR).1 hsm y ?_⟩;rw[hf]at hy;exact(Qd3 _ _).subset hy
theorem QiU{x:Ixs}{k:List UInt8}(h:(rdI x).2=0):RemX x k:=
 have h1:=Qtd (k:=k) (Zk h).1 (Qek h).1 (Qek h).2
 ⟨h1.1,h1.2⟩
end Gx
namespace Go.Proofs
open Go Go.RowKit Gx
attribute [local irreducible] Go.Calls Gx.S Gx.O Gx.D Gx.OpP Gx.OpQ Gx.OpH
set_option maxRecDepth 20000
instance:TFn Tryz.prog 44:=⟨by kernel_rfl⟩
theorem Qub(w:World)(x:Ixs)(a:Option Addr)(cap:Nat)(L:List LNd)(e:TEnt)(hs:Nt w [] a L)(hr:(rdI x).2=0)(hL:pln L=(rdI x).1.1.ns)(hkk:e.key.length<=1000000):CE 45 #[.agg #[.int .i64 (rdI x).1.1.co,.int .i64 (rdI x).1.1.mo,.int .i64 (rdI x).1.1.rm,.slice a L.length cap],.agg #[.string (bs e.key),.string (bs e.val)]] w [] (λg:((Int×Int×Int)×(Option Addr×Nat)×List LNd)×(Option Addr×Nat×Nat)=>.tuple #[.agg #[.int .i64 g.1.1.1,.int .i64 g.1.1.2.1,.int .i64 g.1.1.2.2,.slice g.1.2.1.1 g.1.2.2.length g.1.2.1.2],.slice g.2.1 g.2.2.1 g.2.2.2,.int .i64 (inE (rdI x).1.1 e)]) (λg=>(inE (rdI x).1.1 e=0->(⟨g.1.1.1,g.1.1.2.1,g.1.1.2.2,pln g.1.2.2⟩:Tre)=inT (rdI x).1.1 e)) λg=>[.nodes 27 69 g.1.2.1.1 g.1.2.1.2 g.1.2.2]:=by
  obtain⟨h0,hn9,hB9,hk9⟩:=Zk hr;rw[<-hn9,<-hL]at hB9 hk9;have h9:=c45P w (rdI x).1.1.co (rdI x).1.1.mo (rdI x).1.1.rm a cap L e hs hB9 (λi hi y hy=>hk9 (nth L i).pl (by rw[<-Ql hi];exact QI (by rw[Qb];exact hi)) y hy) (by rw[hL];exact h0) hkk (by rw[hL];exact(Qi6 hr).ok);rw[hL]at h9;exact h9
theorem QuG(w:World)(x:Ixs)(a:Option Addr)(cap:Nat)(L:List LNd)(k:List UInt8)(hs:Nt w [] a L)(hr:(rdI x).2=0)(hL:pln L=(rdI x).1.1.ns)(hkk:k.length<=1000000):CE 46 #[.agg #[.int .i64 (rdI x).1.1.co,.int .i64 (rdI x).1.1.mo,.int .i64 (rdI x).1.1.rm,.slice a L.length cap],.string (bs k)] w [] (λg:((Int×Int×Int)×(Option Addr×Nat)×List LNd)×(Option Addr×Nat×Nat)=>.tuple #[.agg #[.int .i64 g.1.1.1,.int .i64 g.1.1.2.1,.int .i64 g.1.1.2.2,.slice g.1.2.1.1 g.1.2.2.length g.1.2.1.2],.slice g.2.1 g.2.2.1 g.2.2.2,.int .i64 (rmE (rdI x).1.1 k)]) (λg=>(rmE (rdI x).1.1 k=0->(⟨g.1.1.1,g.1.1.2.1,g.1.1.2.2,pln g.1.2.2⟩:Tre)=rmT (rdI x).1.1 k)) λg=>[.nodes 27 69 g.1.2.1.1 g.1.2.1.2 g.1.2.2]:=by
  obtain⟨h0,hn9,hB9,hk9⟩:=Zk hr;rw[<-hn9,<-hL]at hB9 hk9;have h9:=c46P w (rdI x).1.1.co (rdI x).1.1.mo (rdI x).1.1.rm a cap L k hs hB9 (λi hi y hy=>hk9 (nth L i).pl (by rw[<-Ql hi];exact QI (by rw[Qb];exact hi)) y hy) (by rw[hL];exact h0) hkk (by rw[hL];exact(QiU hr).ok);rw[hL]at h9;exact h9
set_option maxHeartbeats 4000000 in
theorem c8a(w:World)(x:Ixs)(e:TEnt)(lsn:Int)(hfx:Qoe x=true)(hsl:QgM e=true):CR 8 #[.agg #[.string (bs x.ro),.string (bs x.al),.string (bs x.bm)],.agg #[.string (bs e.key),.string (bs e.val)],.int .i64 lsn] w (.bool true):=by
 obtain⟨hx1,hx2,hx3⟩:=Qr5 hfx
 have hs44:e.key.length<=44/\e.val.length<=70:=of_decide_eq_true hsl
 have hn8:x.n=x.al.length/512:=rfl
 refine eN3 Tryz.func8 Tryz.ntmps8 ?_
 refine aU2 ?_
 refine oBx λb1 _=>?_
 refine oBx λb2 _=>?_
 refine aU5 ?_
 refine oCq rfl (λw1 h1=>c11w w1) (aU2 ?_)
 refine sCd rfl (λh3=>?_) λh3=>?_
 ·exfalso;simp at h3
 refine aU5 ?_
 refine oCq rfl (λw1 h1=>c12 w1 x) (aU2 ?_)
 refine oOr 4 33 37 rfl
  (λhg4 _=>by
   refine aU3 ?_
   refine oCq rfl (λw1 h1=>c42 w1 e) (aU2 ?_)
   exact oJf 4 37)
  (λhg6 _=>by
   refine aU3 ?_
   exact oJt 4 37) ?_
 refine aU ?_
 refine sCd rfl (λh8=>?_) λh8=>?_
 ·exfalso;have hq:=h8;simp[hfx,hsl]at hq
 refine aU6 ?_
 refine oCh rfl (λw1 h1=>c43 w1 x e lsn om om om om om Qi6) (λ⟨la,lc⟩_=>aU4 ?_)
 refine oAl (λb9 _=>?_) YN
 refine Za ?_
 refine oCh rfl (λw1 h1=>c44 w1 x e.key lsn om om om om QiU) (λ⟨ma,mc⟩_=>aU4 ?_)
 refine oAl (λb10 _=>?_) YN
 refine aU5 ?_
 refine Qg (L':=[(2,_),(3,_),(4,_),(6,_),(7,_),(8,_),(9,_),(10,_),(11,_),(12,_)]) aSx (λ_ h=>h) ?_
 refine aU2 ?_
 refine oCh rfl (λw1 h1=>c16 w1 x om om om) (λ⟨⟨ra,rc⟩,RL⟩hRL=>aU4 ?_)
 refine oAl (λb11 _=>?_) Xh
 refine aU6 ?_
 refine o_p (QF (cs:=[_,_,_]) rfl rfl Qgl YN rfl) rfl (oAl (λb12 _=>?_) YN)
 refine aU8 ?_
 refine sCd rfl (λh13=>?_) λh13=>?_
 ·have hr:¬(rdI x).2=0:=h13
  have hA:¬(opE x (XL (rdI x).1.1 e) lsn)=0:=by rw[Qnt hr];exact hr
  have hB:¬(opE x (rmE (rdI x).1.1 e.key) lsn)=0:=by rw[Qnt hr];exact hr
  rw[(Qfi hA).1,(Qfi hA).2,(Qfi hB).1,(Qfi hB).2,Qnt hr,Qnt hr]
  refine aU6 ?_
  refine XF 4 67 71 rfl
   (λhg14 _=>by
    refine aU6 ?_
    exact oJt 4 71)
   (λhg16 _=>by
    refine aU3 ?_
    exact oJf 4 71) ?_
  refine aU ?_
  refine XF 4 72 76 rfl
   (λhg18 _=>by
    refine aU5 ?_
    refine o_p (Qdw rfl rfl rfl Qe8 (by rfl) (by rfl) (by rfl)) rfl ?_
    exact oJt 4 76)
   (λhg20 _=>by
    refine aU3 ?_
    exact oJf 4 76) ?_
  refine aU ?_
  refine XF 4 77 81 rfl
   (λhg22 _=>by
    refine aU5 ?_
    refine o_p (Qdw rfl rfl rfl Qe8 (by rfl) (by rfl) (by rfl)) rfl ?_
    exact oJt 4 81)
   (λhg24 _=>by
    refine aU3 ?_
    exact oJf 4 81) ?_
  refine aU ?_
  refine XF 7 82 89 rfl
   (λhg26 _=>by
    refine Qhi ?_
    refine aU2 ?_
    exact oJt 7 89)
   (λhg28 _=>by
    refine aU6 ?_
    exact oJf 7 89) ?_
  refine aU2 ?_
  exact rV (h:=by first|rfl|(simp[Xf];done)|(simp[Xf];rfl))
 have hr:(rdI x).2=0:=h13
 have hrt:=λE=>Qww (E:=E) (lsn:=lsn) hr
 refine aU2 ?_
 refine Qg (L':=[(2,_),(3,_),(4,_),(6,_),(7,_),(8,_),(9,_),(10,_),(11,_),(12,_),(13,_),(16,_)]) aSx (λ_ h=>h) ?_
 refine XY (α:=Nat×(Int×Int×Int)×(Option Addr×Nat)×List LNd×(Option Addr×Nat×Nat)) [17,18,19,90,91,92,93,94,95,96,97] (λy=>[(17,.pointer (some ⟨y.1,0,none⟩)),(18,.slice y.2.2.2.2.1 y.2.2.2.2.2.1 y.2.2.2.2.2.2),(19,.int .i64 (inE (rdI x).1.1 e))]) (λy=>HS w [] [.blk y.1 37 4 [.int .i64 y.2.1.1,.int .i64 y.2.1.2.1,.int .i64 y.2.1.2.2,.slice y.2.2.1.1 y.2.2.2.1.length y.2.2.1.2],.nodes 27 69 y.2.2.1.1 y.2.2.1.2 y.2.2.2.1,.own (.slice la ((opL x (inT (rdI x).1.1 e) (XL (rdI x).1.1 e) lsn)).length lc) 3 1 ((opL x (inT (rdI x).1.1 e) (XL (rdI x).1.1 e) lsn)).length (((opL x (inT (rdI x).1.1 e) (XL (rdI x).1.1 e) lsn)).map λi:Nat=>Value.int .i64 (i:Int)),.blk b9 23 3 [.string (bs (opX x (inT (rdI x).1.1 e) (XL (rdI x).1.1 e) lsn).ro),.string (bs (opX x (inT (rdI x).1.1 e) (XL (rdI x).1.1 e) lsn).al),.string (bs (opX x (inT (rdI x).1.1 e) (XL (rdI x).1.1 e) lsn).bm)],.nodes 27 69 ra rc RL,.own (.slice ma ((opL x (rmT (rdI x).1.1 e.key) (rmE (rdI x).1.1 e.key) lsn)).length mc) 3 1 ((opL x (rmT (rdI x).1.1 e.key) (rmE (rdI x).1.1 e.key) lsn)).length (((opL x (rmT (rdI x).1.1 e.key) (rmE (rdI x).1.1 e.key) lsn)).map λi:Nat=>Value.int .i64 (i:Int)),.blk b1 23 3 [.string (bs x.ro),.string (bs x.al),.string (bs x.bm)],.blk b2 27 2 [.string (bs e.key),.string (bs e.val)],.blk b10 23 3 [.string (bs (opX x (rmT (rdI x).1.1 e.key) (rmE (rdI x).1.1 e.key) lsn).ro),.string (bs (opX x (rmT (rdI x).1.1 e.key) (rmE (rdI x).1.1 e.key) lsn).al),.string (bs (opX x (rmT (rdI x).1.1 e.key) (rmE (rdI x).1.1 e.key) lsn).bm)],.blk b11 37 4 [.int .i64 (rdI x).1.1.co,.int .i64 (rdI x).1.1.mo,.int .i64 (rdI x).1.1.rm,.slice ra RL.length rc],.blk b12 23 3 [.string (bs []),.string (bs []),.string (bs [])]]) (λy=>(inE (rdI x).1.1 e)=0->(⟨y.2.1.1,y.2.1.2.1,y.2.1.2.2,pln y.2.2.2.1⟩:Tre)=(inT (rdI x).1.1 e)) ?_ ?_
 ·skip
  refine Qt [9] QC ?_
  refine dLn 0 [[]] ?_
  refine dLn 2 [[]] ?_
  refine QjB 1 8 rfl rfl (Yi rfl Qja rfl (λw1 h1=>c21 w1 (rdI x).1.1.co (rdI x).1.1.mo (rdI x).1.1.rm ra rc RL (HS.nt h1 aPk) (by rw[<-Qb,hRL];exact(Qft hr).2) (by rw[hRL];exact(Qft hr).1))) (ZX rfl Xh) (by kernel_rfl) (λw h=>h.ent aEt) rfl rfl (λ⟨⟨ga1,gc1⟩,LC1⟩hLC1=>?_) (λb30 _=>?_)
  ·skip
   refine dBa ?_
   refine QjB 3 8 rfl rfl (Yi rfl Qm2 rfl (λw1 h1=>Qub w1 x ga1 gc1 LC1 e (HS.nt h1 aPk) hr (hLC1.trans hRL) om)) (ZX rfl Xh) (by kernel_rfl) (λw h=>h.ent aEt) rfl rfl (λ⟨⟨⟨c1,m1,r1⟩,⟨na1,nc1⟩,L1⟩,⟨qa1,qn1,qc1⟩⟩hg1=>?_) (λb31 _=>?_)
   ·skip
    refine dBa ?_
    refine dP 4 ?_
    refine dP 5 ?_
    refine dP 6 ?_
    refine dP 7 ?_
    refine dH 8 rfl (ZX rfl Xh) (λb32 _=>dBa ?_)
    refine dSt 9 ?_ (hl:=(by simp only[Qm,List.length_set,List.length_cons,List.length_nil,List.length_map];omega))
    refine dTu [] ?_
    refine dP 10 ?_
    refine dP 11 ?_
    refine dNi ?_
    exact Qo (b32,(c1,m1,r1),(na1,nc1),L1,(qa1,qn1,qc1)) hg1 aSx (λw h=>h.ent aEt)
   skip
   refine dBa ?_
   refine dH 3 rfl (Yi rfl Qm2 rfl (λw1 h1=>Qub w1 x ga1 gc1 LC1 e (HS.nt h1 aPk) hr (hLC1.trans hRL) om)) (λ⟨⟨⟨c1,m1,r1⟩,⟨na1,nc1⟩,L1⟩,⟨qa1,qn1,qc1⟩⟩hg1=>dBa ?_)
   refine dP 4 ?_
   refine dP 5 ?_
   refine dP 6 ?_
   refine dP 7 ?_
   refine dSt 9 ?_ (hl:=(by simp only[Qm,List.length_set,List.length_cons,List.length_nil,List.length_map];omega))
   refine dTu [] ?_
   refine dP 10 ?_
   refine dP 11 ?_
   refine dNi ?_
   exact Qo (b31,(c1,m1,r1),(na1,nc1),L1,(qa1,qn1,qc1)) hg1 aSx (λw h=>h.ent aEt)
  skip
  refine dBa ?_
  refine dH 1 rfl (Yi rfl Qja rfl (λw1 h1=>c21 w1 (rdI x).1.1.co (rdI x).1.1.mo (rdI x).1.1.rm ra rc RL (HS.nt h1 aPk) (by rw[<-Qb,hRL];exact(Qft hr).2) (by rw[hRL];exact(Qft hr).1))) (λ⟨⟨ga1,gc1⟩,LC1⟩hLC1=>dBa ?_)
  refine dH 3 rfl (Yi rfl Qm2 rfl (λw1 h1=>Qub w1 x ga1 gc1 LC1 e (HS.nt h1 aPk) hr (hLC1.trans hRL) om)) (λ⟨⟨⟨c1,m1,r1⟩,⟨na1,nc1⟩,L1⟩,⟨qa1,qn1,qc1⟩⟩hg1=>dBa ?_)
  refine dP 4 ?_
  refine dP 5 ?_
  refine dP 6 ?_
  refine dP 7 ?_
  refine dSt 9 ?_ (hl:=(by simp only[Qm,List.length_set,List.length_cons,List.length_nil,List.length_map];omega))
  refine dTu [] ?_
  refine dP 10 ?_
  refine dP 11 ?_
  refine dNi ?_
  exact Qo (b30,(c1,m1,r1),(na1,nc1),L1,(qa1,qn1,qc1)) hg1 aSx (λw h=>h.ent aEt)
 intro⟨bU,⟨c1,m1,r1⟩,⟨na1,nc1⟩,L1,⟨qa1,qn1,qc1⟩⟩ hg1
 dsimp only
 have hg1:(inE (rdI x).1.1 e)=0->(⟨c1,m1,r1,pln L1⟩:Tre)=(inT (rdI x).1.1 e):=hg1
 refine Zl ?_
 refine XF 9 101 110 rfl
  (λhg33 _=>by
   refine aU5 ?_
   refine o_p (Qp rfl rfl Tryz.underlying9) rfl (aU5 ?_)
   refine o_p (Qp rfl rfl Tryz.underlying9) rfl (aT2 ?_)
   refine aU2 ?_
   exact oJt 9 110)
  (λhg35 _=>by
   refine aU8 ?_
   exact oJf 9 110) ?_
 refine aU ?_
 refine ZC (α:=Unit) [20] (λ_=>[(20,.int .i64 (XL (rdI x).1.1 e))]) (λ_=>True) ?_ ?_
 ·skip
  refine sCd rfl (λh37=>?_) λh37=>?_
  ·have h13:(XL (rdI x).1.1 e)=8:=by have hq:=h37;unfold XL;rw[if_pos hq.1,if_neg om]
   refine aU3 ?_
   exact Qo () trivial (by rw[h13];exact aSx) (λw h=>h.ent aEt)
  have h13:(XL (rdI x).1.1 e)=inE (rdI x).1.1 e:=by have hq:=h37;unfold XL;split;(rw[if_pos om];omega);rfl
  refine aU ?_
  exact Qo () trivial (by rw[h13];exact aSx) (λw h=>h.ent aEt)
 intro _ _
 refine aU6 ?_
 refine XF 4 113 117 rfl
  (λhg38 _=>by
   refine aU3 ?_
   refine oCq rfl (λw1 h1=>c35 w1 lsn) (aU2 ?_)
   exact oJt 4 117)
  (λhg40 _=>by
   refine aU3 ?_
   exact oJf 4 117) ?_
 refine aU ?_
 refine Qg (L':=[(2,_),(3,_),(4,_),(6,_),(7,_),(8,_),(9,_),(10,_),(11,_),(12,_),(13,_),(16,_),(17,_),(20,_),(117,_)]) aSx (λ_ h=>h) ?_
 refine ZC (α:=Unit) [20] (λ_=>[(20,.int .i64 (opE x (XL (rdI x).1.1 e) lsn))]) (λ_=>True) ?_ ?_
 ·skip
  refine sCd rfl (λh42=>?_) λh42=>?_
  ·have hA:(opE x (XL (rdI x).1.1 e) lsn)=2:=by have hq:=h42;rw[hrt];grind
   refine aU3 ?_
   exact Qo () trivial (by rw[hA];exact aSx) (λw h=>h.ent aEt)
  have hA:(opE x (XL (rdI x).1.1 e) lsn)=(XL (rdI x).1.1 e):=by have hq:=h42;rw[hrt];grind
  refine aU ?_
  exact Qo () trivial (by rw[hA];exact aSx) (λw h=>h.ent aEt)
 intro _ _
 refine aU6 ?_
 refine XF 14 120 134 rfl
  (λhg43 _=>by
   refine aU8 ?_
   refine oOr 4 124 128 rfl
    (λhg45 _=>by
     refine aU5 ?_
     refine o_p (QdA rfl rfl rfl Qe8 (by rfl) (by rfl) (by rfl)) rfl (aU ?_)
     exact oJf 4 128)
    (λhg47 _=>by
     refine aU4 ?_
     exact oJt 4 128) ?_
   refine aU2 ?_
   refine oOr 4 129 133 rfl
    (λhg49 _=>by
     refine aU7 ?_
     exact oJf 4 133)
    (λhg51 _=>by
     refine aU4 ?_
     exact oJt 4 133) ?_
   exact oJt 8 134)
  (λhg53 _=>by
   refine Qau ?_
   exact oJf 14 134) ?_
 refine aU ?_
 refine sCd rfl (λh55=>?_) λh55=>?_
 ·exfalso;have hq:=h55;have h9:=hq.1;rw[(Qfi h9).1,(Qfi h9).2]at hq;simp at hq
 refine aU7 ?_
 refine XY (α:=Unit) [6,21,22,137,138,139,140,141,142,143,144,145,146,147,148,149,150,151,152,153,154,155,156,157] (λ_=>[]) (λ_=>HS w [] [.own (.slice ma ((opL x (rmT (rdI x).1.1 e.key) (rmE (rdI x).1.1 e.key) lsn)).length mc) 3 1 ((opL x (rmT (rdI x).1.1 e.key) (rmE (rdI x).1.1 e.key) lsn)).length (((opL x (rmT (rdI x).1.1 e.key) (rmE (rdI x).1.1 e.key) lsn)).map λi:Nat=>Value.int .i64 (i:Int)),.nodes 27 69 ra rc RL,.blk b1 23 3 [.string (bs x.ro),.string (bs x.al),.string (bs x.bm)],.blk b2 27 2 [.string (bs e.key),.string (bs e.val)],.blk b10 23 3 [.string (bs (opX x (rmT (rdI x).1.1 e.key) (rmE (rdI x).1.1 e.key) lsn).ro),.string (bs (opX x (rmT (rdI x).1.1 e.key) (rmE (rdI x).1.1 e.key) lsn).al),.string (bs (opX x (rmT (rdI x).1.1 e.key) (rmE (rdI x).1.1 e.key) lsn).bm)],.blk b11 37 4 [.int .i64 (rdI x).1.1.co,.int .i64 (rdI x).1.1.mo,.int .i64 (rdI x).1.1.rm,.slice ra RL.length rc],.blk b12 23 3 [.string (bs []),.string (bs []),.string (bs [])]]) (λ_=>True) ?_ ?_
 ·skip
  refine sCd rfl (λh56=>?_) λh56=>?_
  ·have hE1:(opE x (XL (rdI x).1.1 e) lsn)=0:=h56
   obtain⟨_,he1,hl1⟩:=Qm6 hE1
   have hT1:=hg1 (by have hq:=he1;unfold XL at hq;grind)
   have hi1:YM (⟨c1,m1,r1,pln L1⟩:Tre)=0:=by rw[hT1];exact(Qi6 hr).ix he1
   have hO:pln RL=QH x x.n:=by rw[<-(Zk hr).2.1];exact hRL
   have hX1:(opX x (inT (rdI x).1.1 e) (XL (rdI x).1.1 e) lsn)=(chX x (QH x x.n) (⟨c1,m1,r1,pln L1⟩:Tre) lsn):=by rw[hT1];exact(QiL hE1).1
   have hK1:(opL x (inT (rdI x).1.1 e) (XL (rdI x).1.1 e) lsn)=(chL x (chX x (QH x x.n) (⟨c1,m1,r1,pln L1⟩:Tre) lsn)):=by rw[hT1];exact(QiL hE1).2
   obtain⟨hya1,hyn1⟩:=Qqe (lsn:=lsn) hr hi1 hl1
   have hid1:=(ZB hi1 (YZ hi1).1 (YZ hi1).2.1).2.2.2.2
   have hLn1:(chL x (chX x (QH x x.n) (⟨c1,m1,r1,pln L1⟩:Tre) lsn)).length<=100000:=Nat.le_trans (QcC x (chX x (QH x x.n) (⟨c1,m1,r1,pln L1⟩:Tre) lsn) _) om
   rw[hX1,hK1]
   refine aU6 ?_
   refine oCh rfl (λw1 h1=>c36 w1 x c1 m1 r1 na1 nc1 L1 (rdI x).1.1.co (rdI x).1.1.mo (rdI x).1.1.rm ra rc RL lsn (HS.nt h1 aPk) (HS.nt h1 aPk) hr hO hi1 hl1 om) (λ⟨va1,vc1⟩_=>aU3 ?_)
   refine oAl (λb57 _=>?_) YN
   refine aU8 ?_
   refine oOr 4 147 151 rfl
    (λhg58 _=>by
     refine aU5 ?_
     refine o_p (QdA rfl rfl rfl Qe8 (by rfl) (by rfl) (by rfl)) rfl ?_
     exact oJf 4 151)
    (λhg60 _=>by
     refine aU3 ?_
     exact oJt 4 151) ?_
   refine aU ?_
   refine oOr 5 152 157 rfl
    (λhg62 _=>by
     refine aU5 ?_
     refine oCq rfl (λw1 h1=>c15P w1 la va1 lc vc1 (chL x (chX x (QH x x.n) (⟨c1,m1,r1,pln L1⟩:Tre) lsn)) (chL x (chX x (QH x x.n) (⟨c1,m1,r1,pln L1⟩:Tre) lsn)) (HS.pown_row (P:=(chL x (chX x (QH x x.n) (⟨c1,m1,r1,pln L1⟩:Tre) lsn))) h1 aPk) (HS.pown_row (P:=(chL x (chX x (QH x x.n) (⟨c1,m1,r1,pln L1⟩:Tre) lsn))) h1 aPk) hLn1 hLn1) (aU2 ?_)
     exact oJf 5 157)
    (λhg64 _=>by
     refine aU4 ?_
     exact oJt 5 157) ?_
   refine aU ?_
   refine sCd rfl (λh66=>?_) λh66=>?_
   ·exfalso;have hq:=h66;simp[hE1]at hq
   refine aU ?_
   exact Qo () trivial aSx (λw h=>h.ent aEt)
  refine aU ?_
  exact Qo () trivial aSx (λw h=>h.ent aEt)
 intro _ _
 refine aU ?_
 refine Qg (L':=[(2,_),(3,_),(4,_),(10,_),(11,_),(12,_),(13,_),(16,_),(20,_)]) aSx (λ_ h=>h) ?_
 refine XY (α:=Nat×(Int×Int×Int)×(Option Addr×Nat)×List LNd×(Option Addr×Nat×Nat)) [23,24,25,158,159,160,161,162,163,164,165,166] (λy=>[(23,.pointer (some ⟨y.1,0,none⟩)),(24,.slice y.2.2.2.2.1 y.2.2.2.2.2.1 y.2.2.2.2.2.2),(25,.int .i64 (rmE (rdI x).1.1 e.key))]) (λy=>HS w [] [.blk y.1 37 4 [.int .i64 y.2.1.1,.int .i64 y.2.1.2.1,.int .i64 y.2.1.2.2,.slice y.2.2.1.1 y.2.2.2.1.length y.2.2.1.2],.nodes 27 69 y.2.2.1.1 y.2.2.1.2 y.2.2.2.1,.nodes 27 69 ra rc RL,.own (.slice ma ((opL x (rmT (rdI x).1.1 e.key) (rmE (rdI x).1.1 e.key) lsn)).length mc) 3 1 ((opL x (rmT (rdI x).1.1 e.key) (rmE (rdI x).1.1 e.key) lsn)).length (((opL x (rmT (rdI x).1.1 e.key) (rmE (rdI x).1.1 e.key) lsn)).map λi:Nat=>Value.int .i64 (i:Int)),.blk b1 23 3 [.string (bs x.ro),.string (bs x.al),.string (bs x.bm)],.blk b2 27 2 [.string (bs e.key),.string (bs e.val)],.blk b10 23 3 [.string (bs (opX x (rmT (rdI x).1.1 e.key) (rmE (rdI x).1.1 e.key) lsn).ro),.string (bs (opX x (rmT (rdI x).1.1 e.key) (rmE (rdI x).1.1 e.key) lsn).al),.string (bs (opX x (rmT (rdI x).1.1 e.key) (rmE (rdI x).1.1 e.key) lsn).bm)],.blk b11 37 4 [.int .i64 (rdI x).1.1.co,.int .i64 (rdI x).1.1.mo,.int .i64 (rdI x).1.1.rm,.slice ra RL.length rc],.blk b12 23 3 [.string (bs []),.string (bs []),.string (bs [])]]) (λy=>(rmE (rdI x).1.1 e.key)=0->(⟨y.2.1.1,y.2.1.2.1,y.2.1.2.2,pln y.2.2.2.1⟩:Tre)=(rmT (rdI x).1.1 e.key)) ?_ ?_
 ·skip
  refine Qt [10] QC ?_
  refine dLn 0 [[]] ?_
  refine dFa 2 ?_
  refine dLd 3 [[]] ?_
  refine QjB 1 9 rfl rfl (Yi rfl Qja rfl (λw1 h1=>c21 w1 (rdI x).1.1.co (rdI x).1.1.mo (rdI x).1.1.rm ra rc RL (HS.nt h1 aPk) (by rw[<-Qb,hRL];exact(Qft hr).2) (by rw[hRL];exact(Qft hr).1))) (ZX rfl Xh) (by kernel_rfl) (λw h=>h.ent aEt) rfl rfl (λ⟨⟨ga2,gc2⟩,LC2⟩hLC2=>?_) (λb67 _=>?_)
  ·skip
   refine dBa ?_
   refine QjB 4 9 rfl rfl (Yi rfl Qnj rfl (λw1 h1=>QuG w1 x ga2 gc2 LC2 e.key (HS.nt h1 aPk) hr (hLC2.trans hRL) om)) (ZX rfl Xh) (by kernel_rfl) (λw h=>h.ent aEt) rfl rfl (λ⟨⟨⟨c2,m2,r2⟩,⟨na2,nc2⟩,L2⟩,⟨qa2,qn2,qc2⟩⟩hg2=>?_) (λb68 _=>?_)
   ·skip
    refine dBa ?_
    refine dP 5 ?_
    refine dP 6 ?_
    refine dP 7 ?_
    refine dP 8 ?_
    refine dH 9 rfl (ZX rfl Xh) (λb69 _=>dBa ?_)
    refine dSt 10 ?_ (hl:=(by simp only[Qm,List.length_set,List.length_cons,List.length_nil,List.length_map];omega))
    refine dTu [] ?_
    refine dP 11 ?_
    refine dP 12 ?_
    refine dNi ?_
    exact Qo (b69,(c2,m2,r2),(na2,nc2),L2,(qa2,qn2,qc2)) hg2 aSx (λw h=>h.ent aEt)
   skip
   refine dBa ?_
   refine dH 4 rfl (Yi rfl Qnj rfl (λw1 h1=>QuG w1 x ga2 gc2 LC2 e.key (HS.nt h1 aPk) hr (hLC2.trans hRL) om)) (λ⟨⟨⟨c2,m2,r2⟩,⟨na2,nc2⟩,L2⟩,⟨qa2,qn2,qc2⟩⟩hg2=>dBa ?_)
   refine dP 5 ?_
   refine dP 6 ?_
   refine dP 7 ?_
   refine dP 8 ?_
   refine dSt 10 ?_ (hl:=(by simp only[Qm,List.length_set,List.length_cons,List.length_nil,List.length_map];omega))
   refine dTu [] ?_
   refine dP 11 ?_
   refine dP 12 ?_
   refine dNi ?_
   exact Qo (b68,(c2,m2,r2),(na2,nc2),L2,(qa2,qn2,qc2)) hg2 aSx (λw h=>h.ent aEt)
  skip
  refine dBa ?_
  refine dH 1 rfl (Yi rfl Qja rfl (λw1 h1=>c21 w1 (rdI x).1.1.co (rdI x).1.1.mo (rdI x).1.1.rm ra rc RL (HS.nt h1 aPk) (by rw[<-Qb,hRL];exact(Qft hr).2) (by rw[hRL];exact(Qft hr).1))) (λ⟨⟨ga2,gc2⟩,LC2⟩hLC2=>dBa ?_)
  refine dH 4 rfl (Yi rfl Qnj rfl (λw1 h1=>QuG w1 x ga2 gc2 LC2 e.key (HS.nt h1 aPk) hr (hLC2.trans hRL) om)) (λ⟨⟨⟨c2,m2,r2⟩,⟨na2,nc2⟩,L2⟩,⟨qa2,qn2,qc2⟩⟩hg2=>dBa ?_)
  refine dP 5 ?_
  refine dP 6 ?_
  refine dP 7 ?_
  refine dP 8 ?_
  refine dSt 10 ?_ (hl:=(by simp only[Qm,List.length_set,List.length_cons,List.length_nil,List.length_map];omega))
  refine dTu [] ?_
  refine dP 11 ?_
  refine dP 12 ?_
  refine dNi ?_
  exact Qo (b67,(c2,m2,r2),(na2,nc2),L2,(qa2,qn2,qc2)) hg2 aSx (λw h=>h.ent aEt)
 intro⟨bU,⟨c2,m2,r2⟩,⟨na2,nc2⟩,L2,⟨qa2,qn2,qc2⟩⟩ hg2
 dsimp only
 have hg2:(rmE (rdI x).1.1 e.key)=0->(⟨c2,m2,r2,pln L2⟩:Tre)=(rmT (rdI x).1.1 e.key):=hg2
 refine Zl ?_
 refine XF 4 170 174 rfl
  (λhg70 _=>by
   refine aU3 ?_
   refine oCq rfl (λw1 h1=>c35 w1 lsn) (aU2 ?_)
   exact oJt 4 174)
  (λhg72 _=>by
   refine aU3 ?_
   exact oJf 4 174) ?_
 refine aU ?_
 refine ZC (α:=Unit) [20] (λ_=>[(20,.int .i64 (opE x (rmE (rdI x).1.1 e.key) lsn))]) (λ_=>True) ?_ ?_
 ·skip
  refine sCd rfl (λh74=>?_) λh74=>?_
  ·have hB:(opE x (rmE (rdI x).1.1 e.key) lsn)=2:=by have hq:=h74;rw[hrt];grind
   refine aU3 ?_
   exact Qo () trivial (by rw[hB];exact aSx) (λw h=>h.ent aEt)
  have hB:(opE x (rmE (rdI x).1.1 e.key) lsn)=(rmE (rdI x).1.1 e.key):=by have hq:=h74;rw[hrt];grind
  refine aU ?_
  exact Qo () trivial (by rw[hB];exact aSx) (λw h=>h.ent aEt)
 intro _ _
 refine aU6 ?_
 refine sCd rfl (λh75=>?_) λh75=>?_
 ·have hB:¬(opE x (rmE (rdI x).1.1 e.key) lsn)=0:=h75
  rw[(Qfi hB).1,(Qfi hB).2]
  refine aU6 ?_
  refine XF 4 180 184 rfl
   (λhg76 _=>by
    refine aU5 ?_
    refine o_p (Qdw rfl rfl rfl Qe8 (by rfl) (by rfl) (by rfl)) rfl ?_
    exact oJt 4 184)
   (λhg78 _=>by
    refine aU3 ?_
    exact oJf 4 184) ?_
  refine aU ?_
  refine XF 4 185 189 rfl
   (λhg80 _=>by
    refine aU6 ?_
    exact oJt 4 189)
   (λhg82 _=>by
    refine aU3 ?_
    exact oJf 4 189) ?_
  refine aU2 ?_
  exact rV (h:=by first|rfl|(simp[Xf];done)|(simp[Xf];rfl))
 have hE2:(opE x (rmE (rdI x).1.1 e.key) lsn)=0:=by have hq:=h75;simpa using hq
 obtain⟨_,he2,hl2⟩:=Qm6 hE2
 have hT2:=hg2 (he2)
 have hi2:YM (⟨c2,m2,r2,pln L2⟩:Tre)=0:=by rw[hT2];exact(QiU hr).ix he2
 have hO:pln RL=QH x x.n:=by rw[<-(Zk hr).2.1];exact hRL
 have hX2:(opX x (rmT (rdI x).1.1 e.key) (rmE (rdI x).1.1 e.key) lsn)=(chX x (QH x x.n) (⟨c2,m2,r2,pln L2⟩:Tre) lsn):=by rw[hT2];exact(QiL hE2).1
 have hK2:(opL x (rmT (rdI x).1.1 e.key) (rmE (rdI x).1.1 e.key) lsn)=(chL x (chX x (QH x x.n) (⟨c2,m2,r2,pln L2⟩:Tre) lsn)):=by rw[hT2];exact(QiL hE2).2
 obtain⟨hya2,hyn2⟩:=Qqe (lsn:=lsn) hr hi2 hl2
 have hid2:=(ZB hi2 (YZ hi2).1 (YZ hi2).2.1).2.2.2.2
 have hLn2:(chL x (chX x (QH x x.n) (⟨c2,m2,r2,pln L2⟩:Tre) lsn)).length<=100000:=Nat.le_trans (QcC x (chX x (QH x x.n) (⟨c2,m2,r2,pln L2⟩:Tre) lsn) _) om
 rw[hX2,hK2]
 refine aU7 ?_
 refine oCh rfl (λw1 h1=>c36 w1 x c2 m2 r2 na2 nc2 L2 (rdI x).1.1.co (rdI x).1.1.mo (rdI x).1.1.rm ra rc RL lsn (HS.nt h1 aPk) (HS.nt h1 aPk) hr hO hi2 hl2 om) (λ⟨va2,vc2⟩_=>aU3 ?_)
 refine oAl (λb84 _=>?_) YN
 refine aU8 ?_
 refine XF 4 200 204 rfl
  (λhg85 _=>by
   refine aU5 ?_
   refine o_p (Qdw rfl rfl rfl Qe8 (by rfl) (by rfl) (by rfl)) rfl ?_
   exact oJt 4 204)
  (λhg87 _=>by
   refine aU3 ?_
   exact oJf 4 204) ?_
 refine aU ?_
 refine XF 4 205 209 rfl
  (λhg89 _=>by
   refine aU5 ?_
   refine oCq rfl (λw1 h1=>c15P w1 ma va2 mc vc2 (chL x (chX x (QH x x.n) (⟨c2,m2,r2,pln L2⟩:Tre) lsn)) (chL x (chX x (QH x x.n) (⟨c2,m2,r2,pln L2⟩:Tre) lsn)) (HS.pown_row (P:=(chL x (chX x (QH x x.n) (⟨c2,m2,r2,pln L2⟩:Tre) lsn))) h1 aPk) (HS.pown_row (P:=(chL x (chX x (QH x x.n) (⟨c2,m2,r2,pln L2⟩:Tre) lsn))) h1 aPk) hLn2 hLn2) ?_
   exact oJt 4 209)
  (λhg91 _=>by
   refine aU3 ?_
   exact oJf 4 209) ?_
 refine aU2 ?_
 exact rV (h:=by simp[Xf,hE2])
theorem c8z(w:World)(x:Ixs)(e:TEnt)(lsn:Int)(hz:¬(Qoe x=true/\QgM e=true)):CR 8 #[.agg #[.string (bs x.ro),.string (bs x.al),.string (bs x.bm)],.agg #[.string (bs e.key),.string (bs e.val)],.int .i64 lsn] w (.bool true):=by
 refine eN3 Tryz.func8 Tryz.ntmps8 ?_
 refine aU2 ?_
 refine oBx λb1 _=>?_
 refine oBx λb2 _=>?_
 refine aU5 ?_
 refine oCq rfl (λw1 h1=>c11w w1) (aU2 ?_)
 refine sCd rfl (λh3=>?_) λh3=>?_
 ·exfalso;simp at h3
 refine aU5 ?_
 refine oCq rfl (λw1 h1=>c12 w1 x) (aU2 ?_)
 refine oOr 4 33 37 rfl
  (λhg4 _=>by
   refine aU3 ?_
   refine oCq rfl (λw1 h1=>c42 w1 e) (aU2 ?_)
   exact oJf 4 37)
  (λhg6 _=>by
   refine aU3 ?_
   exact oJt 4 37) ?_
 refine aU ?_
 refine sCd rfl (λh8=>?_) λh8=>?_
 ·refine aU4 ?_
  exact rV
 exfalso;have hq:=h8;exact hz (by simpa using hq)
theorem c8(w:World)(x:Ixs)(e:TEnt)(lsn:Int):CR 8 #[.agg #[.string (bs x.ro),.string (bs x.al),.string (bs x.bm)],.agg #[.string (bs e.key),.string (bs e.val)],.int .i64 lsn] w (.bool true):=by
  by_cases hz:Qoe x=true/\QgM e=true
  · exact c8a w x e lsn hz.1 hz.2
  · exact c8z w x e lsn hz
end Go.Proofs
